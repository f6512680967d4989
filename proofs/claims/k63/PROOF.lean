import PyProof.Rows.All
import HandS.ForMost
import HandS.ForExc
import HandS.CallSlots
import HandS.IsInst
import HandS.Flow
import HandS.ExcCtx
import HandS.HotCalls
import HandS.ExcInit
import HandS.ExcField
import HandS.ExcIs
import HandS.TupAny
import HandS.TupLe
import HandS.Deep
import HandS.WideBits
import HandS.Conv
import KE.DataCmp
import HandS.Text
import HandS.SetFor
import HandS.Walk
import HandS.SortInts
import HandS.TupSets
import KE.SortData
import HandS.Zip
import HandS.Steps
import KE.KRevSl
import KE.KExcIs
import KE.DataFind
import HandS.ExcInitHot
import HandS.Iter
import HandS.Hot
import HandS.Comp
import KE.GoesMore
import PyProof.EnumMake
import HandS.TupMul
import HandS.Dict
import HandS.TupLen
import HandS.Small
import HandS.Strs
import KE.DataMinMax
import PyProof.SetRoads
import KE.KDictZip
import KE.KItemsList
import HandS.DictTup
import HandS.More
import HandS.ListItems
import KE.KDictItemsList
import PyProof.LongRange
import KE.KDictKeyed
import HandS.Codes
import HandS.ReplaceLit
import PySem.Challenge.RW_coverclocks_k63_exact_clocks_by_steps
set_option Elab.async false
set_option linter.all false
set_option autoImplicit false
set_option maxRecDepth 100000
set_option maxHeartbeats 4000000
/-! The D layer, 1: data by value over the abstract heap; slots; what relates them; judgements. -/
namespace L2
namespace Dl
open PySem PySem.Spec PyProof.Rows

/-! ### data that stand still in F -/
mutual
inductive Rp (K : PySem.W.Frag) (F : Hp) : V → PyData → Prop
  | non : Rp K F .non .none
  | bl (b : Bool) : Rp K F (.bl b) (.bool b)
  | int (i : Int) : Rp K F (.int i) (.int i)
  | str (x : Str) : Rp K F (.str x) (.str x)
  | lst {a : Addr} {xs : List V} {ds : List PyData} : SqL K F a xs → RpAll K F xs ds → Rp K F (.ref a) (.list ds)
  | tup {a : Addr} {xs : List V} {ds : List PyData} : F a = some (.tup xs) → RpAll K F xs ds → Rp K F (.ref a) (.tuple ds)
  | dct {a : Addr} : F a = some (.dK []) → Rp K F (.ref a) (.dict [])
inductive RpAll (K : PySem.W.Frag) (F : Hp) : List V → List PyData → Prop
  | nil : RpAll K F [] []
  | cons {v : V} {vs : List V} {d : PyData} {ds : List PyData} : Rp K F v d → RpAll K F vs ds → RpAll K F (v :: vs) (d :: ds)
end
theorem sqT_same {K : PySem.W.Frag} {H H' : Hp} {a : Addr} {xs : List V} (e : Same H H') (h : SqT K H a xs) : SqT K H' a xs := by
  rcases h with (h | ⟨o, h⟩) | h
  · exact .inl (.inl (e _ _ h))
  · exact .inl (.inr ⟨o, e _ _ h⟩)
  · exact .inr h
theorem SqT.of {K : PySem.W.Frag} {F : Hp} {a : Addr} {xs : List V} (h : F a = some (.tup xs)) : SqT K F a xs := .inl (.inl h)
section
variable {K : PySem.W.Frag} {F F' H : Hp}
mutual
theorem Rp.mono (s : Same F F') : ∀ (d : PyData) (v : V), Rp K F v d → Rp K F' v d
  | .none, _, h => by cases h; exact .non
  | .bool b, _, h => by cases h; exact .bl b
  | .int b, _, h => by cases h; exact .int b
  | .str b, _, h => by cases h; exact .str b
  | .list ds, _, h => by
    cases h with
    | lst a b => exact .lst (s.seq a) (RpAll.mono s ds _ b)
  | .tuple ds, _, h => by
    cases h with
    | tup a b => exact .tup (s _ _ a) (RpAll.mono s ds _ b)
  | .dict _, _, h => by
    cases h with
    | dct a => exact .dct (s _ _ a)
theorem RpAll.mono (s : Same F F') : ∀ (ds : List PyData) (vs : List V), RpAll K F vs ds → RpAll K F' vs ds
  | [], _, h => by cases h; exact .nil
  | d :: ds, _, h => by
    cases h with
    | cons a b => exact .cons (Rp.mono s d _ a) (RpAll.mono s ds _ b)
end
theorem RpAll.length : ∀ {vs : List V} {ds : List PyData}, RpAll K F vs ds → vs.length = ds.length
  | _, [], h => by cases h; rfl
  | _, d :: ds, h => by
    cases h with
    | cons a b => rw [List.length_cons, List.length_cons, b.length]
theorem RpAll.append : ∀ {vs : List V} {ds : List PyData} {ws : List V} {es : List PyData}, RpAll K F vs ds → RpAll K F ws es → RpAll K F (vs ++ ws) (ds ++ es)
  | _, [], _, _, h, k => by cases h; exact k
  | _, d :: ds, _, _, h, k => by
    cases h with
    | cons a b => exact .cons a (RpAll.append b k)
theorem RpAll.get : ∀ {vs : List V} {ds : List PyData} {i : Nat} {d : PyData}, RpAll K F vs ds → ds[i]? = some d → ∃ v, vs[i]? = some v ∧ Rp K F v d
  | _, [], _, _, _, e => by simp at e
  | _, x :: ds, 0, d, h, e => by
    cases h with
    | cons a b =>
      have e' : x = d := by simpa using e
      subst e'
      exact ⟨_, rfl, a⟩
  | _, x :: ds, i + 1, d, h, e => by
    cases h with
    | cons a b =>
      obtain ⟨v, h1, h2⟩ := RpAll.get (i := i) b (by simpa using e)
      exact ⟨v, by simpa using h1, h2⟩
theorem RpAll.get2 : ∀ {vs : List V} {ds : List PyData} {i : Nat} {v : V}, RpAll K F vs ds → vs[i]? = some v → ∃ d, ds[i]? = some d ∧ Rp K F v d := fun {vs ds i v} h e => by
  have hl := h.length
  have hi : i < vs.length := (List.getElem?_eq_some_iff.mp e).1
  obtain ⟨w, e2, r⟩ := h.get (i := i) (d := ds[i]'(by omega)) (by simp [← hl, hi])
  rw [e] at e2
  cases e2
  exact ⟨_, by simp [← hl, hi], r⟩
theorem RpAll.take : ∀ {vs : List V} {ds : List PyData} (n : Nat), RpAll K F vs ds → RpAll K F (vs.take n) (ds.take n)
  | _, [], n, h => by cases h; cases n <;> exact .nil
  | _, d :: ds, 0, h => .nil
  | _, d :: ds, n + 1, h => by
    cases h with
    | cons a b => exact .cons a (b.take n)
theorem RpAll.drop : ∀ {vs : List V} {ds : List PyData} (n : Nat), RpAll K F vs ds → RpAll K F (vs.drop n) (ds.drop n)
  | _, [], n, h => by cases h; cases n <;> exact .nil
  | _, d :: ds, 0, h => h
  | _, d :: ds, n + 1, h => by
    cases h with
    | cons a b => exact b.drop n
theorem RpAll.set : ∀ {vs : List V} {ds : List PyData} (n : Nat) {v : V} {d : PyData}, RpAll K F vs ds → Rp K F v d → RpAll K F (vs.set n v) (ds.set n d)
  | _, [], n, _, _, h, r => by cases h; exact .nil
  | _, _ :: ds, 0, _, _, h, r => by
    cases h with
    | cons a b => exact .cons r b
  | _, _ :: ds, n + 1, _, _, h, r => by
    cases h with
    | cons a b => exact .cons a (b.set n r)
theorem RpAll.erase : ∀ {vs : List V} {ds : List PyData} (n : Nat), RpAll K F vs ds → RpAll K F (vs.eraseIdx n) (ds.eraseIdx n)
  | _, [], n, h => by cases h; exact .nil
  | _, d :: ds, 0, h => by
    cases h with
    | cons a b => exact b
  | _, d :: ds, n + 1, h => by
    cases h with
    | cons a b => exact .cons a (b.erase n)
theorem RpAll.reverse : ∀ {vs : List V} {ds : List PyData}, RpAll K F vs ds → RpAll K F vs.reverse ds.reverse
  | _, [], h => by cases h; exact .nil
  | _, d :: ds, h => by
    cases h with
    | cons a b =>
      rw [List.reverse_cons, List.reverse_cons]
      exact b.reverse.append (.cons a .nil)
theorem RpAll.ints : ∀ {ns : List Int} {vs : List V}, RpAll K F vs (ns.map .int) → vs = ns.map .int
  | [], _, h => by cases h; rfl
  | n :: ns, _, h => by
    cases h with
    | cons a b =>
      cases a
      rw [b.ints]
      rfl
theorem RpAll.of_ints : ∀ (ns : List Int), RpAll K F (ns.map .int) (ns.map .int)
  | [] => .nil
  | n :: ns => .cons (.int n) (RpAll.of_ints ns)
theorem RpAll.bools : ∀ {bs : List Bool} {vs : List V}, RpAll K F vs (bs.map .bool) → vs = bs.map .bl
  | [], _, h => by cases h; rfl
  | n :: ns, _, h => by
    cases h with
    | cons a b =>
      cases a
      rw [b.bools]
      rfl
end

/-! ### slots -/
inductive Sl where
  | un
  | val (d : PyData)
  | own (l : Bool) (ds : List PyData)
  | dct (kvs : List (List Int × PyData))
abbrev Ev := List Sl
inductive Rs where
  | val (d : PyData)
  | slot (i : Nat)
  | tmp (ds : List PyData)
/-- an exception: its class's name, its fields -/
structure XD where
  name : Str
  fs : List (Str × PyData)
/-- the ground of a def's run: the heap and the frozen part at its entry, the lent slots with their addresses, the module's names -/
structure Bs where
  H0 : Hp
  F0 : Hp
  lent : List (Nat × Addr)
  mg : Str → Option Value
  fns : List (Nat × Addr) := []
/-- the places that hold what they held -/
abbrev Bs.all (B : Bs) : List (Nat × Addr) := B.lent ++ B.fns

/-- a value of a dict: no object -/
def vOf : PyData → V
  | .int i => .int i
  | .bool b => .bl b
  | .str x => .str x
  | _ => .non
def kvO (kvs : List (List Int × PyData)) : List (List Key × V) := kvs.map fun p => (p.1.map Sum.inl, vOf p.2)
/-- nothing stood there, or the thing is a tuple -/
def Nw0 (H : Hp) (b : Addr) (x : HO) : Prop := H b = none ∨ ∃ ys, x = .tup ys
/-- nothing stood there, or just this tuple -/
def Nw1 (H : Hp) (b : Addr) (x : HO) : Prop := H b = none ∨ (H b = some x ∧ ∃ ys, x = .tup ys)
theorem Nw1.lst {H : Hp} {b : Addr} {x : HO} {vs : List V} (h : Nw1 H b x) (e : H b = some (.lst vs)) : False := by
  rcases h with h | ⟨h, ys, rfl⟩
  · rw [e] at h; cases h
  · rw [e] at h; cases h
theorem Nw1.dT {H : Hp} {b : Addr} {x : HO} {ks : List (List Key × V)} (h : Nw1 H b x) (e : H b = some (.dT ks)) : False := by
  rcases h with h | ⟨h, ys, rfl⟩
  · rw [e] at h; cases h
  · rw [e] at h; cases h
def slR (K : PySem.W.Frag) (F H : Hp) : Option Sl → Option (Option V) → Prop
  | some (.val d), o => ∃ v, o = some (some v) ∧ Rp K F v d
  | some (.own _ ds), o => ∃ a vs, o = some (some (.ref a)) ∧ H a = some (.lst vs) ∧ F a = none ∧ RpAll K F vs ds
  | some (.dct kvs), o => ∃ a, o = some (some (.ref a)) ∧ H a = some (.dT (kvO kvs)) ∧ F a = none
  | _, _ => True
def ownL (env : Ev) (σ : St) (a : Addr) : Prop := ∃ (i : Nat) (l : Bool) (ds : List PyData), env[i]? = some (Sl.own l ds) ∧ σ[i]? = some (some (.ref a))
def ownAt (env : Ev) (σ : St) (a : Addr) : Prop := ownL env σ a ∨ ∃ (i : Nat) (kvs : List (List Int × PyData)), env[i]? = some (Sl.dct kvs) ∧ σ[i]? = some (some (.ref a))
structure Rl (K : PySem.W.Frag) (B : Bs) (F H : Hp) (env : Ev) (σ : St) : Prop where
  len : env.length = σ.length
  sub : Same F H
  sl : ∀ i : Nat, slR K F H env[i]? σ[i]?
  dist : ∀ (i j : Nat) (l m : Bool) (ds es : List PyData) (a : Addr), env[i]? = some (Sl.own l ds) → env[j]? = some (Sl.own m es) → σ[i]? = some (some (.ref a)) → σ[j]? = some (some (.ref a)) → i = j
  sub0 : Same B.F0 F
  new : ∀ b x, F b = some x → B.F0 b = some x ∨ Nw0 B.H0 b x
  frm : ∀ b x, B.H0 b = some x → (∀ p ∈ B.lent, p.2 ≠ b) → H b = some x
  dom : ∀ b, B.H0 b ≠ none → H b ≠ none
  own0 : ∀ (i : Nat) (ds : List PyData) (a : Addr), env[i]? = some (Sl.own false ds) → σ[i]? = some (some (.ref a)) → B.H0 a = none
  own1 : ∀ (i : Nat) (ds : List PyData) (a : Addr), env[i]? = some (Sl.own true ds) → σ[i]? = some (some (.ref a)) → ∃ p ∈ B.lent, p.2 = a
  lsl : ∀ p ∈ B.all, σ[p.1]? = some (some (.ref p.2))
  dd : ∀ (i j : Nat) (kv kw : List (List Int × PyData)) (a : Addr), env[i]? = some (Sl.dct kv) → env[j]? = some (Sl.dct kw) → σ[i]? = some (some (.ref a)) → σ[j]? = some (some (.ref a)) → i = j
  d0 : ∀ (i : Nat) (kv : List (List Int × PyData)) (a : Addr), env[i]? = some (Sl.dct kv) → σ[i]? = some (some (.ref a)) → B.H0 a = none
structure Fm (env : Ev) (σ : St) (F H : Hp) (env' : Ev) (F' H' : Hp) : Prop where
  keep : ∀ b x, H b = some x → ¬ ownAt env σ b → H' b = some x
  sub : Same F F'
  new : ∀ b x, F' b = some x → F b = some x ∨ Nw1 H b x ∨ ownAt env σ b
  own : ∀ (i : Nat) (l : Bool) (ds : List PyData), env'[i]? = some (Sl.own l ds) → ∃ ds0, env[i]? = some (Sl.own l ds0)
  dom : ∀ b, H b ≠ none → H' b ≠ none
  od : ∀ (i : Nat) (kv : List (List Int × PyData)), env'[i]? = some (Sl.dct kv) → ∃ kw, env[i]? = some (Sl.dct kw)
section
variable {env env1 env2 : Ev} {σ : St} {F F1 F2 H H1 H2 : Hp}
theorem Fm.refl : Fm env σ F H env F H := ⟨fun _ _ h _ => h, fun _ _ h => h, fun _ _ h => .inl h, fun _ _ _ h => ⟨_, h⟩, fun _ h => h, fun _ _ h => ⟨_, h⟩⟩
theorem Fm.ownAt (f : Fm env σ F H env1 F1 H1) {a : Addr} (h : L2.Dl.ownAt env1 σ a) : L2.Dl.ownAt env σ a := by
  rcases h with ⟨i, l, ds, h1, h2⟩ | ⟨i, kv, h1, h2⟩
  · obtain ⟨ds0, h3⟩ := f.own i l ds h1
    exact .inl ⟨i, l, ds0, h3, h2⟩
  · obtain ⟨kw, h3⟩ := f.od i kv h1
    exact .inr ⟨i, kw, h3, h2⟩
theorem Fm.trans (f : Fm env σ F H env1 F1 H1) (g : Fm env1 σ F1 H1 env2 F2 H2) : Fm env σ F H env2 F2 H2 where
  keep := fun b x h n => g.keep b x (f.keep b x h n) fun q => n (f.ownAt q)
  sub := f.sub.trans g.sub
  new := fun b x h => by
    rcases g.new b x h with h | h | h
    · exact f.new b x h
    · cases q : H b with
      | none => exact .inr (.inl (.inl q))
      | some y =>
        by_cases o : L2.Dl.ownAt env σ b
        · exact .inr (.inr o)
        · rcases h with h | ⟨h, z⟩
          · rw [f.keep b y q o] at h
            cases h
          · rw [f.keep b y q o] at h
            exact .inr (.inl (.inr ⟨q.trans h, z⟩))
    · exact .inr (.inr (f.ownAt h))
  own := fun i l ds h => by
    obtain ⟨ds0, h1⟩ := g.own i l ds h
    exact f.own i l ds0 h1
  dom := fun b h => g.dom b (f.dom b h)
  od := fun i kv h => by
    obtain ⟨kw, h1⟩ := g.od i kv h
    exact f.od i kw h1
end

def Res (K : PySem.W.Frag) (B : Bs) (F H : Hp) (env : Ev) (σ : St) (v : V) : Rs → Prop
  | .val d => Rp K F v d
  | .slot i => σ[i]? = some (some v)
  | .tmp ds => ∃ p vs, v = .ref p ∧ H p = some (.lst vs) ∧ F p = none ∧ B.H0 p = none ∧ ¬ ownAt env σ p ∧ RpAll K F vs ds
/-- what a result is worth now -/
def rd (env : Ev) : Rs → Option PyData
  | .val d => some d
  | .slot i => match env[i]? with
    | some (.val d) => some d
    | some (.own _ ds) => some (.list ds)
    | _ => none
  | .tmp ds => some (.list ds)
/-- data at v: in F, or a list in H of data in F -/
def Rt (K : PySem.W.Frag) (F H : Hp) (v : V) (d : PyData) : Prop := Rp K F v d ∨ ∃ a vs ds, v = .ref a ∧ d = .list ds ∧ H a = some (.lst vs) ∧ RpAll K F vs ds
section
variable {K : PySem.W.Frag} {B : Bs} {env env' : Ev} {σ : St} {F F' H H' : Hp} {v : V} {r : Rs} {d : PyData}
theorem Res.step (f : Fm env σ F H env' F' H') (h : Res K B F H env σ v r) : Res K B F' H' env' σ v r := by
  cases r with
  | val d => exact Rp.mono f.sub d v h
  | slot i => exact h
  | tmp ds =>
    obtain ⟨p, vs, h1, h2, h3, h4, h5, h6⟩ := h
    refine ⟨p, vs, h1, f.keep _ _ h2 h5, ?_, h4, fun q => h5 (f.ownAt q), RpAll.mono f.sub _ _ h6⟩
    cases q : F' p with
    | none => rfl
    | some x =>
      rcases f.new p x q with z | z | z
      · rw [h3] at z; cases z
      · exact (z.lst h2).elim
      · exact absurd z h5
theorem Res.rt (R : Rl K B F H env σ) (h : Res K B F H env σ v r) (e : rd env r = some d) : Rt K F H v d := by
  cases r with
  | val d' =>
    have e' : d' = d := by simpa [rd] using e
    subst e'
    exact .inl h
  | slot i =>
    have s := R.sl i
    have h' : σ[i]? = some (some v) := h
    simp only [rd] at e
    split at e
    · rename_i d' q
      cases e
      rw [q] at s
      obtain ⟨w, h1, h2⟩ := s
      rw [h'] at h1
      cases h1
      exact .inl h2
    · rename_i l ds q
      cases e
      rw [q] at s
      obtain ⟨a, vs, h1, h2, _, h4⟩ := s
      rw [h'] at h1
      cases h1
      exact .inr ⟨a, vs, ds, rfl, rfl, h2, h4⟩
    · cases e
  | tmp ds =>
    obtain ⟨p, vs, h1, h2, h3, h4, h5, h6⟩ := h
    have e' : PyData.list ds = d := by simpa [rd] using e
    subst e'
    exact .inr ⟨p, vs, ds, h1, rfl, h2, h6⟩
theorem Rt.h (s : Same F H) (h : Rt K F H v d) : Rp K H v d := by
  rcases h with h | ⟨a, vs, ds, rfl, rfl, h1, h2⟩
  · exact Rp.mono s d v h
  · exact .lst (SqL.of h1) (RpAll.mono s _ _ h2)
/-- a list, its items in F -/
theorem Rt.list {ds : List PyData} (s : Same F H) (h : Rt K F H v (.list ds)) : ∃ a vs, v = .ref a ∧ SqL K H a vs ∧ RpAll K F vs ds := by
  rcases h with h | ⟨a, vs, ds', rfl, e, h1, h2⟩
  · cases h with
    | lst h1 h2 => exact ⟨_, _, rfl, s.seq h1, h2⟩
  · cases e
    exact ⟨a, vs, rfl, SqL.of h1, h2⟩
theorem Rt.tuple {ds : List PyData} (s : Same F H) (h : Rt K F H v (.tuple ds)) : ∃ a vs, v = .ref a ∧ SqT K H a vs ∧ RpAll K F vs ds := by
  rcases h with h | ⟨a, vs, ds', rfl, e, h1, h2⟩
  · cases h with
    | tup h1 h2 => exact ⟨_, _, rfl, .inl (.inl (s _ _ h1)), h2⟩
  · cases e
theorem Rt.int {i : Int} (h : Rt K F H v (.int i)) : v = .int i := by
  rcases h with h | ⟨a, vs, ds', rfl, e, h1, h2⟩
  · cases h; rfl
  · cases e
theorem Rt.bool {i : Bool} (h : Rt K F H v (.bool i)) : v = .bl i := by
  rcases h with h | ⟨a, vs, ds', rfl, e, h1, h2⟩
  · cases h; rfl
  · cases e
theorem Rt.str {i : Str} (h : Rt K F H v (.str i)) : v = .str i := by
  rcases h with h | ⟨a, vs, ds', rfl, e, h1, h2⟩
  · cases h; rfl
  · cases e
theorem Rt.none (h : Rt K F H v .none) : v = .non := by
  rcases h with h | ⟨a, vs, ds', rfl, e, h1, h2⟩
  · cases h; rfl
  · cases e
theorem Rt.dict {kvs : List (PyData × PyData)} (s : Same F H) (h : Rt K F H v (.dict kvs)) : kvs = [] ∧ ∃ a, v = .ref a ∧ H a = some (.dK []) := by
  rcases h with h | ⟨a, vs, ds', rfl, e, h1, h2⟩
  · cases h with
    | dct h => exact ⟨rfl, _, rfl, s _ _ h⟩
  · cases e
/-- a new address is not of the entry -/
theorem Rl.free0 (R : Rl K B F H env σ) {p : Addr} (h : H p = none) : B.H0 p = none := by
  cases q : B.H0 p with
  | none => rfl
  | some x => exact absurd h (R.dom p (by rw [q]; simp))
theorem Rl.freeF (R : Rl K B F H env σ) {p : Addr} (h : H p = none) : F p = none := R.sub.free h
theorem Rl.ownH (R : Rl K B F H env σ) {p : Addr} (h : ownAt env σ p) : ∃ ob, H p = some ob ∧ F p = none ∧ ((∃ vs, ob = .lst vs) ∨ ∃ ks, ob = .dT ks) := by
  rcases h with ⟨i, l, ds, h1, h2⟩ | ⟨i, kv, h1, h2⟩
  · have s := R.sl i
    rw [h1] at s
    obtain ⟨a, vs, h3, h4, h5, _⟩ := s
    rw [h2] at h3
    cases h3
    exact ⟨_, h4, h5, .inl ⟨_, rfl⟩⟩
  · have s := R.sl i
    rw [h1] at s
    obtain ⟨a, h3, h4, h5⟩ := s
    rw [h2] at h3
    cases h3
    exact ⟨_, h4, h5, .inr ⟨_, rfl⟩⟩
theorem Rl.notOwn (R : Rl K B F H env σ) {p : Addr} (h : H p = none) : ¬ ownAt env σ p := fun q => by
  obtain ⟨vs, h1, _⟩ := R.ownH q
  rw [h] at h1
  cases h1
/-- F grows by an address that is not owned and not of the entry -/
theorem Rl.grow (R : Rl K B F H env σ) {p : Addr} {o : HO} (hF : F p = none) (h0 : B.H0 p = none) (ho : ¬ ownAt env σ p) (hH : H p = some o) : Rl K B (upd F p o) H env σ := by
  have s1 : Same F (upd F p o) := fun b x e => by rw [upd_ne (ne_of_none e hF)]; exact e
  refine ⟨R.len, fun b x e => ?_, fun i => ?_, R.dist, R.sub0.trans s1, fun b x e => ?_, R.frm, R.dom, R.own0, R.own1, R.lsl, R.dd, R.d0⟩
  · by_cases hb : b = p
    · subst hb
      rw [upd_same] at e
      cases e
      exact hH
    · rw [upd_ne hb] at e
      exact R.sub b x e
  · have s := R.sl i
    cases q : env[i]? with
    | none => trivial
    | some z =>
      rw [q] at s
      cases z with
      | un => trivial
      | val d =>
        obtain ⟨v, h1, h2⟩ := s
        exact ⟨v, h1, Rp.mono s1 _ _ h2⟩
      | own l ds =>
        obtain ⟨a, vs, h1, h2, h3, h4⟩ := s
        refine ⟨a, vs, h1, h2, ?_, RpAll.mono s1 _ _ h4⟩
        rw [upd_ne (fun z => ho (.inl ⟨i, l, ds, q, by rw [← z]; exact h1⟩))]
        exact h3
      | dct kv =>
        obtain ⟨a, h1, h2, h3⟩ := s
        refine ⟨a, h1, h2, ?_⟩
        rw [upd_ne (fun z => ho (.inr ⟨i, kv, q, by rw [← z]; exact h1⟩))]
        exact h3
  · by_cases hb : b = p
    · subst hb
      exact .inr (.inl h0)
    · rw [upd_ne hb] at e
      exact R.new b x e
/-- a new object is laid, not frozen -/
theorem Rl.lay (R : Rl K B F H env σ) {p : Addr} {o : HO} (hp : H p = none) : Rl K B F (upd H p o) env σ := by
  have s1 : Same H (upd H p o) := fun b x e => by rw [upd_ne (ne_of_none e hp)]; exact e
  refine ⟨R.len, R.sub.trans s1, fun i => ?_, R.dist, R.sub0, R.new, fun b x e n => s1 b x (R.frm b x e n), fun b e => ?_, R.own0, R.own1, R.lsl, R.dd, R.d0⟩
  · have s := R.sl i
    cases q : env[i]? with
    | none => trivial
    | some z =>
      rw [q] at s
      cases z with
      | un => trivial
      | val d => exact s
      | own l ds =>
        obtain ⟨a, vs, h1, h2, h3, h4⟩ := s
        exact ⟨a, vs, h1, s1 _ _ h2, h3, h4⟩
      | dct kv =>
        obtain ⟨a, h1, h2, h3⟩ := s
        exact ⟨a, h1, s1 _ _ h2, h3⟩
  · cases q : H b with
    | none => exact absurd q (R.dom b e)
    | some x => rw [s1 b x q]; simp
theorem fm_lay {p : Addr} {o : HO} (hp : H p = none) : Fm env σ F H env F (upd H p o) :=
  ⟨fun b x e _ => by rw [upd_ne (ne_of_none e hp)]; exact e, fun _ _ h => h, fun _ _ h => .inl h, fun _ _ _ h => ⟨_, h⟩, fun b e => by
    cases q : H b with
    | none => exact absurd q e
    | some x => rw [upd_ne (ne_of_none q hp), q]; simp, fun _ _ h => ⟨_, h⟩⟩
/-- a new object is laid and frozen -/
theorem Rl.layF (R : Rl K B F H env σ) {p : Addr} {o : HO} (hp : H p = none) : Rl K B (upd F p o) (upd H p o) env σ :=
  (R.lay (o := o) hp).grow (R.freeF hp) (R.free0 hp) (fun q => (R.notOwn hp) q) upd_same
theorem Rl.fmLayF (R : Rl K B F H env σ) {p : Addr} {o : HO} (hp : H p = none) : Fm env σ F H env (upd F p o) (upd H p o) := by
  have hF := R.freeF hp
  refine ⟨fun b x e _ => by rw [upd_ne (ne_of_none e hp)]; exact e, fun b x e => by rw [upd_ne (ne_of_none e hF)]; exact e, fun b x e => ?_, fun _ _ _ h => ⟨_, h⟩, fun b e => ?_, fun _ _ h => ⟨_, h⟩⟩
  · by_cases hb : b = p
    · subst hb; exact .inr (.inl (.inl hp))
    · rw [upd_ne hb] at e; exact .inl e
  · cases q : H b with
    | none => exact absurd q e
    | some x => rw [upd_ne (ne_of_none q hp), q]; simp
end
end Dl
end L2

/-! The D layer, 2: judgements, names, constants, operators, comparisons, tests. -/
namespace L2
namespace Dl
open PySem PySem.Spec PyProof.Rows

abbrev KE := Ev → Rs → Prop
abbrev KT := Ev → Bool → Prop
abbrev KXc := Ev → XD → Prop
abbrev WE := Ev → KE → KXc → Prop
abbrev WT := Ev → KT → KXc → Prop

def fsR (K : PySem.W.Frag) (F : Hp) (fs : List (Str × V)) (gs : List (Str × PyData)) : Prop := Paired (fun p q => p.1 = q.1 ∧ Rp K F p.2 q.2) fs gs
/-- an exception as it lies: its class, its dict -/
def XR (K : PySem.W.Frag) (B : Bs) (F H : Hp) (x : XD) (cls : Value) (d : Option Addr) : Prop :=
  B.mg x.name = some cls ∧ match d with
    | none => x.fs = []
    | some dx => ∃ fs, F dx = some (.xd fs) ∧ fsR K F fs x.fs
/-- what is wished of exceptions is so wherever Kx is -/
def XC (K : PySem.W.Frag) (B : Bs) (W : WX) (Kx : KXc) : Prop :=
  ∀ (σ : St) (env : Ev) (x : XD) (cls : Value) (d : Option Addr) (F H : Hp), Kx env x → Rl K B F H env σ → XR K B F H x cls d → W cls d σ H
/-- a temporary list is new -/
def Nw (H : Hp) (v : V) : Rs → Prop
  | .tmp _ => ∀ p, v = .ref p → H p = none
  | _ => True
theorem Nw.up {H H1 : Hp} {v : V} {r : Rs} (dom : ∀ b, H b ≠ none → H1 b ≠ none) (h : Nw H1 v r) : Nw H v r := by
  cases r with
  | val d => trivial
  | slot i => trivial
  | tmp ds =>
    intro p e
    cases q : H p with
    | none => rfl
    | some x => exact absurd (h p e) (dom p (by rw [q]; simp))
def DP (X : Cx) (B : Bs) (pins : List (Addr × Obj)) (σ : St) (F H : Hp) (env : Ev) (Ke : KE) (u : Value) (s' : Shared) : Prop :=
  ∃ v env' r F' H', Inv X pins σ H' s' ∧ RelV v u ∧ Rl X.K B F' H' env' σ ∧ Fm env σ F H env' F' H' ∧ Res X.K B F' H' env' σ v r ∧ Nw H v r ∧ Ke env' r
def DPT (X : Cx) (B : Bs) (pins : List (Addr × Obj)) (σ : St) (F H : Hp) (env : Ev) (Kt : KT) (b : Bool) (s' : Shared) : Prop :=
  ∃ env' F' H', Inv X pins σ H' s' ∧ Rl X.K B F' H' env' σ ∧ Fm env σ F H env' F' H' ∧ Kt env' b
structure DE (B : Bs) (W : WX) (X : Cx) (e : Expr) (w : WE) : Prop where
  run : ∀ (pins : List (Addr × Obj)) (s : Shared) (σ : St) (F H : Hp) (env : Ev) (Ke : KE) (Kx : KXc), Inv X pins σ H s → Rl X.K B F H env σ → w env Ke Kx → XC X.K B W Kx →
    wpAny (model X.prog X.w) X.A (eval e X.env) (DP X B pins σ F H env Ke) X.xe s
structure DT (B : Bs) (W : WX) (X : Cx) (e : Expr) (w : WT) : Prop where
  run : ∀ (pins : List (Addr × Obj)) (s : Shared) (σ : St) (F H : Hp) (env : Ev) (Kt : KT) (Kx : KXc), Inv X pins σ H s → Rl X.K B F H env σ → w env Kt Kx → XC X.K B W Kx →
    wpAny (model X.prog X.w) X.A (isTrue e X.env (eval e X.env)) (DPT X B pins σ F H env Kt) X.xe s
structure DW (B : Bs) (W : WX) (X : Cx) (e : Expr) (w : WT) : Prop where
  run : ∀ (whole : Sem Value) (pins : List (Addr × Obj)) (s : Shared) (σ : St) (F H : Hp) (env : Ev) (Kt : KT) (Kx : KXc), Inv X pins σ H s → Rl X.K B F H env σ → w env Kt Kx → XC X.K B W Kx →
    wpAny (model X.prog X.w) X.A (isTrue e X.env whole) (DPT X B pins σ F H env Kt) X.xe s
theorem DW.dt {B : Bs} {W : WX} {X : Cx} {e : Expr} {w : WT} (h : DW B W X e w) : DT B W X e w := ⟨h.run _⟩

section
variable {B : Bs} {W : WX} {X : Cx} {pins : List (Addr × Obj)} {σ : St} {F H F1 H1 : Hp} {env env1 : Ev} {Ke : KE} {Kt : KT} {u : Value} {s s' : Shared}
theorem DP.up (f : Fm env σ F H env1 F1 H1) (h : DP X B pins σ F1 H1 env1 Ke u s') : DP X B pins σ F H env Ke u s' := by
  obtain ⟨v, e', r, F', H', h1, h2, h3, h4, h5, h6, h7⟩ := h
  exact ⟨v, e', r, F', H', h1, h2, h3, f.trans h4, h5, h6.up f.dom, h7⟩
theorem DPT.up {b : Bool} (f : Fm env σ F H env1 F1 H1) (h : DPT X B pins σ F1 H1 env1 Kt b s') : DPT X B pins σ F H env Kt b s' := by
  obtain ⟨e', F', H', h1, h3, h4, h6⟩ := h
  exact ⟨e', F', H', h1, h3, f.trans h4, h6⟩
end

/-! ### names, constants -/
def wVar (i : Nat) : WE := fun env Ke _ => match env[i]? with
  | some (.val d) => Ke env (.val d)
  | some (.own _ _) => Ke env (.slot i)
  | _ => False
def wC (d : PyData) : WE := fun env Ke _ => Ke env (.val d)
section
variable {B : Bs} {W : WX} {X : Cx} {pos : Pos}
theorem de_var (i : Nat) {x : Str} (hN : X.N[i]? = some x) (hv : Vis X.env.scope x) (hd : (x == ("__debug__" : Str)) = false) (hcd : (x == ("__classdict__" : Str)) = false) : DE B W X (.Name x pos) (wVar i) := by
  refine ⟨fun pins s σ F H env Ke Kx I R h hx => ?_⟩
  have sl := R.sl i
  cases q : env[i]? with
  | none => simp only [wVar, q] at h
  | some z =>
    cases z with
    | un => simp only [wVar, q] at h
    | val d =>
      simp only [wVar, q] at h
      rw [q] at sl
      obtain ⟨v, e1, rp⟩ := sl
      exact (pe_var hN hv hd hcd).run pins s σ H (fun v H' => H' = H ∧ Rp X.K F v d) I ⟨v, e1, rfl, rp⟩ |> fun z => thn z fun u s1 ⟨v, H', I', r, e, rp⟩ => by
        subst e
        exact ⟨v, env, .val d, F, _, I', r, R, Fm.refl, rp, trivial, h⟩
    | own l ds =>
      simp only [wVar, q] at h
      rw [q] at sl
      obtain ⟨a, vs, e1, _⟩ := sl
      exact (pe_var hN hv hd hcd).run pins s σ H (fun v H' => H' = H ∧ v = .ref a) I ⟨_, e1, rfl, rfl⟩ |> fun z => thn z fun u s1 ⟨v, H', I', r, e, rp⟩ => by
        subst e rp
        exact ⟨_, env, .slot i, F, _, I', r, R, Fm.refl, e1, trivial, h⟩
    | dct kv => simp only [wVar, q] at h
theorem dv (i : Nat) {x : Str} (hN : X.N[i]? = some x := by rfl) (hv : Vis X.env.scope x := by first | exact Or.inl rfl | exact Or.inr (Or.inl rfl) | exact Or.inr (Or.inr rfl)) (hd : (x == ("__debug__" : Str)) = false := by decide)
    (hcd : (x == ("__classdict__" : Str)) = false := by decide) : DE B W X (.Name x pos) (wVar i) := de_var i hN hv hd hcd
/-- a constant, by HandS's rule -/
theorem de_const {e : Expr} {v : V} {d : PyData} (h : PE X e (tC v)) (r : ∀ F, Rp X.K F v d) : DE B W X e (wC d) := by
  refine ⟨fun pins s σ F H env Ke Kx I R hw hx => ?_⟩
  exact thn (h.run pins s σ H (fun w H' => H' = H ∧ w = v) I ⟨rfl, rfl⟩) fun u s1 ⟨w, H', I', rv, e, ev⟩ => by
    subst e ev
    exact ⟨_, env, .val d, F, _, I', rv, R, Fm.refl, r F, trivial, hw⟩
theorem de_int {i : Int} {j : Nat} : DE B W X (.Constant (.int i) j pos) (wC (.int i)) := de_const pe_int fun _ => .int i
theorem de_bl {b : Bool} {j : Nat} : DE B W X (.Constant (.bool b) j pos) (wC (.bool b)) := de_const pe_bl fun _ => .bl b
theorem de_non {j : Nat} : DE B W X (.Constant .none j pos) (wC .none) := de_const pe_non fun _ => .non
end

/-! ### operators -/
def RP (X : Cx) (B : Bs) (pins : List (Addr × Obj)) (σ : St) (F H : Hp) (env : Ev) (Kr : Rs → Prop) (u : Value) (s' : Shared) : Prop :=
  ∃ v r F' H', Inv X pins σ H' s' ∧ RelV v u ∧ Rl X.K B F' H' env σ ∧ Fm env σ F H env F' H' ∧ Res X.K B F' H' env σ v r ∧ Nw H v r ∧ Kr r
theorem RP.dp {X : Cx} {B : Bs} {pins : List (Addr × Obj)} {σ : St} {F H : Hp} {env : Ev} {Ke : KE} {u : Value} {s' : Shared} (h : RP X B pins σ F H env (Ke env) u s') : DP X B pins σ F H env Ke u s' := by
  obtain ⟨v, r, F', H', h1, h2, h3, h4, h5, h6, h7⟩ := h
  exact ⟨v, env, r, F', H', h1, h2, h3, h4, h5, h6, h7⟩
abbrev Op2 := PyData → PyData → (Rs → Prop) → Prop
structure DOp (X : Cx) (f : Value → Value → Sem Value) (o : Op2) : Prop where
  run : ∀ (B : Bs) (F : Hp) (env : Ev) (pins : List (Addr × Obj)) (s : Shared) (σ : St) (H : Hp) (x y : V) (v u : Value) (d e : PyData) (Kr : Rs → Prop), Inv X pins σ H s → RelV x v → RelV y u → Rl X.K B F H env σ → Rt X.K F H x d → Rt X.K F H y e → o d e Kr →
    wpAny (model X.prog X.w) X.A (f v u) (RP X B pins σ F H env Kr) X.xe s
def rdK (env : Ev) (r : Rs) (k : PyData → Prop) : Prop := ∃ d, rd env r = some d ∧ k d
def wBin (o : Op2) (wa wb : WE) : WE := fun env Ke Kx => wa env (fun env1 r1 => wb env1 (fun env2 r2 => rdK env2 r1 fun d1 => rdK env2 r2 fun d2 => o d1 d2 (Ke env2)) Kx) Kx
section
variable {B : Bs} {W : WX} {X : Cx} {pos : Pos} {a b c : Expr} {wa wb wc : WE}
theorem dbin {f : Value → Value → Sem Value} {o : Op2} (ho : DOp X f o) (ha : DE B W X a wa) (hb : DE B W X b wb) {pins : List (Addr × Obj)} {s : Shared} {σ : St} {F H : Hp} {env : Ev} {Ke : KE} {Kx : KXc} (I : Inv X pins σ H s) (R : Rl X.K B F H env σ) (h : wBin o wa wb env Ke Kx) (hx : XC X.K B W Kx) :
    wpAny (model X.prog X.w) X.A (eval a X.env) (fun v s₁ => wpAny (model X.prog X.w) X.A (eval b X.env) (fun u s₂ => wpAny (model X.prog X.w) X.A (f v u) (DP X B pins σ F H env Ke) X.xe s₂) X.xe s₁) X.xe s := by
  refine thn (ha.run pins s σ F H env _ Kx I R h hx) fun v s1 ⟨x, env1, r1, F1, H1, I1, rx, R1, f1, q1, n1, h1⟩ => ?_
  refine thn (hb.run pins s1 σ F1 H1 env1 _ Kx I1 R1 h1 hx) fun u s2 ⟨y, env2, r2, F2, H2, I2, ry, R2, f2, q2, n2, h2⟩ => ?_
  obtain ⟨d1, e1, d2, e2, h2⟩ := h2
  exact thn (ho.run B F2 env2 pins s2 σ H2 x y v u d1 d2 _ I2 rx ry R2 ((q1.step f2).rt R2 e1) (q2.rt R2 e2) h2) fun w s3 h3 => (h3.dp.up f2).up f1
theorem de_op {op : Operator} {o : Op2} (ho : DOp X (binaryOp op) o) (ha : DE B W X a wa) (hb : DE B W X b wb) : DE B W X (.BinOp a op b pos) (wBin o wa wb) :=
  ⟨fun pins s σ F H env Ke Kx I R h hx => wpAny_BinOp (dbin ho ha hb I R h hx)⟩
theorem de_cmp {op : CmpOp} {o : Op2} (ho : DOp X (compareOp op) o) (ha : DE B W X a wa) (hb : DE B W X b wb) (hm : behindInMarks op b = false := by first | exact nomark _ | rfl) : DE B W X (.Compare a [op] [b] pos) (wBin o wa wb) :=
  ⟨fun pins s σ F H env Ke Kx I R h hx => wpAny_Compare1 (dbin ho ha hb I R h hx) hm⟩
/-- a value as a test: a bool -/
def wTB (w : WE) : WT := fun env Kt Kx => w env (fun env' r => ∃ b, r = .val (.bool b) ∧ Kt env' b) Kx
theorem tb_end {pins : List (Addr × Obj)} {σ : St} {F H : Hp} {env : Ev} {Kt : KT} {u : Value} {s' : Shared} (h : DP X B pins σ F H env (fun env' r => ∃ b, r = .val (.bool b) ∧ Kt env' b) u s') :
    wpAny (model X.prog X.w) X.A (truthy u) (DPT X B pins σ F H env Kt) X.xe s' := by
  obtain ⟨v, env', r, F', H', I', rv, R', f', q', _, b, e, k⟩ := h
  subst e
  cases (show Rp X.K F' v (.bool b) from q')
  cases rv
  exact wpAny_truthy_bool ⟨env', F', H', I', R', f', k⟩
theorem dt_cmp {op : CmpOp} {o : Op2} (ho : DOp X (compareOp op) o) (ha : DE B W X a wa) (hb : DE B W X b wb) (hm : behindInMarks op b = false := by first | exact nomark _ | rfl) : DT B W X (.Compare a [op] [b] pos) (wTB (wBin o wa wb)) :=
  ⟨fun pins s σ F H env Kt Kx I R h hx => wpAny_isTrue_Compare1 (thn (dbin ho ha hb I R h hx) fun v s1 h1 => thn h1 fun u s2 h2 => thn h2 fun w s3 h3 => tb_end h3) hm⟩
/-- an expression whose value is a bool, as a test -/
theorem dt_val {e : Expr} {w : WE} (h : DE B W X e w) (he : ∀ whole, isTrue e X.env whole = (do let v ← whole; standAt e.pos; holding [v] (truthy v)) := by intro _; rfl) : DT B W X e (wTB w) :=
  ⟨fun pins s σ F H env Kt Kx I R hw hx => isTrue_plain (thn (h.run pins s σ F H env _ Kx I R hw hx) fun v s1 h1 => tb_end h1) (he _)⟩
/-! and, or, not as tests -/
variable {rest : List Expr} {ta tb : WT}
def wAnd (t u : WT) : WT := fun env Kt Kx => t env (fun env1 c => if c = true then u env1 Kt Kx else Kt env1 false) Kx
def wOr (t u : WT) : WT := fun env Kt Kx => t env (fun env1 c => if c = true then Kt env1 true else u env1 Kt Kx) Kx
def wNot (t : WT) : WT := fun env Kt Kx => t env (fun env1 c => Kt env1 (!c)) Kx
theorem dw_and1 (ha : DT B W X a ta) : DW B W X (.BoolOp .And [a] pos) ta := by
  refine ⟨fun wh pins s σ F H env Kt Kx I R h hx => ?_⟩
  refine isTrue_and (thn (ha.run pins s σ F H env Kt Kx I R h hx) fun c s1 e => ?_)
  cases c with
  | true => exact isTrue_and_nil e
  | false => exact e
theorem dw_or1 (ha : DT B W X a ta) : DW B W X (.BoolOp .Or [a] pos) ta := by
  refine ⟨fun wh pins s σ F H env Kt Kx I R h hx => ?_⟩
  refine isTrue_or (thn (ha.run pins s σ F H env Kt Kx I R h hx) fun c s1 e => ?_)
  cases c with
  | false => exact isTrue_or_nil e
  | true => exact e
theorem dw_and (ha : DT B W X a ta) (hb : DW B W X (.BoolOp .And (b :: rest) pos) tb) : DW B W X (.BoolOp .And (a :: b :: rest) pos) (wAnd ta tb) := by
  refine ⟨fun wh pins s σ F H env Kt Kx I R h hx => ?_⟩
  refine isTrue_and (thn (ha.run pins s σ F H env _ Kx I R h hx) fun c s1 ⟨env1, F1, H1, I1, R1, f1, q1⟩ => ?_)
  cases c with
  | true =>
    rw [if_pos rfl] at q1
    exact thn (hb.run _ pins s1 σ F1 H1 env1 Kt Kx I1 R1 q1 hx) fun b s2 h2 => h2.up f1
  | false =>
    rw [if_neg Bool.false_ne_true] at q1
    exact ⟨env1, F1, H1, I1, R1, f1, q1⟩
theorem dw_or (ha : DT B W X a ta) (hb : DW B W X (.BoolOp .Or (b :: rest) pos) tb) : DW B W X (.BoolOp .Or (a :: b :: rest) pos) (wOr ta tb) := by
  refine ⟨fun wh pins s σ F H env Kt Kx I R h hx => ?_⟩
  refine isTrue_or (thn (ha.run pins s σ F H env _ Kx I R h hx) fun c s1 ⟨env1, F1, H1, I1, R1, f1, q1⟩ => ?_)
  cases c with
  | false =>
    rw [if_neg Bool.false_ne_true] at q1
    exact thn (hb.run _ pins s1 σ F1 H1 env1 Kt Kx I1 R1 q1 hx) fun b s2 h2 => h2.up f1
  | true =>
    rw [if_pos rfl] at q1
    exact ⟨env1, F1, H1, I1, R1, f1, q1⟩
end
end Dl
end L2

/-! The D layer, 3: operators, comparisons, not/and/or as values, displays, subscripts. -/
namespace L2
namespace Dl
open PySem PySem.Spec PyProof.Rows

section
variable {B : Bs} {W : WX} {X : Cx} {pos : Pos} {a b c : Expr} {wa wb wc : WE} {ta tb : WT} {rest : List Expr}
theorem dt_not (ha : DT B W X a ta) : DT B W X (.UnaryOp .Not a pos) (wNot ta) := by
  refine ⟨fun pins s σ F H env Kt Kx I R h hx => ?_⟩
  exact isTrue_not (thn (ha.run pins s σ F H env _ Kx I R h hx) fun c s1 h1 => h1)
def wNotV (w : WE) : WE := fun env Ke Kx => w env (fun env1 r => ∃ c, r = .val (.bool c) ∧ Ke env1 (.val (.bool (!c)))) Kx
theorem de_not (ha : DE B W X a wa) : DE B W X (.UnaryOp .Not a pos) (wNotV wa) := by
  refine ⟨fun pins s σ F H env Ke Kx I R h hx => ?_⟩
  refine UnaryOp_ (thn (ha.run pins s σ F H env _ Kx I R h hx) fun v s1 ⟨x, env1, r1, F1, H1, I1, rx, R1, f1, q1, _, c, e, h1⟩ => ?_)
  subst e
  cases (show Rp X.K F1 x (.bool c) from q1)
  cases rx
  exact not_of (wpAny_truthy_bool ⟨.bl (!c), env1, .val (.bool (!c)), F1, H1, I1, rfl, R1, f1, Rp.bl _, trivial, h1⟩)
/-- a test's answer as a value: and, or of bools -/
def wBV (t : WT) : WE := fun env Ke Kx => t env (fun env1 b => Ke env1 (.val (.bool b))) Kx
def wAndV (wa wb : WE) : WE := fun env Ke Kx => wa env (fun env1 r => ∃ c, r = .val (.bool c) ∧ if c = true then wb env1 Ke Kx else Ke env1 (.val (.bool false))) Kx
def wOrV (wa wb : WE) : WE := fun env Ke Kx => wa env (fun env1 r => ∃ c, r = .val (.bool c) ∧ if c = true then Ke env1 (.val (.bool true)) else wb env1 Ke Kx) Kx
theorem de_one {op : BoolOp} (h : DE B W X a wa) : DE B W X (.BoolOp op [a] pos) wa := ⟨fun pins s σ F H env Ke Kx I R hw hx => BoolOp_one (h.run pins s σ F H env Ke Kx I R hw hx)⟩
theorem de_and (ha : DE B W X a wa) (hb : DE B W X (.BoolOp .And (b :: rest) pos) wb) : DE B W X (.BoolOp .And (a :: b :: rest) pos) (wAndV wa wb) := by
  refine ⟨fun pins s σ F H env Ke Kx I R h hx => ?_⟩
  refine BoolOp_and (thn (ha.run pins s σ F H env _ Kx I R h hx) fun v s1 ⟨x, env1, r1, F1, H1, I1, rx, R1, f1, q1, _, c, e, h1⟩ => ?_)
  subst e
  cases (show Rp X.K F1 x (.bool c) from q1)
  cases rx
  refine wpAny_truthy_bool ?_
  cases c with
  | true =>
    rw [if_pos rfl] at h1
    exact thn (hb.run pins s1 σ F1 H1 env1 Ke Kx I1 R1 h1 hx) fun u s2 h2 => h2.up f1
  | false =>
    rw [if_neg Bool.false_ne_true] at h1
    exact ⟨.bl false, env1, .val (.bool false), F1, H1, I1, rfl, R1, f1, Rp.bl _, trivial, h1⟩
theorem de_or (ha : DE B W X a wa) (hb : DE B W X (.BoolOp .Or (b :: rest) pos) wb) : DE B W X (.BoolOp .Or (a :: b :: rest) pos) (wOrV wa wb) := by
  refine ⟨fun pins s σ F H env Ke Kx I R h hx => ?_⟩
  refine BoolOp_or (thn (ha.run pins s σ F H env _ Kx I R h hx) fun v s1 ⟨x, env1, r1, F1, H1, I1, rx, R1, f1, q1, _, c, e, h1⟩ => ?_)
  subst e
  cases (show Rp X.K F1 x (.bool c) from q1)
  cases rx
  refine wpAny_truthy_bool ?_
  cases c with
  | false =>
    rw [if_neg Bool.false_ne_true] at h1
    exact thn (hb.run pins s1 σ F1 H1 env1 Ke Kx I1 R1 h1 hx) fun u s2 h2 => h2.up f1
  | true =>
    rw [if_pos rfl] at h1
    exact ⟨.bl true, env1, .val (.bool true), F1, H1, I1, rfl, R1, f1, Rp.bl _, trivial, h1⟩
def wIf (t : WT) (wa wb : WE) : WE := fun env Ke Kx => t env (fun env1 c => if c = true then wa env1 Ke Kx else wb env1 Ke Kx) Kx
def wNeg (w : WE) : WE := fun env Ke Kx => w env (fun env1 r => ∃ i, r = .val (.int i) ∧ Ke env1 (.val (.int (-i)))) Kx
theorem de_neg (ha : DE B W X a wa) : DE B W X (.UnaryOp .USub a pos) (wNeg wa) := by
  refine ⟨fun pins s σ F H env Ke Kx I R h hx => ?_⟩
  refine UnaryOp_ (thn (ha.run pins s σ F H env _ Kx I R h hx) fun v s1 ⟨x, env1, r1, F1, H1, I1, rx, R1, f1, q1, _, c, e, h1⟩ => ?_)
  subst e
  cases (show Rp X.K F1 x (.int c) from q1)
  exact thn (un_neg pins s1 σ H1 (.int c) v (fun w H' => H' = H1 ∧ w = .int (-c)) I1 rx ⟨c, rfl, rfl, rfl⟩) fun u s2 ⟨w, H', I', rv, e1, e2⟩ => by
    subst e1 e2
    exact ⟨_, env1, .val (.int (-c)), F1, _, I', rv, R1, f1, Rp.int _, trivial, h1⟩
end

/-! ### operators on data -/
def oAdd : Op2 := fun d e K => match d, e with
  | .int i, .int j => K (.val (.int (i + j)))
  | .str x, .str y => x.length + y.length ≤ sizeLine ∧ K (.val (.str (x ++ y)))
  | .list x, .list y => x.length + y.length ≤ sizeLine ∧ K (.tmp (x ++ y))
  | .tuple x, .tuple y => x.length + y.length ≤ sizeLine ∧ K (.val (.tuple (x ++ y)))
  | _, _ => False
def oI (C : Int → Int → Prop) (f : Int → Int → Int) : Op2 := fun d e K => match d, e with
  | .int i, .int j => C i j ∧ K (.val (.int (f i j)))
  | _, _ => False
abbrev CT : Int → Int → Prop := fun _ _ => True
def oSub : Op2 := fun d e K => match d, e with
  | .int i, .int j => K (.val (.int (i - j)))
  | _, _ => False
def oMul : Op2 := oI CMulX fun i j => i * j
def CFd (_ j : Int) : Prop := 0 < j ∧ j.natAbs.log2 < 9000
def oFdiv : Op2 := oI CFd fun i j => i / j
def oMod : Op2 := oI (fun _ j => 0 < j) fun i j => i % j
def oPow : Op2 := oI CPow fun i j => i ^ j.toNat
def oShl : Op2 := oI CShl fun i j => i * 2 ^ j.toNat
def oShr : Op2 := oI (fun _ j => 0 ≤ j) fun i j => i / 2 ^ j.toNat
def oOr : Op2 := oI CT fun i j => Builtin.bitOr i j
def oAndB : Op2 := oI CT fun i j => Builtin.bitAnd i j
/-- an order: of ints by f, of alike tuples by g -/
def oOrd (f : Int → Int → Bool) (g : PyData → PyData → Bool) : Op2 := fun d e K => match d, e with
  | .int i, .int j => K (.val (.bool (f i j)))
  | .tuple x, .tuple y => PySem.W.alike (.tuple x) (.tuple y) = true ∧ SeqAt.shaped (.tuple x) = true ∧ SeqAt.shaped (.tuple y) = true ∧ K (.val (.bool (g (.tuple x) (.tuple y))))
  | _, _ => False
def oLt : Op2 := oOrd (fun i j => decide (i < j)) (fun d e => PySem.W.dataLt d e)
def oLe : Op2 := oOrd (fun i j => decide (i ≤ j)) (fun d e => !PySem.W.dataLt e d)
def oGt : Op2 := oOrd (fun i j => decide (j < i)) (fun d e => PySem.W.dataLt e d)
def oGe : Op2 := oOrd (fun i j => decide (j ≤ i)) (fun d e => !PySem.W.dataLt d e)
def oEq : Op2 := fun d e K => SeqAt.shaped d = true ∧ SeqAt.shaped e = true ∧ K (.val (.bool (PyData.eqv d e)))
def oNe : Op2 := fun d e K => SeqAt.shaped d = true ∧ SeqAt.shaped e = true ∧ K (.val (.bool (!PyData.eqv d e)))
def isNone : PyData → Bool
  | .none => true
  | _ => false
def oIs : Op2 := fun d e K => match e with
  | .none => K (.val (.bool (isNone d)))
  | .bool b => match d with
    | .bool a => K (.val (.bool (decide (a = b))))
    | _ => False
  | _ => False
def oIsNot : Op2 := fun d e K => match e with
  | .none => K (.val (.bool (!isNone d)))
  | .bool b => match d with
    | .bool a => K (.val (.bool (!decide (a = b))))
    | _ => False
  | _ => False
def oIn (neg : Bool) : Op2 := fun d e K => match e with
  | .list ds => SeqAt.shaped d = true ∧ SeqAt.shaped (.list ds) = true ∧ K (.val (.bool (if neg then !ds.any fun z => PyData.eqv z d else ds.any fun z => PyData.eqv z d)))
  | .tuple ds => SeqAt.shaped d = true ∧ SeqAt.shaped (.tuple ds) = true ∧ K (.val (.bool (if neg then !ds.any fun z => PyData.eqv z d else ds.any fun z => PyData.eqv z d)))
  | _ => False

mutual
theorem dp_of {K : PySem.W.Frag} {H : Hp} : ∀ (d : PyData) (v : V), Rp K H v d → d.canLay0 = true → Dp K H v d
  | .none, _, h, _ => by cases h; exact .non
  | .bool b, _, h, _ => by cases h; exact .bl b
  | .int b, _, h, _ => by cases h; exact .int b
  | .str b, _, h, _ => by cases h; exact .str b
  | .list ds, _, h, c => by
    cases h with
    | lst a b => exact .lst a (dpAll_of ds _ b (by simpa [PyData.canLay0] using c))
  | .tuple ds, _, h, c => by
    cases h with
    | tup a b => exact .tup (SqT.of a) (dpAll_of ds _ b (by simpa [PyData.canLay0] using c))
  | .dict _, _, h, c => by simp [PyData.canLay0] at c
theorem dpAll_of {K : PySem.W.Frag} {H : Hp} : ∀ (ds : List PyData) (vs : List V), RpAll K H vs ds → PyData.canLayAll0 ds = true → DpAll K H vs ds
  | [], _, h, _ => by cases h; exact .nil
  | d :: ds, _, h, c => by
    have c' : d.canLay0 = true ∧ PyData.canLayAll0 ds = true := by simpa [PyData.canLayAll0] using c
    cases h with
    | cons a b => exact .cons (dp_of d _ a c'.1) (dpAll_of ds _ b c'.2)
end
section
variable {K : PySem.W.Frag} {F H : Hp} {v : V} {d : PyData}
theorem Rt.dp (s : Same F H) (h : Rt K F H v d) (c : SeqAt.shaped d = true) : Dp K H v d := dp_of d v (h.h s) (SeqAt.canLay_of_shaped c)
end

section
variable {X : Cx}
/-- a result that changes nothing -/
theorem same_res {B : Bs} {F H : Hp} {env : Ev} {σ : St} {K : PySem.W.Frag} {v : V} {d : PyData} {Kr : Rs → Prop} (R : Rl K B F H env σ) (r : Rp K F v d) (q : Kr (.val d)) : ∃ r F', Rl K B F' H env σ ∧ Fm env σ F H env F' H ∧ Res K B F' H env σ v r ∧ Nw H v r ∧ Kr r :=
  ⟨.val d, F, R, Fm.refl, r, trivial, q⟩
/-- a new list -/
theorem new_lst {B : Bs} {F H : Hp} {env : Ev} {σ : St} {K : PySem.W.Frag} {p : Addr} {vs : List V} {ds : List PyData} {Kr : Rs → Prop} (R : Rl K B F H env σ) (hp : H p = none) (r : RpAll K F vs ds) (q : Kr (.tmp ds)) :
    ∃ r F', Rl K B F' (upd H p (.lst vs)) env σ ∧ Fm env σ F H env F' (upd H p (.lst vs)) ∧ Res K B F' (upd H p (.lst vs)) env σ (.ref p) r ∧ Nw H (.ref p) r ∧ Kr r :=
  ⟨.tmp ds, F, R.lay hp, fm_lay hp, ⟨p, vs, rfl, upd_same, R.freeF hp, R.free0 hp, R.notOwn hp, r⟩, fun q e => by cases e; exact hp, q⟩
/-- a new tuple -/
theorem new_tup {B : Bs} {F H : Hp} {env : Ev} {σ : St} {K : PySem.W.Frag} {p : Addr} {vs : List V} {ds : List PyData} {Kr : Rs → Prop} (R : Rl K B F H env σ) (hp : H p = none) (r : RpAll K F vs ds) (q : Kr (.val (.tuple ds))) :
    ∃ r F', Rl K B F' (upd H p (.tup vs)) env σ ∧ Fm env σ F H env F' (upd H p (.tup vs)) ∧ Res K B F' (upd H p (.tup vs)) env σ (.ref p) r ∧ Nw H (.ref p) r ∧ Kr r :=
  ⟨.val (.tuple ds), upd F p (.tup vs), R.layF hp, R.fmLayF hp, .tup upd_same (RpAll.mono (fun b x e => by rw [upd_ne (ne_of_none e (R.freeF hp))]; exact e) _ _ r), trivial, q⟩

def rCatL (K : PySem.W.Frag) : R2 := fun x y H Q => ∃ l b xs zs, x = .ref l ∧ y = .ref b ∧ SqL K H l xs ∧ SqL K H b zs ∧ xs.length + zs.length ≤ sizeLine ∧ ∀ p, H p = none → Q (.ref p) (upd H p (.lst (xs ++ zs)))
theorem op_catL : OpR X (binaryOp .Add) (rCatL X.K) := by
  intro pins s σ H x y v u Q I rx ry h
  obtain ⟨l, b, xs, zs, rfl, rfl, hH, hB, hz, q⟩ := h
  cases rx
  cases ry
  obtain ⟨its, r, ⟨⟨cls, dd, data, sl⟩, n, ho, hc, hdn, hd⟩, hl⟩ := I.list hH
  obtain ⟨its2, r2, ⟨⟨cls2, dd2, data2, sl2⟩, n2, ho2, hc2, hdn2, hd2⟩, hl2⟩ := I.list hB
  simp only at hc hd hc2 hd2
  subst hc hd hc2 hd2
  have e1 := r.length
  have e2 := r2.length
  refine concat_meets ⟨_, ho, rfl⟩ ⟨_, ho2, rfl⟩ noFill_list_add seq_list_add PySem.F.slot_list_add PySem.F.entry_list_add (PySem.F.args_list_add_2 _ _) (list_addW l b its.toArray its2.toArray n n2 dd dd2 sl sl2 (by rw [List.size_toArray, List.size_toArray]; omega)) ⟨ho, ho2, ?_⟩
  have ea : its.toArray ++ its2.toArray = (its ++ its2).toArray := by simp
  rw [ea]
  exact ⟨.ref _, _, I.lnew (t' := s.toks) (r.append r2) (by rw [List.length_append]; omega), rfl, q _ I.fresh⟩
theorem opr_run {f : Value → Value → Sem Value} {r : R2} (ho : OpR X f r) {B : Bs} {F : Hp} {env : Ev} {pins : List (Addr × Obj)} {s : Shared} {σ : St} {H : Hp} {x y : V} {v u : Value} {Kr : Rs → Prop} (I : Inv X pins σ H s) (rx : RelV x v) (ry : RelV y u)
    (h : r x y H (fun v H' => ∃ r F', Rl X.K B F' H' env σ ∧ Fm env σ F H env F' H' ∧ Res X.K B F' H' env σ v r ∧ Nw H v r ∧ Kr r)) : wpAny (model X.prog X.w) X.A (f v u) (RP X B pins σ F H env Kr) X.xe s :=
  thn (ho pins s σ H x y v u _ I rx ry h) fun w s1 ⟨v', H', I', rv, r, F', h1, h2, h3, h4, h5⟩ => ⟨v', r, F', H', I', rv, h1, h2, h3, h4, h5⟩
theorem dop_add : DOp X (binaryOp .Add) oAdd := by
  refine ⟨fun B F env pins s σ H x y v u d e Kr I rx ry R hx hy q => ?_⟩
  unfold oAdd at q
  split at q
  · rename_i i j
    obtain rfl := hx.int
    obtain rfl := hy.int
    exact opr_run op_add I rx ry ⟨_, _, rfl, rfl, same_res R (.int _) q⟩
  · rename_i i j
    obtain rfl := hx.str
    obtain rfl := hy.str
    exact opr_run op_add_str I rx ry ⟨_, _, rfl, rfl, q.1, same_res R (.str _) q.2⟩
  · rename_i i j
    obtain ⟨a, xs, rfl, h1, h2⟩ := hx.list R.sub
    obtain ⟨b, ys, rfl, h3, h4⟩ := hy.list R.sub
    have e1 := h2.length
    have e2 := h4.length
    exact opr_run op_catL I rx ry ⟨_, _, _, _, rfl, rfl, h1, h3, by omega, fun p hp => new_lst R hp (h2.append h4) q.2⟩
  · rename_i i j
    obtain ⟨a, xs, rfl, h1, h2⟩ := hx.tuple R.sub
    obtain ⟨b, ys, rfl, h3, h4⟩ := hy.tuple R.sub
    have e1 := h2.length
    have e2 := h4.length
    refine opr_run op_catA I rx ry ⟨_, _, _, _, rfl, rfl, h1, h3, by omega, fun ex => ?_, fun nx ey => ?_, fun nx ny p hp => new_tup R hp (h2.append h4) q.2⟩
    · subst ex
      cases h2
      rcases hy with hy | ⟨_, _, _, _, z, _⟩
      · exact same_res R hy (by simpa using q.2)
      · cases z
    · subst ey
      cases h4
      rcases hx with hx | ⟨_, _, _, _, z, _⟩
      · exact same_res R hx (by simpa using q.2)
      · cases z
  · exact q.elim
theorem dop_I {f : Value → Value → Sem Value} {C : Int → Int → Prop} {g : Int → Int → Int} (h : OpR X f (rI C fun i j => .int (g i j))) : DOp X f (oI C g) := by
  refine ⟨fun B F env pins s σ H x y v u d e Kr I rx ry R hx hy q => ?_⟩
  unfold oI at q
  split at q
  · obtain rfl := hx.int
    obtain rfl := hy.int
    exact opr_run h I rx ry ⟨_, _, rfl, rfl, q.1, same_res R (.int _) q.2⟩
  · exact q.elim
theorem dop_sub : DOp X (binaryOp .Sub) oSub := by
  refine ⟨fun B F env pins s σ H x y v u d e Kr I rx ry R hx hy q => ?_⟩
  unfold oSub at q
  split at q
  · obtain rfl := hx.int
    obtain rfl := hy.int
    exact opr_run op_sub I rx ry ⟨_, _, rfl, rfl, same_res R (.int _) q⟩
  · exact q.elim
theorem dop_mul : DOp X (binaryOp .Mult) oMul := dop_I op_mulX
theorem dop_fdiv : DOp X (binaryOp .FloorDiv) oFdiv := dop_I op_fdivW
theorem dop_mod : DOp X (binaryOp .Mod) oMod := dop_I op_mod
theorem dop_pow : DOp X (binaryOp .Pow) oPow := dop_I op_pow
theorem room_sh {A : Around} {d e : PyData} (hu : A.units + 65 < cLine) (h : SeqAt.shaped d = true) : A.units + min d.depth e.depth < cLine := by
  have h1 := SeqAt.depth_of_shaped h
  have h2 : min d.depth e.depth ≤ d.depth := Nat.min_le_left _ _
  omega
theorem dop_ord {op : CmpOp} {f : Int → Int → Bool} {g : PyData → PyData → Bool} (h1 : OpR X (compareOp op) (rI0 fun i j => .bl (f i j)))
    (h2 : ∀ (s : Shared) (a b : Value) (da db : PyData) (as bs : List Addr) (Q : Value → Shared → Prop), Reads s.heap a da as → Reads s.heap b db bs → PySem.W.alike da db = true → da ≠ .none → SeqAt.shaped da = true → Q (.bool (g da db)) s → wpAny (model X.prog X.w) X.A (compareOp op a b) Q X.xe s) :
    DOp X (compareOp op) (oOrd f g) := by
  refine ⟨fun B F env pins s σ H x y v u d e Kr I rx ry R hx hy q => ?_⟩
  unfold oOrd at q
  split at q
  · obtain rfl := hx.int
    obtain rfl := hy.int
    exact opr_run h1 I rx ry ⟨_, _, rfl, rfl, same_res R (.bl _) q⟩
  · obtain ⟨q1, q2, q3, q4⟩ := q
    obtain ⟨as, r1⟩ := Dp.reads I _ x v (hx.dp R.sub q2) rx
    obtain ⟨bs, r2⟩ := Dp.reads I _ y u (hy.dp R.sub q3) ry
    exact h2 s v u _ _ as bs _ r1 r2 q1 (fun z => by cases z) q2 ⟨.bl _, .val (.bool _), F, H, I, rfl, R, Fm.refl, .bl _, trivial, q4⟩
  · exact q.elim
theorem dop_lt (hu : X.A.units + 65 < cLine) : DOp X (compareOp .Lt) oLt := dop_ord op_lt fun s a b da db as bs Q r1 r2 h n sh q => PySem.W.lt_data r1 r2 h n (room_sh hu sh) q
theorem dop_le (hu : X.A.units + 65 < cLine) : DOp X (compareOp .LtE) oLe := dop_ord op_le fun s a b da db as bs Q r1 r2 h n sh q => PySem.W.le_data r1 r2 h n (room_sh hu sh) q
theorem dop_gt (hu : X.A.units + 65 < cLine) : DOp X (compareOp .Gt) oGt := dop_ord op_gt fun s a b da db as bs Q r1 r2 h n sh q => PySem.W.gt_data r1 r2 h n (room_sh hu sh) q
theorem dop_ge (hu : X.A.units + 65 < cLine) : DOp X (compareOp .GtE) oGe := dop_ord op_ge fun s a b da db as bs Q r1 r2 h n sh q => PySem.W.ge_data r1 r2 h n (room_sh hu sh) q
theorem dop_eq (hu : X.A.units + 65 < cLine) : DOp X (compareOp .Eq) oEq := by
  refine ⟨fun B F env pins s σ H x y v u d e Kr I rx ry R hx hy q => ?_⟩
  obtain ⟨q1, q2, q3⟩ := q
  exact opr_run (op_eqD (by omega)) I rx ry ⟨_, _, hx.dp R.sub q1, hy.dp R.sub q2, q1, q2, same_res R (.bl _) q3⟩
theorem dop_ne (hu : X.A.units + 65 < cLine) : DOp X (compareOp .NotEq) oNe := by
  refine ⟨fun B F env pins s σ H x y v u d e Kr I rx ry R hx hy q => ?_⟩
  obtain ⟨q1, q2, q3⟩ := q
  exact opr_run (op_neD (by omega)) I rx ry ⟨_, _, hx.dp R.sub q1, hy.dp R.sub q2, q1, q2, same_res R (.bl _) q3⟩
theorem Rt.isNone {K : PySem.W.Frag} {F H : Hp} {v : V} {d : PyData} (h : Rt K F H v d) : decide (v = .non) = Dl.isNone d := by
  rcases h with h | ⟨a, vs, ds, rfl, rfl, _⟩
  · cases h <;> rfl
  · rfl
theorem dop_is : DOp X (compareOp .Is) oIs := by
  refine ⟨fun B F env pins s σ H x y v u d e Kr I rx ry R hx hy q => ?_⟩
  unfold oIs at q
  split at q
  · exact opr_run op_isN I rx ry ⟨hy.none, by rw [hx.isNone]; exact same_res R (.bl _) q⟩
  · split at q
    · obtain rfl := hx.bool
      obtain rfl := hy.bool
      exact opr_run op_is_bl I rx ry ⟨_, _, rfl, rfl, same_res R (.bl _) q⟩
    · exact q.elim
  · exact q.elim
theorem dop_isNot : DOp X (compareOp .IsNot) oIsNot := by
  refine ⟨fun B F env pins s σ H x y v u d e Kr I rx ry R hx hy q => ?_⟩
  unfold oIsNot at q
  split at q
  · exact opr_run op_notN I rx ry ⟨hy.none, by rw [hx.isNone]; exact same_res R (.bl _) q⟩
  · split at q
    · obtain rfl := hx.bool
      obtain rfl := hy.bool
      exact opr_run op_isnot_bl I rx ry ⟨_, _, rfl, rfl, same_res R (.bl _) q⟩
    · exact q.elim
  · exact q.elim
theorem dop_in (hu : X.A.units + 65 < cLine) : DOp X (compareOp .In) (oIn false) := by
  refine ⟨fun B F env pins s σ H x y v u d e Kr I rx ry R hx hy q => ?_⟩
  unfold oIn at q
  split at q
  · obtain ⟨q1, q2, q3⟩ := q
    exact opr_run (op_inD hu) I rx ry ⟨_, _, hx.dp R.sub q1, hy.dp R.sub q2, q1, q2, same_res R (.bl _) (by simpa using q3)⟩
  · obtain ⟨q1, q2, q3⟩ := q
    obtain ⟨as, r1⟩ := Dp.reads I _ x v (hx.dp R.sub q1) rx
    obtain ⟨bs, r2⟩ := Dp.reads I _ y u (hy.dp R.sub q2) ry
    exact SeqAt.in_tuple_reads r2 r1 (SeqAt.canLay_of_shaped q2) (SeqAt.canLay_of_shaped q1) (room_in_shaped q1 hu) ⟨.bl _, .val (.bool _), F, H, I, rfl, R, Fm.refl, .bl _, trivial, by simpa using q3⟩
  · exact q.elim
theorem dop_notIn (hu : X.A.units + 65 < cLine) : DOp X (compareOp .NotIn) (oIn true) := by
  refine ⟨fun B F env pins s σ H x y v u d e Kr I rx ry R hx hy q => ?_⟩
  unfold oIn at q
  split at q
  · obtain ⟨q1, q2, q3⟩ := q
    exact opr_run (op_notInD hu) I rx ry ⟨_, _, hx.dp R.sub q1, hy.dp R.sub q2, q1, q2, same_res R (.bl _) (by simpa using q3)⟩
  · obtain ⟨q1, q2, q3⟩ := q
    obtain ⟨as, r1⟩ := Dp.reads I _ x v (hx.dp R.sub q1) rx
    obtain ⟨bs, r2⟩ := Dp.reads I _ y u (hy.dp R.sub q2) ry
    exact SeqAt.notIn_tuple_reads r2 r1 (SeqAt.canLay_of_shaped q2) (SeqAt.canLay_of_shaped q1) (room_in_shaped q1 hu) ⟨.bl _, .val (.bool _), F, H, I, rfl, R, Fm.refl, .bl _, trivial, by simpa using q3⟩
  · exact q.elim
end
end Dl
end L2

/-! The D layer, 4: freezing, argument lists, displays, subscripts, slices, calls of built-ins. -/
namespace L2
namespace Dl
open PySem PySem.Spec PyProof.Rows

/-! ### what is frozen -/
def fz (env : Ev) : Rs → Option (Ev × PyData)
  | .val d => some (env, d)
  | .tmp ds => some (env, .list ds)
  | .slot i => match env[i]? with
    | some (.val d) => some (env, d)
    | some (.own false ds) => some (env.set i (.val (.list ds)), .list ds)
    | _ => none
theorem own_set_val {env : Ev} {i j : Nat} {d : PyData} {l : Bool} {ds : List PyData} (h : (env.set i (.val d))[j]? = some (Sl.own l ds)) : env[j]? = some (Sl.own l ds) := by
  by_cases hj : i = j
  · subst hj
    by_cases hl : i < env.length
    · rw [List.getElem?_set_self hl] at h; cases h
    · rw [List.getElem?_eq_none (by simpa using hl)] at h; cases h
  · rw [List.getElem?_set_ne hj] at h; exact h
theorem dct_set_val {env : Ev} {i j : Nat} {d : PyData} {kv : List (List Int × PyData)} (h : (env.set i (.val d))[j]? = some (Sl.dct kv)) : env[j]? = some (Sl.dct kv) := by
  by_cases hj : i = j
  · subst hj
    by_cases hl : i < env.length
    · rw [List.getElem?_set_self hl] at h; cases h
    · rw [List.getElem?_eq_none (by simpa using hl)] at h; cases h
  · rw [List.getElem?_set_ne hj] at h; exact h
/-- an owned slot is frozen -/
theorem Rl.freezeSlot {K : PySem.W.Frag} {B : Bs} {F H : Hp} {env : Ev} {σ : St} (R : Rl K B F H env σ) {i : Nat} {ds : List PyData} (e : env[i]? = some (Sl.own false ds)) :
    ∃ F' v, σ[i]? = some (some v) ∧ Rl K B F' H (env.set i (.val (.list ds))) σ ∧ Fm env σ F H (env.set i (.val (.list ds))) F' H ∧ Rp K F' v (.list ds) := by
  have s := R.sl i
  rw [e] at s
  obtain ⟨a, vs, h1, h2, h3, h4⟩ := s
  have h0 := R.own0 i ds a e h1
  have s1 : Same F (upd F a (.lst vs)) := fun b x q => by rw [upd_ne (ne_of_none q h3)]; exact q
  have rp : Rp K (upd F a (.lst vs)) (.ref a) (.list ds) := .lst (SqL.of upd_same) (RpAll.mono s1 _ _ h4)
  have il : i < env.length := (List.getElem?_eq_some_iff.mp e).1
  -- the relation
  refine ⟨upd F a (.lst vs), .ref a, h1, ⟨by rw [List.length_set]; exact R.len, fun b x q => ?_, fun j => ?_, fun j k l m ds es a h1 h2 h3 h4 => R.dist j k l m ds es a (own_set_val h1) (own_set_val h2) h3 h4, R.sub0.trans s1, fun b x q => ?_, R.frm, R.dom,
    fun j ds a h1 h2 => R.own0 j ds a (own_set_val h1) h2, fun j ds a h1 h2 => R.own1 j ds a (own_set_val h1) h2, R.lsl, fun j k kv kw a h1 h2 h3 h4 => R.dd j k kv kw a (dct_set_val h1) (dct_set_val h2) h3 h4, fun j kv a h1 h2 => R.d0 j kv a (dct_set_val h1) h2⟩, ⟨fun _ _ h _ => h, s1, fun b x q => ?_, fun j l es h => ⟨es, own_set_val h⟩, fun _ h => h, fun j kv h => ⟨kv, dct_set_val h⟩⟩, rp⟩
  · by_cases hb : b = a
    · subst hb
      rw [upd_same] at q
      cases q
      exact h2
    · rw [upd_ne hb] at q
      exact R.sub b x q
  · by_cases hj : i = j
    · subst hj
      rw [List.getElem?_set_self il]
      exact ⟨.ref a, h1, rp⟩
    · rw [List.getElem?_set_ne hj]
      have sj := R.sl j
      cases q : env[j]? with
      | none => trivial
      | some z =>
        rw [q] at sj
        cases z with
        | un => trivial
        | val d =>
          obtain ⟨v, g1, g2⟩ := sj
          exact ⟨v, g1, Rp.mono s1 _ _ g2⟩
        | own l es =>
          obtain ⟨b, ws, g1, g2, g3, g4⟩ := sj
          refine ⟨b, ws, g1, g2, ?_, RpAll.mono s1 _ _ g4⟩
          rw [upd_ne]
          · exact g3
          · intro z
            subst z
            exact hj (R.dist i j false l ds es b e q h1 g1)
        | dct kv =>
          obtain ⟨b, g1, g2, g3⟩ := sj
          refine ⟨b, g1, g2, ?_⟩
          rw [upd_ne]
          · exact g3
          · intro z
            subst z
            rw [h2] at g2
            cases g2
  · by_cases hb : b = a
    · subst hb
      exact .inr (.inl h0)
    · rw [upd_ne hb] at q
      exact R.new b x q
  · by_cases hb : b = a
    · subst hb
      exact .inr (.inr (.inl ⟨i, false, ds, e, h1⟩))
    · rw [upd_ne hb] at q
      exact .inl q
/-- a result is frozen; the frame from where the result's expression began -/
theorem freeze {K : PySem.W.Frag} {B : Bs} {F F1 H H1 : Hp} {env env1 env2 : Ev} {σ : St} {v : V} {r : Rs} {d : PyData} (R : Rl K B F1 H1 env1 σ) (f : Fm env σ F H env1 F1 H1) (q : Res K B F1 H1 env1 σ v r) (n : Nw H v r) (e : fz env1 r = some (env2, d)) :
    ∃ F2, Rl K B F2 H1 env2 σ ∧ Fm env σ F H env2 F2 H1 ∧ Rp K F2 v d := by
  cases r with
  | val d' =>
    have e' : (env1, d') = (env2, d) := by simpa [fz] using e
    cases e'
    exact ⟨F1, R, f, q⟩
  | slot i =>
    have q' : σ[i]? = some (some v) := q
    simp only [fz] at e
    split at e
    · rename_i d' g
      cases e
      have s := R.sl i
      rw [g] at s
      obtain ⟨w, h1, h2⟩ := s
      rw [q'] at h1
      cases h1
      exact ⟨F1, R, f, h2⟩
    · rename_i ds g
      cases e
      obtain ⟨F2, w, h1, h2, h3, h4⟩ := R.freezeSlot g
      rw [q'] at h1
      cases h1
      exact ⟨F2, h2, f.trans h3, h4⟩
    · cases e
  | tmp ds =>
    have e' : (env1, PyData.list ds) = (env2, d) := by simpa [fz] using e
    cases e'
    obtain ⟨p, vs, rfl, h2, h3, h4, h5, h6⟩ := q
    have s1 : Same F1 (upd F1 p (.lst vs)) := fun b x q => by rw [upd_ne (ne_of_none q h3)]; exact q
    refine ⟨upd F1 p (.lst vs), R.grow h3 h4 h5 h2, ⟨f.keep, f.sub.trans s1, fun b x q => ?_, f.own, f.dom, f.od⟩, .lst (SqL.of upd_same) (RpAll.mono s1 _ _ h6)⟩
    by_cases hb : b = p
    · subst hb
      exact .inr (.inl (.inl (n b rfl)))
    · rw [upd_ne hb] at q
      exact f.new b x q
def wFz (w : WE) (env : Ev) (Kd : Ev → PyData → Prop) (Kx : KXc) : Prop := w env (fun env' r => ∃ p, fz env' r = some p ∧ Kd p.1 p.2) Kx

/-! ### argument lists, held: read at the call -/
abbrev WA := Ev → (Ev → List Rs → Prop) → KXc → Prop
abbrev WF := Ev → (Ev → List PyData → Prop) → KXc → Prop
structure DA (B : Bs) (W : WX) (X : Cx) (es : List Expr) (w : WA) : Prop where
  run : ∀ (pos : Pos) (pins : List (Addr × Obj)) (s : Shared) (σ : St) (F H : Hp) (env : Ev) (Ka : Ev → List Rs → Prop) (Kx : KXc), Inv X pins σ H s → Rl X.K B F H env σ → w env Ka Kx → XC X.K B W Kx →
    wpAny (model X.prog X.w) X.A (spliced (backTo pos (starEach es X.env))) (fun us s' => ∃ vs env' rs F' H', Inv X pins σ H' s' ∧ Vals vs us ∧ Rl X.K B F' H' env' σ ∧ Fm env σ F H env' F' H' ∧ Paired (fun v r => Res X.K B F' H' env' σ v r) vs rs ∧ Ka env' rs) X.xe s
/-- frozen one by one -/
structure DF (B : Bs) (W : WX) (X : Cx) (es : List Expr) (w : WF) : Prop where
  run : ∀ (pos : Pos) (pins : List (Addr × Obj)) (s : Shared) (σ : St) (F H : Hp) (env : Ev) (Ka : Ev → List PyData → Prop) (Kx : KXc), Inv X pins σ H s → Rl X.K B F H env σ → w env Ka Kx → XC X.K B W Kx →
    wpAny (model X.prog X.w) X.A (spliced (backTo pos (starEach es X.env))) (fun us s' => ∃ vs env' ds F' H', Inv X pins σ H' s' ∧ Vals vs us ∧ Rl X.K B F' H' env' σ ∧ Fm env σ F H env' F' H' ∧ RpAll X.K F' vs ds ∧ Ka env' ds) X.xe s
def wANil : WA := fun env Ka _ => Ka env []
def wACons (w : WE) (wr : WA) : WA := fun env Ka Kx => w env (fun env1 r => wr env1 (fun env2 rs => Ka env2 (r :: rs)) Kx) Kx
def wFNil : WF := fun env Ka _ => Ka env []
def wFCons (w : WE) (wr : WF) : WF := fun env Ka Kx => wFz w env (fun env1 d => wr env1 (fun env2 ds => Ka env2 (d :: ds)) Kx) Kx
section
variable {B : Bs} {W : WX} {X : Cx} {e : Expr} {es : List Expr} {w : WE} {wr : WA} {wf : WF} {pos : Pos}
theorem da_nil : DA B W X [] wANil := ⟨fun _ _ _ _ F H env Ka _ I R h _ => Calls.spliced_nil ⟨[], env, [], F, H, I, .nil, R, Fm.refl, .nil, h⟩⟩
theorem da_cons (ha : DE B W X e w) (hr : DA B W X es wr) (hs : starEach (e :: es) X.env = (false, eval e X.env) :: starEach es X.env := by rfl) : DA B W X (e :: es) (wACons w wr) := by
  refine ⟨fun pos pins s σ F H env Ka Kx I R h hx => ?_⟩
  rw [hs]
  show wpAny _ _ (spliced ((false, eval e X.env) :: backTo pos (starEach es X.env))) _ _ s
  refine Calls.spliced_cons (thn (ha.run pins s σ F H env _ Kx I R h hx) fun u s1 ⟨x, env1, r1, F1, H1, I1, rx, R1, f1, q1, n1, h1⟩ => ?_)
  exact thn (hr.run pos pins s1 σ F1 H1 env1 _ Kx I1 R1 h1 hx) fun us s2 ⟨vs, env2, rs, F2, H2, I2, rv, R2, f2, q2, h2⟩ => ⟨x :: vs, env2, r1 :: rs, F2, H2, I2, .cons rx rv, R2, f1.trans f2, .cons (q1.step f2) q2, h2⟩
theorem df_nil : DF B W X [] wFNil := ⟨fun _ _ _ _ F H env Ka _ I R h _ => Calls.spliced_nil ⟨[], env, [], F, H, I, .nil, R, Fm.refl, .nil, h⟩⟩
theorem df_cons (ha : DE B W X e w) (hr : DF B W X es wf) (hs : starEach (e :: es) X.env = (false, eval e X.env) :: starEach es X.env := by rfl) : DF B W X (e :: es) (wFCons w wf) := by
  refine ⟨fun pos pins s σ F H env Ka Kx I R h hx => ?_⟩
  rw [hs]
  show wpAny _ _ (spliced ((false, eval e X.env) :: backTo pos (starEach es X.env))) _ _ s
  refine Calls.spliced_cons (thn (ha.run pins s σ F H env _ Kx I R h hx) fun u s1 ⟨x, env1, r1, F1, H1, I1, rx, R1, f1, q1, n1, p, e1, h1⟩ => ?_)
  obtain ⟨F2, R2, f2, rp⟩ := freeze (env2 := p.1) (d := p.2) R1 f1 q1 n1 e1
  exact thn (hr.run pos pins s1 σ F2 H1 p.1 _ Kx I1 R2 h1 hx) fun us s2 ⟨vs, env2, ds, F3, H3, I3, rv, R3, f3, q3, h3⟩ => ⟨x :: vs, env2, p.2 :: ds, F3, H3, I3, .cons rx rv, R3, f2.trans f3, .cons (Rp.mono f3.sub _ _ rp) q3, h3⟩

/-! ### displays -/
def wTup (wf : WF) : WE := fun env Ke Kx => wf env (fun env' ds => ds.length ≤ sizeLine ∧ Ke env' (.val (.tuple ds))) Kx
def wLst (wf : WF) : WE := fun env Ke Kx => wf env (fun env' ds => ds.length ≤ sizeLine ∧ Ke env' (.tmp ds)) Kx
theorem de_tup {k : Nat} (h : DF B W X es wf) : DE B W X (.Tuple es k pos) (wTup wf) := by
  refine ⟨fun pins s σ F H env Ke Kx I R hq hx => ?_⟩
  refine wpAny_Tuple_spliced (thn (h.run pos pins s σ F H env _ Kx I R hq hx) fun us s1 ⟨vs, env1, ds, F1, H1, I1, rv, R1, f1, q1, z, k1⟩ => ⟨by rw [← rv.length, q1.length]; exact z, ?_⟩)
  have hf : H1 s1.heap.objs.size = none := I1.hok.fresh (Nat.le_refl _)
  obtain ⟨r, F', g1, g2, g3, g4, g5⟩ := new_tup (Kr := Ke env1) R1 hf q1 k1
  exact ⟨.ref s1.heap.objs.size, env1, r, F', upd H1 s1.heap.objs.size (.tup vs), I1.laid (t' := s1.toks) (fun b u e => Heap.get?_push_of_some _ e) (Nat.le_refl _) ⟨by rw [q1.length]; exact z, us, rv, ⟨_, Heap.get?_push_size _ rfl, rfl, _, rfl⟩⟩, rfl, g1, f1.trans g2, g3, g4.up f1.dom, g5⟩
theorem de_lst (h : DF B W X es wf) : DE B W X (.List es pos) (wLst wf) := by
  refine ⟨fun pins s σ F H env Ke Kx I R hq hx => ?_⟩
  refine wpAny_List_spliced (thn (h.run pos pins s σ F H env _ Kx I R hq hx) fun us s1 ⟨vs, env1, ds, F1, H1, I1, rv, R1, f1, q1, z, k1⟩ => ⟨by rw [← rv.length, q1.length]; exact z, ?_⟩)
  have hf : H1 s1.heap.objs.size = none := I1.hok.fresh (Nat.le_refl _)
  obtain ⟨r, F', g1, g2, g3, g4, g5⟩ := new_lst (Kr := Ke env1) R1 hf q1 k1
  exact ⟨.ref s1.heap.objs.size, env1, r, F', upd H1 s1.heap.objs.size (.lst vs), I1.laid (t' := s1.toks) (fun b u e => Heap.get?_push_of_some _ e) (Nat.le_refl _) ⟨by rw [q1.length]; exact z, us, 0, rv, Heap.get?_push_size _ rfl⟩, rfl, g1, f1.trans g2, g3, g4.up f1.dom, g5⟩

/-! ### subscripts -/
def oIx : Op2 := fun d e K => match d, e with
  | .list ds, .int i => ∃ x, atI ds i = some x ∧ K (.val x)
  | .tuple ds, .int i => ∃ x, atI ds i = some x ∧ K (.val x)
  | .str z, .int i => z.length ≤ sizeLine ∧ ∃ c, atI z.cps.toList i = some c ∧ K (.val (.str ⟨#[c]⟩))
  | _, _ => False
theorem RpAll.at {K : PySem.W.Frag} {F : Hp} {vs : List V} {ds : List PyData} {i : Int} {x : PyData} (h : RpAll K F vs ds) (e : atI ds i = some x) : ∃ v, atI vs i = some v ∧ Rp K F v x := by
  unfold atI at e ⊢
  rw [h.length]
  cases q : ixN ds.length i with
  | none => rw [q] at e; cases e
  | some j =>
    rw [q] at e
    exact h.get (i := j) e
theorem de_ix {a b : Expr} {wa wb : WE} (ha : DE B W X a wa) (hb : DE B W X b wb) (hs : PlainIx b := by exact fun _ _ => rfl) : DE B W X (.Subscript a b pos) (wBin oIx wa wb) := by
  refine ⟨fun pins s σ F H env Ke Kx I R h hx => ?_⟩
  refine Subscript_ (thn (ha.run pins s σ F H env _ Kx I R h hx) fun v s1 ⟨x, env1, r1, F1, H1, I1, rx, R1, f1, q1, n1, h1⟩ => ?_)
  refine thn (hb.run pins s1 σ F1 H1 env1 _ Kx I1 R1 h1 hx) fun u s2 ⟨y, env2, r2, F2, H2, I2, ry, R2, f2, q2, n2, h2⟩ => ?_
  obtain ⟨d1, e1, d2, e2, h2⟩ := h2
  have g1 := (q1.step f2).rt R2 e1
  have g2 := q2.rt R2 e2
  have go : ∀ (r : L2.R2), IxR X r → r x y H2 (fun v' H' => ∃ r F', Rl X.K B F' H' env2 σ ∧ Fm env2 σ F2 H2 env2 F' H' ∧ Res X.K B F' H' env2 σ v' r ∧ Nw H2 v' r ∧ Ke env2 r) → wpAny (model X.prog X.w) X.A (subscriptTail a b v u) (DP X B pins σ F H env Ke) X.xe s2 := fun r hr q =>
    thn (hr a b pins s2 σ H2 x y v u _ I2 rx ry q (hs _ _)) fun w s3 ⟨v', H', I', rv, r, F', k1, k2, k3, k4, k5⟩ => (DP.up f2 ⟨v', env2, r, F', H', I', rv, k1, k2, k3, k4, k5⟩).up f1
  unfold oIx at h2
  split at h2
  · obtain ⟨z, e3, k⟩ := h2
    obtain ⟨p, vs, rfl, g3, g4⟩ := g1.list R2.sub
    obtain rfl := g2.int
    obtain ⟨w, e4, rp⟩ := g4.at e3
    exact go _ ix_list ⟨p, vs, _, w, rfl, rfl, g3, e4, same_res R2 rp k⟩
  · obtain ⟨z, e3, k⟩ := h2
    obtain ⟨p, vs, rfl, g3, g4⟩ := g1.tuple R2.sub
    obtain rfl := g2.int
    obtain ⟨w, e4, rp⟩ := g4.at e3
    exact go _ ix_tup ⟨p, vs, _, w, rfl, rfl, g3, e4, same_res R2 rp k⟩
  · obtain ⟨z0, z, e3, k⟩ := h2
    obtain rfl := g1.str
    obtain rfl := g2.int
    exact go _ ix_str ⟨_, _, z, rfl, rfl, z0, e3, same_res R2 (.str _) k⟩
  · exact h2.elim
end
end Dl
end L2

/-! The D layer, 5: slices, calls of built-ins by values. -/
namespace L2
namespace Dl
open PySem PySem.Spec PyProof.Rows

/-! ### slices -/
abbrev WO := Ev → (Ev → Option Int → Prop) → KXc → Prop
structure DO (B : Bs) (W : WX) (X : Cx) (e : Option Expr) (w : WO) : Prop where
  run : ∀ (pins : List (Addr × Obj)) (s : Shared) (σ : St) (F H : Hp) (env : Ev) (Ko : Ev → Option Int → Prop) (Kx : KXc), Inv X pins σ H s → Rl X.K B F H env σ → w env Ko Kx → XC X.K B W Kx →
    wpAny (model X.prog X.w) X.A (evalPart e X.env) (fun u s' => ∃ o env' F' H', Inv X pins σ H' s' ∧ IsPart u o ∧ Rl X.K B F' H' env' σ ∧ Fm env σ F H env' F' H' ∧ Ko env' o) X.xe s
def wONo : WO := fun env Ko _ => Ko env none
def wOSo (w : WE) : WO := fun env Ko Kx => w env (fun env' r => ∃ i, r = .val (.int i) ∧ Ko env' (some i)) Kx
def cutD {α : Type} (ds : List α) (lo hi : Option Int) : List α := (ds.drop (HT.sIx ds.length 0 lo)).take (HT.sIx ds.length ds.length hi - HT.sIx ds.length 0 lo)
def oSl (d : PyData) (lo hi : Option Int) (K : Rs → Prop) : Prop := match d with
  | .list ds => K (.tmp (cutD ds lo hi))
  | .tuple ds => K (.val (.tuple (cutD ds lo hi)))
  | .str z => z.length ≤ sizeLine ∧ K (.val (.str (cutS z lo hi)))
  | _ => False
def wSl (wa : WE) (wl wh : WO) : WE := fun env Ke Kx => wa env (fun env1 r1 => wl env1 (fun env2 lo => wh env2 (fun env3 hi => rdK env3 r1 fun d => oSl d lo hi (Ke env3)) Kx) Kx) Kx
section
variable {B : Bs} {W : WX} {X : Cx} {e : Expr} {w : WE} {lo hi : Option Expr} {wl wh : WO} {pos p2 : Pos}
/-- from a DE to HandS's PE, for one run -/
theorem DE.pe {a : Expr} {wa : WE} (h : DE B W X a wa) : PE X a (fun σ H Q => ∃ F env Ke Kx, Rl X.K B F H env σ ∧ wa env Ke Kx ∧ XC X.K B W Kx ∧
    ∀ v env' r F' H', Rl X.K B F' H' env' σ → Fm env σ F H env' F' H' → Res X.K B F' H' env' σ v r → Nw H v r → Ke env' r → Q v H') := by
  refine ⟨fun pins s σ H Q I ⟨F, env, Ke, Kx, R, hw, hx, q⟩ => ?_⟩
  exact thn (h.run pins s σ F H env Ke Kx I R hw hx) fun u s1 ⟨v, env', r, F', H', I', rv, h1, h2, h3, h4, h5⟩ => ⟨v, H', I', rv, q v env' r F' H' h1 h2 h3 h4 h5⟩
theorem do_some (h : DE B W X e w) : DO B W X (some e) (wOSo w) := by
  refine ⟨fun pins s σ F H env Ko Kx I R hw hx => ?_⟩
  refine thn ((po_some h.pe).run pins s σ H (fun o H' => ∃ env' F', Rl X.K B F' H' env' σ ∧ Fm env σ F H env' F' H' ∧ Ko env' o) I ⟨F, env, _, Kx, R, hw, hx, fun v env' r F' H' h1 h2 h3 h4 ⟨i, e1, k⟩ => ?_⟩) fun u s1 ⟨o, H', I', ip, env', F', h1, h2, h3⟩ => ⟨o, env', F', H', I', ip, h1, h2, h3⟩
  subst e1
  cases (show Rp X.K F' v (.int i) from h3)
  exact ⟨i, rfl, env', F', h1, h2, k⟩
theorem RpAll.cut {K : PySem.W.Frag} {F : Hp} {vs : List V} {ds : List PyData} (h : RpAll K F vs ds) (lo hi : Option Int) : RpAll K F (cutV vs lo hi) (cutD ds lo hi) := by
  unfold cutV cutD
  rw [h.length]
  exact (h.drop _).take _
theorem cutD_whole {α : Type} {ds : List α} {lo hi : Option Int} (h : HT.sIx ds.length 0 lo = 0 ∧ HT.sIx ds.length ds.length hi = ds.length) : cutD ds lo hi = ds := by
  unfold cutD
  rw [h.1, h.2]
  simp
theorem de_sl (ha : DE B W X e w) (hl : DO B W X lo wl) (hu : DO B W X hi wh) : DE B W X (.Subscript e (.Slice lo hi none p2) pos) (wSl w wl wh) := by
  refine ⟨fun pins s σ F H env Ke Kx I R h hx => ?_⟩
  refine Subscript_ (thn (ha.run pins s σ F H env _ Kx I R h hx) fun v s1 ⟨x, env1, r1, F1, H1, I1, rx, R1, f1, q1, n1, h1⟩ => ?_)
  refine wpAny_Slice (thn (hl.run pins s1 σ F1 H1 env1 _ Kx I1 R1 h1 hx) fun vl s2 ⟨l, env2, F2, H2, I2, pl, R2, f2, h2⟩ => thn (hu.run pins s2 σ F2 H2 env2 _ Kx I2 R2 h2 hx) fun vu s3 ⟨u, env3, F3, H3, I3, pu, R3, f3, d, e3, h3⟩ => ?_)
  rw [evalPart_none]
  refine wpAny_pure ?_
  have g := ((q1.step f2).step f3).rt R3 e3
  have ff := (f1.trans f2).trans f3
  have I4 : Inv X pins σ H3 { s3 with heap := s3.heap.push { cls := .type "slice", data := .fields #[vl, vu, .none] } } := I3.kept (t' := s3.toks) fun b ob q => Heap.get?_push_of_some _ q
  have go : ∀ (r : V → Option Int → Option Int → Hp → VK → Prop), SlR X r → r x l u H3 (fun v' H' => ∃ r F', Rl X.K B F' H' env3 σ ∧ Fm env3 σ F3 H3 env3 F' H' ∧ Res X.K B F' H' env3 σ v' r ∧ Nw H3 v' r ∧ Ke env3 r) →
      wpAny (model X.prog X.w) X.A (subscriptTail e (.Slice lo hi none p2) v (.ref s3.heap.objs.size)) (DP X B pins σ F H env Ke) X.xe { s3 with heap := s3.heap.push { cls := .type "slice", data := .fields #[vl, vu, .none] } } := fun r hr q => by
    obtain ⟨T, id, hT, ht, hg⟩ := hr pins { s3 with heap := s3.heap.push { cls := .type "slice", data := .fields #[vl, vu, .none] } } σ H3 x v vl vu l u s3.heap.objs.size _ I4 rx (Heap.IsSliceOf.new ..) pl pu q
    exact thn (tail_any (ops := [.ref s3.heap.objs.size, v]) ht hT hg (by with_unfolding_all rfl)) fun w s4 ⟨v', H', I', rv, r, F', k1, k2, k3, k4, k5⟩ => DP.up ff ⟨v', env3, r, F', H', I', rv, k1, k2, k3, k4, k5⟩
  show wpAny (model X.prog X.w) X.A (subscriptTail e (.Slice lo hi none p2) v (.ref s3.heap.objs.size)) (DP X B pins σ F H env Ke) X.xe { s3 with heap := s3.heap.push { cls := .type "slice", data := .fields #[vl, vu, .none] } }
  have h3 : oSl d l u (Ke env3) := h3
  unfold oSl at h3
  split at h3
  · obtain ⟨p, vs, rfl, g3, g4⟩ := g.list R3.sub
    exact go _ sl_list ⟨p, vs, rfl, g3, fun p hp => new_lst R3 hp (g4.cut l u) h3⟩
  · obtain ⟨p, vs, rfl, g3, g4⟩ := g.tuple R3.sub
    refine go _ sl_tupA ⟨p, vs, rfl, g3, fun hw => ?_, fun _ p hp => new_tup R3 hp (g4.cut l u) h3⟩
    rcases g with g | ⟨_, _, _, _, z, _⟩
    · rename_i ds _
      rw [g4.length] at hw
      rw [cutD_whole hw] at h3
      exact same_res R3 g h3
    · cases z
  · obtain rfl := g.str
    exact go _ sl_str ⟨_, rfl, h3.1, same_res R3 (.str _) h3.2⟩
  · exact h3.elim
end

/-! ### calls of built-ins -/
abbrev OpN := List PyData → (Rs → Prop) → Prop
inductive RtAll (K : PySem.W.Frag) (F H : Hp) : List V → List PyData → Prop
  | nil : RtAll K F H [] []
  | cons {v : V} {vs : List V} {d : PyData} {ds : List PyData} : Rt K F H v d → RtAll K F H vs ds → RtAll K F H (v :: vs) (d :: ds)
structure DCl (X : Cx) (f : Value) (o : OpN) : Prop where
  run : ∀ (B : Bs) (F : Hp) (env : Ev) (pins : List (Addr × Obj)) (s : Shared) (σ : St) (H : Hp) (xs : List V) (us : List Value) (ds : List PyData) (Kr : Rs → Prop), Inv X pins σ H s → Vals xs us → Rl X.K B F H env σ → RtAll X.K F H xs ds → o ds Kr →
    wpAny (model X.prog X.w) X.A (call f us) (RP X B pins σ F H env Kr) X.xe s
def rdAll (env : Ev) : List Rs → Option (List PyData)
  | [] => some []
  | r :: rs => match rd env r, rdAll env rs with
    | some d, some ds => some (d :: ds)
    | _, _ => none
def wCallB (o : OpN) (wa : WA) : WE := fun env Ke Kx => wa env (fun env' rs => ∃ ds, rdAll env' rs = some ds ∧ o ds (Ke env')) Kx
theorem rts_of {K : PySem.W.Frag} {B : Bs} {F H : Hp} {env : Ev} {σ : St} (R : Rl K B F H env σ) : ∀ {vs : List V} {rs : List Rs} {ds : List PyData}, Paired (fun v r => Res K B F H env σ v r) vs rs → rdAll env rs = some ds → RtAll K F H vs ds
  | _, _, ds, .nil, e => by
    have e' : [] = ds := by simpa [rdAll] using e
    subst e'
    exact .nil
  | _, _, ds, .cons (b := r) (l₂ := rs) h t, e => by
    unfold rdAll at e
    split at e
    · rename_i d es e1 e2
      cases e
      exact .cons (h.rt R e1) (rts_of R t e2)
    · cases e
section
variable {B : Bs} {W : WX} {X : Cx} {x : Str} {p pos : Pos} {e : Expr} {es : List Expr} {wa : WA} {id T : String} {o : OpN}
theorem de_callB (hc : DCl X (.builtin id) o) (ha : DA B W X (e :: es) wa) (hg : Gl X x) (hm : X.mg x = none) (hv : bootBuiltins x = some (.builtin id)) (hn : x ≠ "__name__" := by decide) (hdb : (x == ("__debug__" : Str)) = false := by decide)
    (he : starEach (e :: es) X.env = (false, eval e X.env) :: starEach es X.env := by rfl) (hpl : (backTo pos (starEach es X.env)).any (·.1) = false := by rfl) : DE B W X (.Call (.Name x p) (e :: es) [] pos) (wCallB o wa) := by
  refine ⟨fun pins s σ F H env Ke Kx I R h hx => ?_⟩
  refine wpAny_Call_Name_kw (ld_blt I hg hm hv ?_ hn hdb)
  exact PyProof.Rows.callWith_builtin1 (thn (ha.run pos pins s σ F H env _ Kx I R h hx) fun us s1 ⟨vs, env1, rs, F1, H1, I1, rv, R1, f1, q1, ds, e1, k⟩ => thn (hc.run B F1 env1 pins s1 σ H1 vs us ds _ I1 rv R1 (rts_of R1 q1 e1) k) fun w s2 h2 => h2.dp.up f1) he hpl
theorem de_callTy (hc : DCl X (.type T) o) (ha : DA B W X (e :: es) wa) (hg : Gl X x) (hm : X.mg x = none) (hv : bootBuiltins x = some (.type T)) (hn : x ≠ "__name__" := by decide) (hdb : (x == ("__debug__" : Str)) = false := by decide)
    (he : starEach (e :: es) X.env = (false, eval e X.env) :: starEach es X.env := by rfl) (hpl : (backTo pos (starEach es X.env)).any (·.1) = false := by rfl) : DE B W X (.Call (.Name x p) (e :: es) [] pos) (wCallB o wa) := by
  refine ⟨fun pins s σ F H env Ke Kx I R h hx => ?_⟩
  refine wpAny_Call_Name_kw (ld_blt I hg hm hv ?_ hn hdb)
  exact PyProof.Rows.callWith_type1 (thn (ha.run pos pins s σ F H env _ Kx I R h hx) fun us s1 ⟨vs, env1, rs, F1, H1, I1, rv, R1, f1, q1, ds, e1, k⟩ => thn (hc.run B F1 env1 pins s1 σ H1 vs us ds _ I1 rv R1 (rts_of R1 q1 e1) k) fun w s2 h2 => h2.dp.up f1) he hpl
end
section
variable {X : Cx}
theorem clr_run {f : Value} {r : List V → Hp → VK → Prop} (ho : CallR X f r) {B : Bs} {F : Hp} {env : Ev} {pins : List (Addr × Obj)} {s : Shared} {σ : St} {H : Hp} {xs : List V} {us : List Value} {Kr : Rs → Prop} (I : Inv X pins σ H s) (rx : Vals xs us)
    (h : r xs H (fun v H' => ∃ r F', Rl X.K B F' H' env σ ∧ Fm env σ F H env F' H' ∧ Res X.K B F' H' env σ v r ∧ Nw H v r ∧ Kr r)) : wpAny (model X.prog X.w) X.A (call f us) (RP X B pins σ F H env Kr) X.xe s :=
  thn (ho pins s σ H xs us _ I rx h) fun w s1 ⟨v', H', I', rv, r, F', h1, h2, h3, h4, h5⟩ => ⟨v', r, F', H', I', rv, h1, h2, h3, h4, h5⟩
theorem RtAll.one {K : PySem.W.Frag} {F H : Hp} {vs : List V} {d : PyData} (h : RtAll K F H vs [d]) : ∃ v, vs = [v] ∧ Rt K F H v d := by
  cases h with
  | cons a b => cases b; exact ⟨_, rfl, a⟩
theorem RtAll.two {K : PySem.W.Frag} {F H : Hp} {vs : List V} {d e : PyData} (h : RtAll K F H vs [d, e]) : ∃ v w, vs = [v, w] ∧ Rt K F H v d ∧ Rt K F H w e := by
  cases h with
  | cons a b =>
    obtain ⟨w, rfl, h2⟩ := b.one
    exact ⟨_, w, rfl, a, h2⟩
def oLen : OpN := fun ds K => match ds with
  | [.list xs] => K (.val (.int xs.length))
  | [.tuple xs] => K (.val (.int xs.length))
  | [.str z] => z.length ≤ sizeLine ∧ K (.val (.int z.length))
  | _ => False
theorem dcl_len : DCl X (.builtin "len") oLen := by
  refine ⟨fun B F env pins s σ H xs us ds Kr I rx R hx q => ?_⟩
  unfold oLen at q
  split at q
  · obtain ⟨v, rfl, h⟩ := hx.one
    obtain ⟨a, vs, rfl, h1, h2⟩ := h.list R.sub
    exact clr_run call_len_seq I rx ⟨a, vs, rfl, .inl h1, by rw [h2.length]; exact same_res R (.int _) q⟩
  · obtain ⟨v, rfl, h⟩ := hx.one
    obtain ⟨a, vs, rfl, h1, h2⟩ := h.tuple R.sub
    exact clr_run call_len_seq I rx ⟨a, vs, rfl, .inr h1, by rw [h2.length]; exact same_res R (.int _) q⟩
  · obtain ⟨v, rfl, h⟩ := hx.one
    obtain rfl := h.str
    exact clr_run call_len_str I rx ⟨_, rfl, q.1, same_res R (.int _) q.2⟩
  · exact q.elim
def oInt : OpN := fun ds K => match ds with
  | [.int i] => K (.val (.int i))
  | [.bool b] => K (.val (.int (if b then 1 else 0)))
  | _ => False
theorem dcl_int : DCl X (.type "int") oInt := by
  refine ⟨fun B F env pins s σ H xs us ds Kr I rx R hx q => ?_⟩
  unfold oInt at q
  split at q
  · obtain ⟨v, rfl, h⟩ := hx.one
    obtain rfl := h.int
    exact clr_run call_int1 I rx (.inl ⟨_, rfl, same_res R (.int _) q⟩)
  · obtain ⟨v, rfl, h⟩ := hx.one
    obtain rfl := h.bool
    exact clr_run call_int1 I rx (.inr ⟨_, rfl, same_res R (.int _) q⟩)
  · exact q.elim
def oMax : OpN := fun ds K => match ds with
  | [.int i, .int j] => K (.val (.int (if j > i then j else i)))
  | [.list xs] => ∃ ns : List Int, xs = ns.map .int ∧ 0 < ns.length ∧ ∀ m, m ∈ ns → (∀ n ∈ ns, n ≤ m) → K (.val (.int m))
  | _ => False
def oMin : OpN := fun ds K => match ds with
  | [.int i, .int j] => K (.val (.int (if j < i then j else i)))
  | [.list xs] => ∃ ns : List Int, xs = ns.map .int ∧ 0 < ns.length ∧ ∀ m, m ∈ ns → (∀ n ∈ ns, m ≤ n) → K (.val (.int m))
  | _ => False
theorem dcl_max (hc : X.calm = true) : DCl X (.builtin "max") oMax := by
  refine ⟨fun B F env pins s σ H xs us ds Kr I rx R hx q => ?_⟩
  unfold oMax at q
  split at q
  · obtain ⟨v, w, rfl, h1, h2⟩ := hx.two
    obtain rfl := h1.int
    obtain rfl := h2.int
    exact clr_run (call_max2 hc) I rx ⟨_, _, rfl, same_res R (.int _) q⟩
  · obtain ⟨v, rfl, h⟩ := hx.one
    obtain ⟨ns, rfl, hl, q⟩ := q
    obtain ⟨a, vs, rfl, h1, h2⟩ := h.list R.sub
    have e := h2.ints
    subst e
    exact clr_run (cr_max hc) I rx ⟨a, ns, rfl, h1, hl, fun m hm hle => same_res R (.int _) (q m hm hle)⟩
  · exact q.elim
theorem dcl_min (hc : X.calm = true) : DCl X (.builtin "min") oMin := by
  refine ⟨fun B F env pins s σ H xs us ds Kr I rx R hx q => ?_⟩
  unfold oMin at q
  split at q
  · obtain ⟨v, w, rfl, h1, h2⟩ := hx.two
    obtain rfl := h1.int
    obtain rfl := h2.int
    exact clr_run (call_min2 hc) I rx ⟨_, _, rfl, same_res R (.int _) q⟩
  · obtain ⟨v, rfl, h⟩ := hx.one
    obtain ⟨ns, rfl, hl, q⟩ := q
    obtain ⟨a, vs, rfl, h1, h2⟩ := h.list R.sub
    have e := h2.ints
    subst e
    exact clr_run (cr_min hc) I rx ⟨a, ns, rfl, h1, hl, fun m hm hle => same_res R (.int _) (q m hm hle)⟩
  · exact q.elim
def oSum : OpN := fun ds K => match ds with
  | [.list xs] => ∃ ns : List Int, xs = ns.map .int ∧ K (.val (.int ns.sum))
  | _ => False
theorem dcl_sum (hc : X.calm = true) : DCl X (.builtin "sum") oSum := by
  refine ⟨fun B F env pins s σ H xs us ds Kr I rx R hx q => ?_⟩
  unfold oSum at q
  split at q
  · obtain ⟨v, rfl, h⟩ := hx.one
    obtain ⟨ns, rfl, q⟩ := q
    obtain ⟨a, vs, rfl, h1, h2⟩ := h.list R.sub
    have e := h2.ints
    subst e
    exact clr_run (cr_sum hc) I rx ⟨a, ns, rfl, h1, same_res R (.int _) q⟩
  · exact q.elim
def oAll : OpN := fun ds K => match ds with
  | [.list xs] => ∃ bs : List Bool, xs = bs.map .bool ∧ K (.val (.bool (bs.all id)))
  | _ => False
theorem dcl_all (hc : X.calm = true) : DCl X (.builtin "all") oAll := by
  refine ⟨fun B F env pins s σ H xs us ds Kr I rx R hx q => ?_⟩
  unfold oAll at q
  split at q
  · obtain ⟨v, rfl, h⟩ := hx.one
    obtain ⟨bs, rfl, q⟩ := q
    obtain ⟨a, vs, rfl, h1, h2⟩ := h.list R.sub
    have e := h2.bools
    subst e
    exact clr_run (cr_all hc) I rx ⟨a, bs, rfl, h1, same_res R (.bl _) q⟩
  · exact q.elim
def oList : OpN := fun ds K => match ds with
  | [.list xs] => K (.tmp xs)
  | [.tuple xs] => K (.tmp xs)
  | _ => False
theorem dcl_list : DCl X (.type "list") oList := by
  refine ⟨fun B F env pins s σ H xs us ds Kr I rx R hx q => ?_⟩
  unfold oList at q
  split at q
  · obtain ⟨v, rfl, h⟩ := hx.one
    obtain ⟨a, vs, rfl, h1, h2⟩ := h.list R.sub
    exact clr_run call_list_of I rx ⟨a, vs, rfl, .inl h1, fun p hp => new_lst R hp h2 q⟩
  · obtain ⟨v, rfl, h⟩ := hx.one
    obtain ⟨a, vs, rfl, h1, h2⟩ := h.tuple R.sub
    exact clr_run call_list_of I rx ⟨a, vs, rfl, .inr h1, fun p hp => new_lst R hp h2 q⟩
  · exact q.elim
def oTuple : OpN := fun ds K => match ds with
  | [.list xs] => K (.val (.tuple xs))
  | [.tuple xs] => K (.val (.tuple xs))
  | _ => False
theorem dcl_tuple : DCl X (.type "tuple") oTuple := by
  refine ⟨fun B F env pins s σ H xs us ds Kr I rx R hx q => ?_⟩
  unfold oTuple at q
  split at q
  · obtain ⟨v, rfl, h⟩ := hx.one
    obtain ⟨a, vs, rfl, h1, h2⟩ := h.list R.sub
    exact clr_run call_tuple_of I rx ⟨a, vs, rfl, .inl ⟨h1, fun p hp => new_tup R hp h2 q⟩⟩
  · obtain ⟨v, rfl, h⟩ := hx.one
    obtain ⟨a, vs, rfl, h1, h2⟩ := id (h.tuple R.sub)
    rcases h with h | ⟨_, _, _, _, z, _⟩
    · exact clr_run call_tuple_of I rx ⟨a, vs, rfl, .inr ⟨h1, same_res R h q⟩⟩
    · cases z
  · exact q.elim
end

/-! ### isinstance with a built-in class -/
def tyN : PyData → String
  | .none => "NoneType"
  | .bool _ => "bool"
  | .int _ => "int"
  | .str _ => "str"
  | .list _ => "list"
  | .tuple _ => "tuple"
  | .dict _ => "dict"
/-- isinstance(d, T) of the built-in classes asked here -/
def isTy (T : String) (d : PyData) : Bool := tyN d == T || (T == "int" && tyN d == "bool")
def wIsi (T : String) (wa : WE) : WE := fun env Ke Kx => wa env (fun env' r => rdK env' r fun d => Ke env' (.val (.bool (isTy T d)))) Kx
theorem Rt.tyX {K : PySem.W.Frag} {F H : Hp} {v : V} {d : PyData} (s : Same F H) (h : Rt K F H v d) : TyX K H v (.type (tyN d)) := by
  cases d with
  | none => obtain rfl := h.none; exact .base .non
  | bool b => obtain rfl := h.bool; exact .base (.bl b)
  | int b => obtain rfl := h.int; exact .base (.int b)
  | str b => obtain rfl := h.str; exact .base (.str b)
  | list ds =>
    obtain ⟨a, vs, rfl, h1, _⟩ := h.list s
    rcases h1 with (h1 | ⟨o, h1⟩) | ⟨o, its, n, h1, h2, _⟩
    · exact .base (.lst h1)
    · exact .base (.frz h1)
    · exact .kList h1 h2
  | tuple ds =>
    obtain ⟨a, vs, rfl, h1, _⟩ := h.tuple s
    rcases h1 with (h1 | ⟨o, h1⟩) | ⟨o, its, n, h1, h2, _⟩
    · exact .base (.tup h1)
    · exact .fTuple h1
    · exact .kTuple h1 h2
  | dict kvs =>
    obtain ⟨_, a, rfl, h1⟩ := h.dict s
    exact .base (.dK h1)
theorem kit_isTy {T : String} (hT : T = "int" ∨ T = "bool" ∨ T = "tuple" ∨ T = "list" ∨ T = "str") (d : PyData) : kitB (tyN d) T = some (isTy T d) := by
  rcases hT with rfl | rfl | rfl | rfl | rfl <;> cases d <;> simp only [tyN, isTy] <;> decide +kernel
theorem de_isi {B : Bs} {W : WX} {X : Cx} {e : Expr} {w : WE} {T : String} {x : Str} {p p2 pos : Pos} (ha : DE B W X e w) (hg : Gl X "isinstance") (hm : X.mg "isinstance" = none) (hg2 : Gl X x) (hm2 : X.mg x = none) (hv : bootBuiltins x = some (.type T)) (hT : T = "int" ∨ T = "bool" ∨ T = "tuple" ∨ T = "list" ∨ T = "str")
    (hn : x ≠ "__name__" := by decide) (hdb : (x == ("__debug__" : Str)) = false := by decide) (hs : starEach [e, .Name x p2] X.env = (false, eval e X.env) :: starEach [.Name x p2] X.env := by rfl) (hs2 : starEach [.Name x p2] X.env = (false, eval (.Name x p2) X.env) :: starEach [] X.env := by rfl)
    (hpl : (backTo pos (starEach [.Name x p2] X.env)).any (·.1) = false := by rfl) : DE B W X (.Call (.Name "isinstance" p) [e, .Name x p2] [] pos) (wIsi T w) := by
  refine ⟨fun pins s σ F H env Ke Kx I R h hx => ?_⟩
  have hb : PE X (.Name x p2) (tC (.ty T)) := pe_bltn hg2 hm2 hv rfl hn hdb
  have pe := pe_callB (pos := pos) (p := p) (call_isi (X := X)) hg hm (by decide +kernel) (pa_cons ha.pe (pa_cons hb pa_nil hs2) hs) (by decide) (by decide) hs hpl
  refine thn (pe.run pins s σ H (fun v H' => ∃ env' F', Rl X.K B F' H' env' σ ∧ Fm env σ F H env' F' H' ∧ ∃ b, v = .bl b ∧ Ke env' (.val (.bool b))) I ?_) fun u s1 ⟨v, H', I', rv, env', F', h1, h2, b, h3, h4⟩ => by
    subst h3
    exact ⟨_, env', .val (.bool b), F', H', I', rv, h1, h2, .bl b, trivial, h4⟩
  refine ⟨F, env, _, Kx, R, h, hx, fun v env' r F' H' k1 k2 k3 _ ⟨d, e1, k4⟩ => ?_⟩
  exact ⟨v, .ty T, .type (tyN d), .type T, isTy T d, rfl, .ty T, (k3.rt k1 e1).tyX k1.sub, kit_ty (kit_isTy hT d), env', F', k1, k2, isTy T d, rfl, k4⟩
end Dl
end L2

/-! The D layer, 6: what a def promises over data; its call. -/
namespace L2
namespace Dl
open PySem PySem.Spec PyProof.Rows

inductive AV where
  | val (d : PyData)
  | own (ds : List PyData)
inductive Rv where
  | val (d : PyData)
  | own (ds : List PyData)
/-- a promise over data: the arguments; what is wanted of the lent lists' ends and the answer; of them and an exception -/
abbrev Spc := List AV → (List (List PyData) → Rv → Prop) → (List (List PyData) → XD → Prop) → Prop
def lentAs : List V → List AV → List Addr
  | .ref a :: vs, .own _ :: avs => a :: lentAs vs avs
  | _ :: vs, _ :: avs => lentAs vs avs
  | _, _ => []
inductive ArgsR (K : PySem.W.Frag) (F H : Hp) : List V → List AV → Prop
  | nil : ArgsR K F H [] []
  | val {v : V} {vs : List V} {d : PyData} {as : List AV} : Rp K F v d → ArgsR K F H vs as → ArgsR K F H (v :: vs) (.val d :: as)
  | own {a : Addr} {ws vs : List V} {ds : List PyData} {as : List AV} : H a = some (.lst ws) → F a = none → RpAll K F ws ds → ArgsR K F H vs as → ArgsR K F H (.ref a :: vs) (.own ds :: as)
/-- the lent lists at the end -/
def OutsR (K : PySem.W.Frag) (F H : Hp) (as : List Addr) (outs : List (List PyData)) : Prop := Paired (fun a ds => ∃ ws, H a = some (.lst ws) ∧ F a = none ∧ RpAll K F ws ds) as outs
def RvR (K : PySem.W.Frag) (H0 F H : Hp) (v : V) : Rv → Prop
  | .val d => Rp K F v d
  | .own ds => ∃ p ws, v = .ref p ∧ H p = some (.lst ws) ∧ F p = none ∧ H0 p = none ∧ RpAll K F ws ds
structure Aft (K : PySem.W.Frag) (F H : Hp) (ls : List Addr) (F' H' : Hp) (outs : List (List PyData)) : Prop where
  subF : Same F F'
  sub : Same F' H'
  keep : ∀ b x, H b = some x → b ∉ ls → H' b = some x
  dom : ∀ b, H b ≠ none → H' b ≠ none
  new : ∀ b x, F' b = some x → F b = some x ∨ Nw0 H b x
  outs : OutsR K F' H' ls outs
/-- what an exception is, by its class's name -/
def XRm (K : PySem.W.Frag) (mg : Str → Option Value) (F H : Hp) (x : XD) (cls : Value) (d : Option Addr) : Prop :=
  mg x.name = some cls ∧ match d with
    | none => x.fs = []
    | some dx => ∃ fs, F dx = some (.xd fs) ∧ fsR K F fs x.fs
def low (K : PySem.W.Frag) (mg : Str → Option Value) (n : Nat) (S : Spc) : Sp := fun vs H Q E => ∃ F avs Kr Kx, Same F H ∧ ArgsR K F H vs avs ∧ (lentAs vs avs).Nodup ∧ avs.length = n ∧ S avs Kr Kx ∧
  (∀ outs r F' H' v, Aft K F H (lentAs vs avs) F' H' outs → RvR K H F' H' v r → Kr outs r → Q v H') ∧
  (∀ outs x cls d F' H', Aft K F H (lentAs vs avs) F' H' outs → XRm K mg F' H' x cls d → Kx outs x → E cls d H')
theorem ArgsR.length {K : PySem.W.Frag} {F H : Hp} : ∀ {vs : List V} {as : List AV}, ArgsR K F H vs as → vs.length = as.length
  | _, _, .nil => rfl
  | _, _, .val _ t => by rw [List.length_cons, List.length_cons, t.length]
  | _, _, .own _ _ _ t => by rw [List.length_cons, List.length_cons, t.length]

/-! ### argument lists of own defs: frozen ones and lent names -/
inductive Ar where
  | fz (d : PyData)
  | ln (i : Nat)
abbrev WM := Ev → (Ev → List Ar → Prop) → KXc → Prop
def ArR (K : PySem.W.Frag) (F : Hp) (σ : St) (v : V) : Ar → Prop
  | .fz d => Rp K F v d
  | .ln i => σ[i]? = some (some v)
structure DM (B : Bs) (W : WX) (X : Cx) (es : List Expr) (w : WM) : Prop where
  run : ∀ (pos : Pos) (pins : List (Addr × Obj)) (s : Shared) (σ : St) (F H : Hp) (env : Ev) (Ka : Ev → List Ar → Prop) (Kx : KXc), Inv X pins σ H s → Rl X.K B F H env σ → w env Ka Kx → XC X.K B W Kx →
    wpAny (model X.prog X.w) X.A (spliced (backTo pos (starEach es X.env))) (fun us s' => ∃ vs env' as F' H', Inv X pins σ H' s' ∧ Vals vs us ∧ Rl X.K B F' H' env' σ ∧ Fm env σ F H env' F' H' ∧ Paired (fun v a => ArR X.K F' σ v a) vs as ∧ Ka env' as) X.xe s
def wMNil : WM := fun env Ka _ => Ka env []
def wMCons (w : WE) (wr : WM) : WM := fun env Ka Kx => wFz w env (fun env1 d => wr env1 (fun env2 as => Ka env2 (.fz d :: as)) Kx) Kx
def wMLend (i : Nat) (wr : WM) : WM := fun env Ka Kx => wr env (fun env2 as => Ka env2 (.ln i :: as)) Kx
theorem ArR.mono {K : PySem.W.Frag} {F F' : Hp} {σ : St} {v : V} {a : Ar} (s : Same F F') (h : ArR K F σ v a) : ArR K F' σ v a := by
  cases a with
  | fz d => exact Rp.mono s d v h
  | ln i => exact h
section
variable {B : Bs} {W : WX} {X : Cx} {e : Expr} {es : List Expr} {w : WE} {wm : WM} {pos : Pos}
theorem dm_nil : DM B W X [] wMNil := ⟨fun _ _ _ _ F H env Ka _ I R h _ => Calls.spliced_nil ⟨[], env, [], F, H, I, .nil, R, Fm.refl, .nil, h⟩⟩
theorem dm_cons (ha : DE B W X e w) (hr : DM B W X es wm) (hs : starEach (e :: es) X.env = (false, eval e X.env) :: starEach es X.env := by rfl) : DM B W X (e :: es) (wMCons w wm) := by
  refine ⟨fun pos pins s σ F H env Ka Kx I R h hx => ?_⟩
  rw [hs]
  show wpAny _ _ (spliced ((false, eval e X.env) :: backTo pos (starEach es X.env))) _ _ s
  refine Calls.spliced_cons (thn (ha.run pins s σ F H env _ Kx I R h hx) fun u s1 ⟨x, env1, r1, F1, H1, I1, rx, R1, f1, q1, n1, p, e1, h1⟩ => ?_)
  obtain ⟨F2, R2, f2, rp⟩ := freeze (env2 := p.1) (d := p.2) R1 f1 q1 n1 e1
  exact thn (hr.run pos pins s1 σ F2 H1 p.1 _ Kx I1 R2 h1 hx) fun us s2 ⟨vs, env2, as, F3, H3, I3, rv, R3, f3, q3, h3⟩ => ⟨x :: vs, env2, .fz p.2 :: as, F3, H3, I3, .cons rx rv, R3, f2.trans f3, .cons (Rp.mono f3.sub _ _ rp) q3, h3⟩
/-- the slot i holds a list of its own, lent -/
def wLd (i : Nat) (wm : WM) : WM := fun env Ka Kx => (∃ ds l, env[i]? = some (Sl.own l ds)) ∧ wMLend i wm env Ka Kx
/-- a name that holds a list of its own is lent -/
theorem dm_lend (i : Nat) {x : Str} {p : Pos} (hr : DM B W X es wm) (hN : X.N[i]? = some x := by rfl) (hv : Vis X.env.scope x := by first | exact Or.inl rfl | exact Or.inr (Or.inl rfl) | exact Or.inr (Or.inr rfl)) (hd : (x == ("__debug__" : Str)) = false := by decide)
    (hcd : (x == ("__classdict__" : Str)) = false := by decide) (hs : starEach (.Name x p :: es) X.env = (false, eval (.Name x p) X.env) :: starEach es X.env := by rfl) : DM B W X (.Name x p :: es) (wLd i wm) := by
  refine ⟨fun pos pins s σ F H env Ka Kx I R h hx => ?_⟩
  obtain ⟨⟨ds, l, e0⟩, h⟩ := h
  rw [hs]
  show wpAny _ _ (spliced ((false, eval (.Name x p) X.env) :: backTo pos (starEach es X.env))) _ _ s
  have sl := R.sl i
  rw [e0] at sl
  obtain ⟨a, ws, g1, g2, g3, g4⟩ := sl
  refine Calls.spliced_cons (thn ((pe_var hN hv hd hcd).run pins s σ H (fun v H' => H' = H ∧ v = .ref a) I ⟨_, g1, rfl, rfl⟩) fun u s1 ⟨v, H', I', rv, e1, e2⟩ => ?_)
  subst e1 e2
  exact thn (hr.run pos pins s1 σ F _ env _ Kx I' R h hx) fun us s2 ⟨vs, env2, as, F3, H3, I3, rv', R3, f3, q3, h3⟩ => ⟨.ref a :: vs, env2, .ln i :: as, F3, H3, I3, .cons rv rv', R3, f3, .cons g1 q3, h3⟩
end

/-! ### the call -/
/-- the arguments' data now; lent slots -/
def avsOf (env : Ev) : List Ar → Option (List AV)
  | [] => some []
  | .fz d :: as => (avsOf env as).map (.val d :: ·)
  | .ln i :: as => match env[i]? with
    | some (.own _ ds) => (avsOf env as).map (.own ds :: ·)
    | _ => none
def lnsOf : List Ar → List Nat
  | [] => []
  | .fz _ :: as => lnsOf as
  | .ln i :: as => i :: lnsOf as
/-- the lent slots hold their new lists -/
def putOuts (env : Ev) : List Nat → List (List PyData) → Ev
  | i :: is, ds :: outs => putOuts (match env[i]? with
    | some (.own l _) => env.set i (.own l ds)
    | _ => env) is outs
  | _, _ => env
def rsOf : Rv → Rs
  | .val d => .val d
  | .own ds => .tmp ds
def wCall (n : Nat) (S : Spc) (wm : WM) : WE := fun env Ke Kx => wm env (fun env' as => (lnsOf as).Nodup ∧ ∃ avs, avsOf env' as = some avs ∧ avs.length = n ∧ S avs (fun outs r => Ke (putOuts env' (lnsOf as) outs) (rsOf r)) (fun outs x => Kx (putOuts env' (lnsOf as) outs) x)) Kx
/-- a def by its name in the module -/
def Cal (P : Program) (w : World) (K : PySem.W.Frag) (mg : Str → Option Value) (base : Heap) (k : Nat) (x : Str) (n : Nat) (S : Spc) : Prop :=
  ∃ f fd ps, ps.length = n ∧ mg x = some (.ref f) ∧ PySem.W.keepIn K (.ref f) = true ∧ Binds K fd ps [] ∧ FnOk P w K mg base (L2N.CX P w) k f fd ps (low K mg n S)

section
variable {K : PySem.W.Frag} {B : Bs} {F H F' H' : Hp} {env : Ev} {σ : St}
/-- one own slot's list is another -/
theorem putOuts_len (env : Ev) : ∀ (is : List Nat) (outs : List (List PyData)), (putOuts env is outs).length = env.length := by
  intro is
  induction is generalizing env with
  | nil => intro outs; cases outs <;> rfl
  | cons i is ih =>
    intro outs
    cases outs with
    | nil => rfl
    | cons ds outs =>
      show (putOuts _ is outs).length = _
      rw [ih]
      split <;> simp
/-- which lists stand where behind the call -/
theorem putOuts_own : ∀ (is : List Nat) (outs : List (List PyData)) (env : Ev) (j : Nat) (l : Bool) (ds : List PyData), (putOuts env is outs)[j]? = some (Sl.own l ds) →
    ∃ ds0, env[j]? = some (Sl.own l ds0) := by
  intro is
  induction is with
  | nil => intro outs env j l ds h; cases outs <;> exact ⟨ds, h⟩
  | cons i is ih =>
    intro outs env j l ds h
    cases outs with
    | nil => exact ⟨ds, h⟩
    | cons d outs =>
      have h' : (putOuts (match env[i]? with
        | some (.own l _) => env.set i (.own l d)
        | _ => env) is outs)[j]? = some (Sl.own l ds) := h
      obtain ⟨ds0, h1⟩ := ih outs _ j l ds h'
      split at h1
      · rename_i l' ds' e
        by_cases hj : i = j
        · subst hj
          rw [List.getElem?_set_self (List.getElem?_eq_some_iff.mp e).1] at h1
          cases h1
          exact ⟨ds', e⟩
        · rw [List.getElem?_set_ne hj] at h1
          exact ⟨ds0, h1⟩
      · exact ⟨ds0, h1⟩
theorem putOuts_dct : ∀ (is : List Nat) (outs : List (List PyData)) (env : Ev) (j : Nat) (kv : List (List Int × PyData)), (putOuts env is outs)[j]? = some (Sl.dct kv) → env[j]? = some (Sl.dct kv) := by
  intro is
  induction is with
  | nil => intro outs env j kv h; cases outs <;> exact h
  | cons i is ih =>
    intro outs env j kv h
    cases outs with
    | nil => exact h
    | cons d outs =>
      have h' : (putOuts (match env[i]? with
        | some (.own l _) => env.set i (.own l d)
        | _ => env) is outs)[j]? = some (Sl.dct kv) := h
      have h1 := ih outs _ j kv h'
      split at h1
      · rename_i l' ds' e
        by_cases hj : i = j
        · subst hj
          rw [List.getElem?_set_self (List.getElem?_eq_some_iff.mp e).1] at h1
          cases h1
        · rw [List.getElem?_set_ne hj] at h1
          exact h1
      · exact h1
theorem putOuts_val : ∀ (is : List Nat) (outs : List (List PyData)) (env : Ev) (j : Nat) (d : PyData), (putOuts env is outs)[j]? = some (Sl.val d) → env[j]? = some (Sl.val d) := by
  intro is
  induction is with
  | nil => intro outs env j d h; cases outs <;> exact h
  | cons i is ih =>
    intro outs env j d h
    cases outs with
    | nil => exact h
    | cons e outs =>
      have h' : (putOuts (match env[i]? with
        | some (.own l _) => env.set i (.own l e)
        | _ => env) is outs)[j]? = some (Sl.val d) := h
      have h1 := ih outs _ j d h'
      split at h1
      · by_cases hj : i = j
        · subst hj
          rename_i e0
          rw [List.getElem?_set_self (List.getElem?_eq_some_iff.mp e0).1] at h1
          cases h1
        · rw [List.getElem?_set_ne hj] at h1
          exact h1
      · exact h1
theorem putOuts_out : ∀ (is : List Nat) (outs : List (List PyData)) (env : Ev) (j : Nat), j ∉ is → (putOuts env is outs)[j]? = env[j]? := by
  intro is
  induction is with
  | nil => intro outs env j h; cases outs <;> rfl
  | cons i is ih =>
    intro outs env j h
    cases outs with
    | nil => rfl
    | cons e outs =>
      show (putOuts _ is outs)[j]? = _
      rw [ih outs _ j fun z => h (List.mem_cons_of_mem _ z)]
      have hj : i ≠ j := fun z => h (by rw [z]; exact List.mem_cons_self)
      split
      · rw [List.getElem?_set_ne hj]
      · rfl
/-- the lent ones: place, address, list -/
theorem putOuts_at : ∀ (as : List Ar) (vs : List V) (avs : List AV) (outs : List (List PyData)) (env : Ev), Paired (fun v a => ArR K F σ v a) vs as → avsOf env as = some avs → (lnsOf as).Nodup →
    OutsR K F' H' (lentAs vs avs) outs → (∀ (i : Nat) (l : Bool) (ds : List PyData), env[i]? = some (Sl.own l ds) → ∃ a : Addr, σ[i]? = some (some (V.ref a))) → ∀ (j : Nat) (l : Bool) (ds : List PyData), j ∈ lnsOf as → (putOuts env (lnsOf as) outs)[j]? = some (Sl.own l ds) →
      ∃ a ws, σ[j]? = some (some (.ref a)) ∧ a ∈ lentAs vs avs ∧ H' a = some (.lst ws) ∧ F' a = none ∧ RpAll K F' ws ds
  | [], _, _, _, _, _, _, _, _, _, _, _, _, hj, _ => by cases hj
  | .fz d :: as, _, avs, outs, env, .cons (a := v) (l₁ := vs) hp tp, e, nd, ho, hs, j, l, ds, hj, h => by
    simp only [avsOf, Option.map_eq_some_iff] at e
    obtain ⟨avs', e1, rfl⟩ := e
    have hl : lentAs (v :: vs) (.val d :: avs') = lentAs vs avs' := by cases v <;> rfl
    rw [hl] at ho ⊢
    exact putOuts_at as vs avs' outs env tp e1 nd ho hs j l ds hj h
  | .ln i :: as, _, avs, outs, env, .cons (a := v) (l₁ := vs) hp tp, e, nd, ho, hs, j, l, ds, hj, h => by
    simp only [avsOf] at e
    split at e
    · rename_i l0 ds0 e0
      simp only [Option.map_eq_some_iff] at e
      obtain ⟨avs', e1, rfl⟩ := e
      obtain ⟨a, ha⟩ := hs i l0 ds0 e0
      have hv : σ[i]? = some (some v) := hp
      rw [ha] at hv
      cases hv
      have ho' : OutsR K F' H' (a :: lentAs vs avs') outs := ho
      have nd' : i ∉ lnsOf as ∧ (lnsOf as).Nodup := List.nodup_cons.mp nd
      cases ho' with
      | cons ho1 ho2 =>
        rename_i o1 outs'
        have h' : (putOuts (match env[i]? with
          | some (.own l _) => env.set i (.own l o1)
          | _ => env) (lnsOf as) outs')[j]? = some (Sl.own l ds) := h
        rw [e0] at h'
        by_cases hji : j = i
        · subst hji
          rw [putOuts_out _ _ _ _ nd'.1, List.getElem?_set_self (List.getElem?_eq_some_iff.mp e0).1] at h'
          cases h'
          obtain ⟨ws, g1, g2, g3⟩ := ho1
          exact ⟨a, ws, ha, List.mem_cons_self, g1, g2, g3⟩
        · have hj' : j ∈ lnsOf as := by
            rcases List.mem_cons.mp hj with z | z
            · exact absurd z hji
            · exact z
          have ea : avsOf (env.set i (.own l0 o1)) as = some avs' := by
            have gen : ∀ (as : List Ar), i ∉ lnsOf as → avsOf (env.set i (.own l0 o1)) as = avsOf env as := by
              intro as
              induction as with
              | nil => intro _; rfl
              | cons b as ih =>
                intro hn
                cases b with
                | fz d => simp only [avsOf]; rw [ih hn]
                | ln k =>
                  have hk : i ≠ k := fun z => hn (by rw [z]; exact List.mem_cons_self)
                  simp only [avsOf]
                  rw [List.getElem?_set_ne hk, ih fun z => hn (List.mem_cons_of_mem _ z)]
            rw [gen as nd'.1]
            exact e1
          have hs' : ∀ (k : Nat) (l : Bool) (ds : List PyData), (env.set i (.own l0 o1))[k]? = some (Sl.own l ds) → ∃ a : Addr, σ[k]? = some (some (V.ref a)) := by
            intro k l1 ds1 hk
            by_cases hik : i = k
            · subst hik
              exact ⟨a, ha⟩
            · rw [List.getElem?_set_ne hik] at hk
              exact hs k l1 ds1 hk
          obtain ⟨a', ws, g1, g2, g3⟩ := putOuts_at as vs avs' outs' _ tp ea nd'.2 ho2 hs' j l ds hj' h'
          exact ⟨a', ws, g1, List.mem_cons_of_mem _ g2, g3⟩
    · cases e
/-- the arguments as the callee takes them -/
theorem argsR_of (R : Rl K B F H env σ) : ∀ (as : List Ar) (vs : List V) (avs : List AV), Paired (fun v a => ArR K F σ v a) vs as → avsOf env as = some avs → ArgsR K F H vs avs ∧ (∀ a ∈ lentAs vs avs, ∃ i ∈ lnsOf as, σ[i]? = some (some (.ref a)) ∧ ownL env σ a)
  | [], _, avs, .nil, e => by
    simp only [avsOf] at e
    cases e
    exact ⟨.nil, fun a h => by cases h⟩
  | .fz d :: as, _, avs, .cons (a := v) (l₁ := vs) hp tp, e => by
    simp only [avsOf, Option.map_eq_some_iff] at e
    obtain ⟨avs', e1, rfl⟩ := e
    obtain ⟨h1, h2⟩ := argsR_of R as vs avs' tp e1
    have hl : lentAs (v :: vs) (.val d :: avs') = lentAs vs avs' := by cases v <;> rfl
    rw [hl]
    exact ⟨.val hp h1, h2⟩
  | .ln i :: as, _, avs, .cons (a := v) (l₁ := vs) hp tp, e => by
    simp only [avsOf] at e
    split at e
    · rename_i l0 ds0 e0
      simp only [Option.map_eq_some_iff] at e
      obtain ⟨avs', e1, rfl⟩ := e
      obtain ⟨h1, h2⟩ := argsR_of R as vs avs' tp e1
      have s := R.sl i
      rw [e0] at s
      obtain ⟨a, ws, g1, g2, g3, g4⟩ := s
      have hv : σ[i]? = some (some v) := hp
      rw [g1] at hv
      cases hv
      refine ⟨.own g2 g3 g4 h1, fun b hb => ?_⟩
      rcases List.mem_cons.mp hb with z | z
      · subst z
        exact ⟨i, List.mem_cons_self, g1, i, l0, ds0, e0, g1⟩
      · obtain ⟨k, h3, h4⟩ := h2 b z
        exact ⟨k, List.mem_cons_of_mem _ h3, h4⟩
    · cases e
theorem lent_nodup (R : Rl K B F H env σ) : ∀ (as : List Ar) (vs : List V) (avs : List AV), Paired (fun v a => ArR K F σ v a) vs as → avsOf env as = some avs → (lnsOf as).Nodup → (lentAs vs avs).Nodup
  | [], _, avs, .nil, e, _ => by
    simp only [avsOf] at e
    cases e
    exact List.Pairwise.nil
  | .fz d :: as, _, avs, .cons (a := v) (l₁ := vs) hp tp, e, nd => by
    simp only [avsOf, Option.map_eq_some_iff] at e
    obtain ⟨avs', e1, rfl⟩ := e
    have hl : lentAs (v :: vs) (.val d :: avs') = lentAs vs avs' := by cases v <;> rfl
    rw [hl]
    exact lent_nodup R as vs avs' tp e1 nd
  | .ln i :: as, _, avs, .cons (a := v) (l₁ := vs) hp tp, e, nd => by
    simp only [avsOf] at e
    split at e
    · rename_i l0 ds0 e0
      simp only [Option.map_eq_some_iff] at e
      obtain ⟨avs', e1, rfl⟩ := e
      have s := R.sl i
      rw [e0] at s
      obtain ⟨a, ws, g1, g2, g3, g4⟩ := s
      have hv : σ[i]? = some (some v) := hp
      rw [g1] at hv
      cases hv
      have nd' : i ∉ lnsOf as ∧ (lnsOf as).Nodup := List.nodup_cons.mp nd
      refine List.nodup_cons.mpr ⟨fun hm => ?_, lent_nodup R as vs avs' tp e1 nd'.2⟩
      obtain ⟨k, h1, h2, k', l', ds', h3, h4⟩ := (argsR_of R as vs avs' tp e1).2 a hm
      -- k is a lent slot of the rest with the same address
      have own_k : ∃ l ds, env[k]? = some (Sl.own l ds) := by
        clear nd nd' h2
        have gen : ∀ (as : List Ar) (avs : List AV), avsOf env as = some avs → k ∈ lnsOf as → ∃ l ds, env[k]? = some (Sl.own l ds) := by
          intro as
          induction as with
          | nil => intro _ _ h; cases h
          | cons b as ih =>
            intro avs e h
            cases b with
            | fz d =>
              simp only [avsOf, Option.map_eq_some_iff] at e
              obtain ⟨avs', e1, _⟩ := e
              exact ih avs' e1 h
            | ln m =>
              simp only [avsOf] at e
              split at e
              · rename_i l1 d1 e5
                simp only [Option.map_eq_some_iff] at e
                obtain ⟨avs', e1, _⟩ := e
                rcases List.mem_cons.mp h with z | z
                · subst z
                  exact ⟨l1, d1, e5⟩
                · exact ih avs' e1 z
              · cases e
        exact gen as avs' e1 h1
      obtain ⟨l2, ds2, e2⟩ := own_k
      have hik := R.dist i k l0 l2 ds0 ds2 a e0 e2 g1 h2
      subst hik
      exact nd'.1 h1
    · cases e
/-- behind the call -/
theorem rl_after (R : Rl K B F H env σ) {as : List Ar} {vs : List V} {avs : List AV} {outs : List (List PyData)} (hp : Paired (fun v a => ArR K F σ v a) vs as) (e : avsOf env as = some avs) (nd : (lnsOf as).Nodup) (a : Aft K F H (lentAs vs avs) F' H' outs) :
    Rl K B F' H' (putOuts env (lnsOf as) outs) σ ∧ Fm env σ F H (putOuts env (lnsOf as) outs) F' H' := by
  obtain ⟨h1, h2⟩ := argsR_of R as vs avs hp e
  have hs : ∀ (i : Nat) (l : Bool) (ds : List PyData), env[i]? = some (Sl.own l ds) → ∃ a : Addr, σ[i]? = some (some (V.ref a)) := fun i l ds h => by
    have s := R.sl i
    rw [h] at s
    obtain ⟨a, ws, g1, _⟩ := s
    exact ⟨a, g1⟩
  have lentOwn : ∀ b, b ∈ lentAs vs avs → ownL env σ b := fun b hb => by
    obtain ⟨i, _, _, h⟩ := h2 b hb
    exact h
  have lentH0 : ∀ b, b ∈ lentAs vs avs → B.H0 b = none ∨ ∃ p ∈ B.lent, p.2 = b := fun b hb => by
    obtain ⟨i, l, ds, g1, g2⟩ := lentOwn b hb
    cases l with
    | false => exact .inl (R.own0 i ds b g1 g2)
    | true => exact .inr (R.own1 i ds b g1 g2)
  -- an own slot that is not lent keeps its list
  refine ⟨⟨by rw [putOuts_len]; exact R.len, a.sub, fun j => ?_, fun i j l m ds es b h3 h4 h5 h6 => ?_, R.sub0.trans a.subF, fun b x h => ?_, fun b x h n => ?_, fun b h => a.dom b (R.dom b h), fun i ds b h3 h4 => ?_, fun i ds b h3 h4 => ?_, R.lsl, fun i j kv kw b h3 h4 h5 h6 => R.dd i j kv kw b (putOuts_dct _ _ _ _ _ h3) (putOuts_dct _ _ _ _ _ h4) h5 h6, fun i kv b h3 h4 => R.d0 i kv b (putOuts_dct _ _ _ _ _ h3) h4⟩,
    ⟨fun b x h n => a.keep b x h fun z => n (.inl (lentOwn b z)), a.subF, fun b x h => ?_, fun i l ds h => putOuts_own _ _ _ i l ds h, a.dom, fun i kv h => ⟨kv, putOuts_dct _ _ _ _ _ h⟩⟩⟩
  · cases q : (putOuts env (lnsOf as) outs)[j]? with
    | none => trivial
    | some z =>
      cases z with
      | un => trivial
      | val d =>
        have q' := putOuts_val _ _ _ j d q
        have s := R.sl j
        rw [q'] at s
        obtain ⟨v, g1, g2⟩ := s
        exact ⟨v, g1, Rp.mono a.subF _ _ g2⟩
      | own l ds =>
        by_cases hj : j ∈ lnsOf as
        · obtain ⟨b, ws, g1, _, g3, g4, g5⟩ := putOuts_at as vs avs outs env hp e nd a.outs hs j l ds hj q
          exact ⟨b, ws, g1, g3, g4, g5⟩
        · rw [putOuts_out _ _ _ _ hj] at q
          have s := R.sl j
          rw [q] at s
          obtain ⟨b, ws, g1, g2, g3, g4⟩ := s
          have nb : b ∉ lentAs vs avs := fun z => by
            obtain ⟨k, hk, gk, k', l', ds', ek, gk'⟩ := h2 b z
            have e1 := R.dist j k' l l' ds ds' b q ek g1 gk'
            -- k itself is own
            have ok : ∃ l ds, env[k]? = some (Sl.own l ds) := by
              have gen : ∀ (as : List Ar) (avs : List AV), avsOf env as = some avs → k ∈ lnsOf as → ∃ l ds, env[k]? = some (Sl.own l ds) := by
                intro as
                induction as with
                | nil => intro _ _ h; cases h
                | cons b as ih =>
                  intro avs e h
                  cases b with
                  | fz d =>
                    simp only [avsOf, Option.map_eq_some_iff] at e
                    obtain ⟨avs', e1, _⟩ := e
                    exact ih avs' e1 h
                  | ln m =>
                    simp only [avsOf] at e
                    split at e
                    · rename_i l1 d1 e5
                      simp only [Option.map_eq_some_iff] at e
                      obtain ⟨avs', e1, _⟩ := e
                      rcases List.mem_cons.mp h with z | z
                      · subst z
                        exact ⟨l1, d1, e5⟩
                      · exact ih avs' e1 z
                    · cases e
              exact gen as avs e hk
            obtain ⟨l2, ds2, e2⟩ := ok
            have e3 := R.dist j k l l2 ds ds2 b q e2 g1 gk
            exact hj (e3 ▸ hk)
          refine ⟨b, ws, g1, a.keep b _ g2 nb, ?_, RpAll.mono a.subF _ _ g4⟩
          cases z : F' b with
          | none => rfl
          | some x =>
            rcases a.new b x z with y | y | ⟨ys, rfl⟩
            · rw [g3] at y; cases y
            · rw [g2] at y; cases y
            · have y := a.sub b _ z
              rw [a.keep b _ g2 nb] at y; cases y
      | dct kv =>
        have q' := putOuts_dct _ _ _ j kv q
        have s := R.sl j
        rw [q'] at s
        obtain ⟨b, g1, g2, g3⟩ := s
        have nb : b ∉ lentAs vs avs := fun z => by
          obtain ⟨k', l', ds', ek, gk'⟩ := lentOwn b z
          have s2 := R.sl k'
          rw [ek] at s2
          obtain ⟨c, ws, w1, w2, _⟩ := s2
          rw [gk'] at w1
          cases w1
          rw [g2] at w2
          cases w2
        refine ⟨b, g1, a.keep b _ g2 nb, ?_⟩
        cases z : F' b with
        | none => rfl
        | some x =>
          rcases a.new b x z with y | y | ⟨ys, rfl⟩
          · rw [g3] at y; cases y
          · rw [g2] at y; cases y
          · have y := a.sub b _ z
            rw [a.keep b _ g2 nb] at y; cases y
  · obtain ⟨d1, h7⟩ := putOuts_own _ _ _ i l ds h3
    obtain ⟨d2, h8⟩ := putOuts_own _ _ _ j m es h4
    exact R.dist i j l m d1 d2 b h7 h8 h5 h6
  · rcases a.new b x h with z | z
    · exact R.new b x z
    · exact .inr (z.elim (fun z => .inl (R.free0 z)) .inr)
  · refine a.keep b x (R.frm b x h n) fun z => ?_
    rcases lentH0 b z with g | ⟨p, g1, g2⟩
    · rw [h] at g; cases g
    · exact n p g1 g2
  · obtain ⟨d1, h7⟩ := putOuts_own _ _ _ i false ds h3
    exact R.own0 i d1 b h7 h4
  · obtain ⟨d1, h7⟩ := putOuts_own _ _ _ i true ds h3
    exact R.own1 i d1 b h7 h4
  · rcases a.new b x h with z | z
    · exact .inl z
    · cases q : H b with
      | none => exact .inr (.inl (.inl q))
      | some y =>
        by_cases hb : b ∈ lentAs vs avs
        · obtain ⟨k', l', ds', ek, gk'⟩ := lentOwn b hb
          exact .inr (.inr (.inl ⟨k', l', ds', ek, gk'⟩))
        · rcases z with z | z
          · rw [q] at z; cases z
          · have y1 := a.sub b _ h
            rw [a.keep b _ q hb] at y1
            exact .inr (.inl (.inr ⟨q.trans y1, z⟩))
end

section
variable {B : Bs} {W : WX} {X : Cx} {k n : Nat} {x : Str} {S : Spc} {e : Expr} {es : List Expr} {wm : WM} {p pos : Pos}
/-- f(e, ..) -/
theorem de_call (C : Cal X.prog X.w X.K X.mg X.base k x n S) (hr : Room k X.A) (hB : B.mg = X.mg) (tk : L2N.Takes X W) (ha : DM B W X (e :: es) wm) (hg : Gl X x := by rfl) (hdb : (x == ("__debug__" : Str)) = false := by decide)
    (he : starEach (e :: es) X.env = (false, eval e X.env) :: starEach es X.env := by rfl) (hpl : (backTo pos (starEach es X.env)).any (·.1) = false := by rfl) : DE B W X (.Call (.Name x p) (e :: es) [] pos) (wCall n S wm) := by
  obtain ⟨f, fd, ps, hpn, hm, hk, hb, Fk⟩ := C
  refine ⟨fun pins s σ F H env Ke Kx I R h hx => ?_⟩
  refine wpAny_Call_Name_kw (ld_glob I hg hm ?_ hdb)
  refine PySem.W.callWith_K (h₀ := X.base) I.ok.mod.kin hk (thn (ha.run pos pins s σ F H env _ Kx I R h hx) fun us s1 ⟨vs, env1, as, F1, H1, I1, rv, R1, f1, q1, nd, avs, e1, hlen, hS⟩ => ⟨I1.kIn, ?_⟩) he hpl
  obtain ⟨g1, g2⟩ := argsR_of R1 as vs avs q1 e1
  refine thn (run_fnSD (E := fun σ cls d H' => W cls d σ H') (dvs := []) Fk hr hb .nil (fun pins H s e s' I hc => tk e s' (L2N.XE.of_call (W := W) I (fun cls d H' q => q) hc)) I1 rv (Q := fun v H' => ∃ outs r F', Rl X.K B F' H' (putOuts env1 (lnsOf as) outs) σ ∧ Fm env1 σ F1 H1 (putOuts env1 (lnsOf as) outs) F' H' ∧ RvR X.K H1 F' H' v r ∧ Ke (putOuts env1 (lnsOf as) outs) (rsOf r)) ?_) fun u s2 ⟨v, H', I', rv', outs, r, F', k1, k2, k3, k4⟩ => ?_
  · rw [List.append_nil]
    refine ⟨F1, avs, _, _, R1.sub, g1, lent_nodup R1 as vs avs q1 e1 nd, hlen, hS, fun outs r F' H' v a hv hk => ?_, fun outs y cls d F' H' a hy hk => ?_⟩
    · obtain ⟨r1, r2⟩ := rl_after R1 q1 e1 nd a
      exact ⟨outs, r, F', r1, r2, hv, hk⟩
    · obtain ⟨r1, r2⟩ := rl_after R1 q1 e1 nd a
      refine hx σ _ y cls d F' H' hk r1 ?_
      obtain ⟨z1, z2⟩ := hy
      refine ⟨by rw [hB]; exact z1, z2⟩
  · refine DP.up f1 ⟨v, _, rsOf r, F', H', I', rv', k1, k2, ?_, ?_, k4⟩
    · cases r with
      | val d => exact k3
      | own ds =>
        obtain ⟨p, ws, e3, e4, e5, e6, e7⟩ := k3
        refine ⟨p, ws, e3, e4, e5, R1.free0 e6, fun z => ?_, e7⟩
        have z : ownAt env1 σ p := by
          rcases z with ⟨i, l, ds', z1, z2⟩ | ⟨i, kv, z1, z2⟩
          · obtain ⟨d1, z3⟩ := putOuts_own _ _ _ i l ds' z1
            exact .inl ⟨i, l, d1, z3, z2⟩
          · exact .inr ⟨i, kv, putOuts_dct _ _ _ _ _ z1, z2⟩
        obtain ⟨ws', z4, _⟩ := R1.ownH z
        rw [e6] at z4
        cases z4
    · cases r with
      | val d => trivial
      | own ds =>
        obtain ⟨p, ws, e3, e4, e5, e6, e7⟩ := k3
        intro q hq
        rw [e3] at hq
        cases hq
        exact e6
end
end Dl
end L2

/-! The D layer, 7: statements. -/
namespace L2
namespace Dl
open PySem PySem.Spec PyProof.Rows

structure Ken where
  nx : Ev → Prop
  rt : Ev → Rs → Prop
  bk : Ev → Prop
  ct : Ev → Prop
  ex : KXc
abbrev WS := Ev → Ken → Prop
def SPD (X : Cx) (B : Bs) (pins : List (Addr × Obj)) (F0 : Hp) (k : Ken) (f : Flow) (s' : Shared) : Prop :=
  match f with
  | .next => ∃ σ env F H, Inv X pins σ H s' ∧ Rl X.K B F H env σ ∧ Same F0 F ∧ k.nx env
  | .brk => ∃ σ env F H, Inv X pins σ H s' ∧ Rl X.K B F H env σ ∧ Same F0 F ∧ k.bk env
  | .cont => ∃ σ env F H, Inv X pins σ H s' ∧ Rl X.K B F H env σ ∧ Same F0 F ∧ k.ct env
  | .ret u => ∃ v σ H, Inv X pins σ H s' ∧ RelV v u ∧ ∃ σ2 env r F, Rl X.K B F H env σ2 ∧ Res X.K B F H env σ2 v r ∧ k.rt env r
structure DS (B : Bs) (W : WX) (X : Cx) (st : Stmt) (w : WS) : Prop where
  run : ∀ (pins : List (Addr × Obj)) (s : Shared) (σ : St) (F H : Hp) (env : Ev) (k : Ken), Inv X pins σ H s → Rl X.K B F H env σ → w env k → XC X.K B W k.ex → wpAny (model X.prog X.w) X.A (exec st X.env) (SPD X B pins F k) X.xe s
structure DSs (B : Bs) (W : WX) (X : Cx) (st : List Stmt) (w : WS) : Prop where
  run : ∀ (pins : List (Addr × Obj)) (s : Shared) (σ : St) (F H : Hp) (env : Ev) (k : Ken), Inv X pins σ H s → Rl X.K B F H env σ → w env k → XC X.K B W k.ex → wpAny (model X.prog X.w) X.A (execs st X.env) (SPD X B pins F k) X.xe s

theorem SPD.up {X : Cx} {B : Bs} {pins : List (Addr × Obj)} {F0 F1 : Hp} {k : Ken} {f : Flow} {s' : Shared} (s : Same F0 F1) (h : SPD X B pins F1 k f s') : SPD X B pins F0 k f s' := by
  cases f with
  | next => obtain ⟨σ, env, F, H, h1, h2, h3, h4⟩ := h; exact ⟨σ, env, F, H, h1, h2, s.trans h3, h4⟩
  | brk => obtain ⟨σ, env, F, H, h1, h2, h3, h4⟩ := h; exact ⟨σ, env, F, H, h1, h2, s.trans h3, h4⟩
  | cont => obtain ⟨σ, env, F, H, h1, h2, h3, h4⟩ := h; exact ⟨σ, env, F, H, h1, h2, s.trans h3, h4⟩
  | ret u => exact h
def wNext : WS := fun env k => k.nx env
def wSeq (t u : WS) : WS := fun env k => t env { k with nx := fun e => u e k }
def wBreak : WS := fun env k => k.bk env
def wCont : WS := fun env k => k.ct env
def wDrop (w : WE) : WS := fun env k => w env (fun e _ => k.nx e) k.ex
def wRet (w : WE) : WS := fun env k => w env k.rt k.ex
def wRetN : WS := fun env k => k.rt env (.val .none)
def wIfS (c : WT) (t u : WS) : WS := fun env k => c env (fun e b => if b = true then t e k else u e k) k.ex
/-- a result comes to a name -/
def asg (i : Nat) (env : Ev) (r : Rs) (K : Ev → Prop) : Prop := match r with
  | .val d => K (env.set i (.val d))
  | .tmp ds => K (env.set i (.own false ds))
  | .slot j => ∃ p, fz env (.slot j) = some p ∧ K (p.1.set i (.val p.2))
def wSet (i : Nat) (w : WE) : WS := fun env k => w env (fun e r => asg i e r k.nx) k.ex

section
variable {K : PySem.W.Frag} {B : Bs} {F H : Hp} {env : Ev} {σ : St}
/-- a slot takes another value -/
theorem Rl.put (R : Rl K B F H env σ) {i : Nat} {v : V} {s : Sl} (hi : i < σ.length) (nl : ∀ p ∈ B.all, p.1 ≠ i) (hs : slR K F H (some s) (some (some v)))
    (ho : ∀ l ds, s = .own l ds → l = false ∧ ∀ a, v = .ref a → ¬ ownAt env σ a ∧ B.H0 a = none) (hd : ∀ kv, s = .dct kv → ∀ a, v = .ref a → ¬ ownAt env σ a ∧ B.H0 a = none := by intro kv e; cases e) : Rl K B F H (env.set i s) (σ.set i (some v)) := by
  have ie : i < env.length := by rw [R.len]; exact hi
  have old : ∀ {j : Nat} {l : Bool} {ds : List PyData} {a : Addr}, i ≠ j → (env.set i s)[j]? = some (Sl.own l ds) → (σ.set i (some v))[j]? = some (some (V.ref a)) → env[j]? = some (Sl.own l ds) ∧ σ[j]? = some (some (V.ref a)) := fun hj h1 h2 => by
    rw [List.getElem?_set_ne hj] at h1 h2
    exact ⟨h1, h2⟩
  have new : ∀ {l : Bool} {ds : List PyData} {a : Addr}, (env.set i s)[i]? = some (Sl.own l ds) → (σ.set i (some v))[i]? = some (some (V.ref a)) → l = false ∧ ¬ ownAt env σ a ∧ B.H0 a = none := fun {l ds a} h1 h2 => by
    rw [List.getElem?_set_self ie] at h1
    rw [List.getElem?_set_self hi] at h2
    cases h1
    cases h2
    obtain ⟨g1, g2⟩ := ho _ _ rfl
    exact ⟨g1, g2 _ rfl⟩
  have oldd : ∀ {j : Nat} {kv : List (List Int × PyData)} {a : Addr}, i ≠ j → (env.set i s)[j]? = some (Sl.dct kv) → (σ.set i (some v))[j]? = some (some (V.ref a)) → env[j]? = some (Sl.dct kv) ∧ σ[j]? = some (some (V.ref a)) := fun hj h1 h2 => by
    rw [List.getElem?_set_ne hj] at h1 h2
    exact ⟨h1, h2⟩
  have newd : ∀ {kv : List (List Int × PyData)} {a : Addr}, (env.set i s)[i]? = some (Sl.dct kv) → (σ.set i (some v))[i]? = some (some (V.ref a)) → ¬ ownAt env σ a ∧ B.H0 a = none := fun {kv a} h1 h2 => by
    rw [List.getElem?_set_self ie] at h1
    rw [List.getElem?_set_self hi] at h2
    cases h1
    cases h2
    exact hd _ rfl _ rfl
  refine ⟨by rw [List.length_set, List.length_set]; exact R.len, R.sub, fun j => ?_, fun j k l m ds es a h1 h2 h3 h4 => ?_, R.sub0, R.new, R.frm, R.dom, fun j ds a h1 h2 => ?_, fun j ds a h1 h2 => ?_, fun p hp => ?_, fun j k kv kw a h1 h2 h3 h4 => ?_, fun j kv a h1 h2 => ?_⟩
  · by_cases hj : i = j
    · subst hj
      rw [List.getElem?_set_self ie, List.getElem?_set_self hi]
      exact hs
    · rw [List.getElem?_set_ne hj, List.getElem?_set_ne hj]
      exact R.sl j
  · by_cases hj : i = j
    · by_cases hk : i = k
      · exact hj.symm.trans hk
      · subst hj
        obtain ⟨_, n, _⟩ := new h1 h3
        obtain ⟨g1, g2⟩ := old hk h2 h4
        exact absurd (.inl ⟨k, m, es, g1, g2⟩) n
    · by_cases hk : i = k
      · subst hk
        obtain ⟨_, n, _⟩ := new h2 h4
        obtain ⟨g1, g2⟩ := old hj h1 h3
        exact absurd (.inl ⟨j, l, ds, g1, g2⟩) n
      · obtain ⟨g1, g2⟩ := old hj h1 h3
        obtain ⟨g3, g4⟩ := old hk h2 h4
        exact R.dist j k l m ds es a g1 g3 g2 g4
  · by_cases hj : i = j
    · subst hj
      exact (new h1 h2).2.2
    · obtain ⟨g1, g2⟩ := old hj h1 h2
      exact R.own0 j ds a g1 g2
  · by_cases hj : i = j
    · subst hj
      cases (new h1 h2).1
    · obtain ⟨g1, g2⟩ := old hj h1 h2
      exact R.own1 j ds a g1 g2
  · rw [List.getElem?_set_ne (Ne.symm (nl p hp))]
    exact R.lsl p hp
  · by_cases hj : i = j
    · by_cases hk : i = k
      · exact hj.symm.trans hk
      · subst hj
        obtain ⟨n, _⟩ := newd h1 h3
        obtain ⟨g1, g2⟩ := oldd hk h2 h4
        exact absurd (.inr ⟨k, kw, g1, g2⟩) n
    · by_cases hk : i = k
      · subst hk
        obtain ⟨n, _⟩ := newd h2 h4
        obtain ⟨g1, g2⟩ := oldd hj h1 h3
        exact absurd (.inr ⟨j, kv, g1, g2⟩) n
      · obtain ⟨g1, g2⟩ := oldd hj h1 h3
        obtain ⟨g3, g4⟩ := oldd hk h2 h4
        exact R.dd j k kv kw a g1 g3 g2 g4
  · by_cases hj : i = j
    · subst hj
      exact (newd h1 h2).2
    · obtain ⟨g1, g2⟩ := oldd hj h1 h2
      exact R.d0 j kv a g1 g2
theorem Rl.putVal (R : Rl K B F H env σ) {i : Nat} {v : V} {d : PyData} (hi : i < σ.length) (nl : ∀ p ∈ B.all, p.1 ≠ i) (r : Rp K F v d) : Rl K B F H (env.set i (.val d)) (σ.set i (some v)) :=
  R.put hi nl ⟨v, rfl, r⟩ fun l ds e => by cases e
theorem asg_ok {i : Nat} {v : V} {r : Rs} {Kn : Ev → Prop} (R : Rl K B F H env σ) (hi : i < σ.length) (nl : ∀ p ∈ B.all, p.1 ≠ i) (q : Res K B F H env σ v r) (h : asg i env r Kn) : ∃ env' F', Rl K B F' H env' (σ.set i (some v)) ∧ Same F F' ∧ Kn env' := by
  cases r with
  | val d => exact ⟨_, F, R.putVal hi nl q, Same.refl _, h⟩
  | tmp ds =>
    obtain ⟨p, vs, rfl, h2, h3, h4, h5, h6⟩ := q
    refine ⟨env.set i (.own false ds), F, R.put hi nl ⟨p, vs, rfl, h2, h3, h6⟩ fun l es e => ?_, Same.refl _, h⟩
    cases e
    exact ⟨rfl, fun a e => by cases e; exact ⟨h5, h4⟩⟩
  | slot j =>
    obtain ⟨p, e, h⟩ := h
    obtain ⟨F2, R2, f2, rp⟩ := freeze (env2 := p.1) (d := p.2) (H := H) R Fm.refl q trivial e
    exact ⟨_, F2, R2.putVal hi nl rp, f2.sub, h⟩
end

section
variable {B : Bs} {W : WX} {X : Cx} {st : Stmt} {rest : List Stmt} {t u : WS} {e : Expr} {w : WE} {pos : Pos}
theorem dss_nil : DSs B W X [] wNext := ⟨fun _ _ σ F H env _ I R h _ => wpAny_execs_nil ⟨σ, env, F, H, I, R, Same.refl _, h⟩⟩
theorem dss_cons (h1 : DS B W X st t) (h2 : DSs B W X rest u) : DSs B W X (st :: rest) (wSeq t u) := by
  refine ⟨fun pins s σ F H env k I R h hx => ?_⟩
  refine wpAny_execs_cons (thn (h1.run pins s σ F H env { k with nx := fun e => u e k } I R h hx) fun f s1 q => ?_)
  cases f with
  | next =>
    obtain ⟨σ', env', F', H', I', R', sm, q⟩ := q
    exact thn (h2.run pins s1 σ' F' H' env' k I' R' q hx) fun f s2 h => h.up sm
  | ret v => exact q
  | brk => exact q
  | cont => exact q
theorem dss_one (h1 : DS B W X st t) : DSs B W X [st] t := by
  refine ⟨fun pins s σ F H env k I R h hx => ?_⟩
  refine wpAny_execs_cons (thn (h1.run pins s σ F H env k I R h hx) fun f s1 q => ?_)
  cases f with
  | next => exact wpAny_execs_nil q
  | ret v => exact q
  | brk => exact q
  | cont => exact q
theorem ds_expr (he : DE B W X e w) (hs : swapsWith e none pos.line X.env = pure false := by rfl) : DS B W X (.Expr e pos) (wDrop w) := by
  refine ⟨fun pins s σ F H env k I R h hx => ?_⟩
  exact wpAny_Expr_any (thn (he.run pins s σ F H env _ k.ex I R h hx) fun v s1 ⟨x, env1, r, F1, H1, I1, r1, R1, f1, q1, n1, k1⟩ => ⟨σ, env1, F1, H1, I1, R1, f1.sub, k1⟩) I.quiet hs
theorem ds_ret (he : DE B W X e w) : DS B W X (.Return (some e) pos) (wRet w) := by
  refine ⟨fun pins s σ F H env k I R h hx => ?_⟩
  exact wpAny_Return_some (thn (he.run pins s σ F H env _ k.ex I R h hx) fun v s1 ⟨x, env1, r, F1, H1, I1, r1, R1, f1, q1, n1, k1⟩ => ⟨x, σ, H1, I1, r1, σ, env1, r, F1, R1, q1, k1⟩)
theorem ds_if {c : Expr} {a b : List Stmt} {tc : WT} (hc : DT B W X c tc) (ha : DSs B W X a t) (hb : DSs B W X b u) : DS B W X (.If c a b pos) (wIfS tc t u) := by
  refine ⟨fun pins s σ F H env k I R h hx => ?_⟩
  refine wpAny_If (thn (hc.run pins s σ F H env _ k.ex I R h hx) fun d s1 ⟨env1, F1, H1, I1, R1, f1, q1⟩ => ?_)
  cases d with
  | true => exact thn (ha.run pins s1 σ F1 H1 env1 k I1 R1 (by simpa using q1) hx) fun f s2 h => h.up f1.sub
  | false => exact thn (hb.run pins s1 σ F1 H1 env1 k I1 R1 (by simpa using q1) hx) fun f s2 h => h.up f1.sub
theorem ds_set (i : Nat) {x : Str} {pos' : Pos} (he : DE B W X e w) (nl : ∀ p ∈ B.all, p.1 ≠ i) (hN : X.N.Nodup) (hi : X.N[i]? = some x := by rfl) (hx : Loc X.env.scope x := by first | exact Or.inl rfl | exact Or.inr rfl) (hs : swapsWith e (some (.Name x pos')) pos.line X.env = pure false := by rfl)
    (hf : X.fn x = true ∨ X.env.scope.names.lookup x = some .local := by first | exact .inl rfl | exact .inr rfl) : DS B W X (.Assign [.Name x pos'] e pos) (wSet i w) := by
  refine ⟨fun pins s σ F H env k I R h hxx => ?_⟩
  refine wpAny_Assign_Name (thn (he.run pins s σ F H env _ k.ex I R h hxx) fun v s1 ⟨y, env1, r, F1, H1, I1, r1, R1, f1, q1, n1, k1⟩ => ?_) hs
  have il : i < σ.length := by rw [I.len]; exact (List.getElem?_eq_some_iff.mp hi).1
  obtain ⟨env2, F2, R2, sm, k2⟩ := asg_ok R1 il nl q1 k1
  exact store_ok I1 hN hi hx r1 (fun s2 I2 => ⟨_, env2, F2, H1, I2, R2, f1.sub.trans sm, k2⟩) hf

/-! ### targets -/
abbrev WG := PyData → Ev → (Ev → Prop) → Prop
abbrev WGs := List PyData → Ev → (Ev → Prop) → Prop
/-- only the slots at is differ -/
def Agree (is : List Nat) (σ σ' : St) : Prop := σ'.length = σ.length ∧ ∀ j, j ∉ is → σ'[j]? = σ[j]?
def OwnSub (env env' : Ev) : Prop := (∀ (i : Nat) (l : Bool) (ds : List PyData), env'[i]? = some (Sl.own l ds) → env[i]? = some (Sl.own l ds)) ∧ ∀ (i : Nat) (kv : List (List Int × PyData)), env'[i]? = some (Sl.dct kv) → env[i]? = some (Sl.dct kv)
structure DG (B : Bs) (X : Cx) (tg : Expr) (is : List Nat) (g : WG) : Prop where
  run : ∀ (pins : List (Addr × Obj)) (s : Shared) (σ : St) (F H : Hp) (env : Ev) (v : V) (u : Value) (d : PyData) (Kn : Ev → Prop), Inv X pins σ H s → RelV v u → Rl X.K B F H env σ → Rp X.K F v d → g d env Kn →
    wpAny (model X.prog X.w) X.A (assign tg X.env u) (fun _ s' => ∃ σ' env', Inv X pins σ' H s' ∧ Rl X.K B F H env' σ' ∧ Agree is σ σ' ∧ OwnSub env env' ∧ Kn env') X.xe s
structure DGs (B : Bs) (X : Cx) (ts : List Expr) (is : List Nat) (g : WGs) : Prop where
  run : ∀ (pins : List (Addr × Obj)) (s : Shared) (σ : St) (F H : Hp) (env : Ev) (vs : List V) (us : List Value) (ds : List PyData) (Kn : Ev → Prop), Inv X pins σ H s → Vals vs us → Rl X.K B F H env σ → RpAll X.K F vs ds → g ds env Kn →
    wpAny (model X.prog X.w) X.A (assignInOrder ((assignEach ts X.env).map (·.2)) us) (fun _ s' => ∃ σ' env', Inv X pins σ' H s' ∧ Rl X.K B F H env' σ' ∧ Agree is σ σ' ∧ OwnSub env env' ∧ Kn env') X.xe s
def gN (i : Nat) : WG := fun d env Kn => Kn (env.set i (.val d))
def gNil' : WGs := fun ds env Kn => ds = [] ∧ Kn env
def gCons' (g : WG) (gs : WGs) : WGs := fun ds env Kn => match ds with
  | d :: r => g d env fun env' => gs r env' Kn
  | [] => False
def gT (n : Nat) (gs : WGs) : WG := fun d env Kn => match d with
  | .tuple ds => ds.length = n ∧ gs ds env Kn
  | _ => False
theorem dg_name (i : Nat) {x : Str} (nl : ∀ p ∈ B.all, p.1 ≠ i) (hN : X.N.Nodup) (hi : X.N[i]? = some x := by rfl) (hx : Loc X.env.scope x := by first | exact Or.inl rfl | exact Or.inr rfl)
    (hf : X.fn x = true ∨ X.env.scope.names.lookup x = some .local := by first | exact .inl rfl | exact .inr rfl) : DG B X (.Name x pos) [i] (gN i) := by
  refine ⟨fun pins s σ F H env v u d Kn I r R rp h => ?_⟩
  have il : i < σ.length := by rw [I.len]; exact (List.getElem?_eq_some_iff.mp hi).1
  exact wpAny_assign_Name (store_ok I hN hi hx r (fun s' I' => ⟨_, _, I', R.putVal il nl rp, ⟨by rw [List.length_set], fun j hj => by rw [List.getElem?_set_ne (fun z => hj (by rw [z]; exact List.mem_cons_self))]⟩, ⟨fun j l es hq => own_set_val hq, fun j kv hq => dct_set_val hq⟩, h⟩) hf)
theorem dgs_nil : DGs B X [] [] gNil' := by
  refine ⟨fun pins s σ F H env vs us ds Kn I r R rp h => ?_⟩
  obtain ⟨e, h⟩ := h
  subst e
  cases rp
  cases r
  exact assignInOrder_nil ⟨σ, env, I, R, ⟨rfl, fun _ _ => rfl⟩, ⟨fun _ _ _ hq => hq, fun _ _ hq => hq⟩, h⟩
theorem dgs_cons {es : List Expr} {is is' : List Nat} {g : WG} {gs : WGs} (h1 : DG B X e is g) (h2 : DGs B X es is' gs) (hs : (assignEach (e :: es) X.env).map (·.2) = assign e X.env :: (assignEach es X.env).map (·.2) := by rfl) : DGs B X (e :: es) (is ++ is') (gCons' g gs) := by
  refine ⟨fun pins s σ F H env vs us ds Kn I r R rp h => ?_⟩
  cases ds with
  | nil => exact h.elim
  | cons d ds =>
    cases rp with
    | cons rp1 rp2 =>
      cases r with
      | cons r rr =>
        rw [hs]
        refine assignInOrder_cons (thn (h1.run pins s σ F H env _ _ d _ I r R rp1 h) fun _ s1 ⟨σ1, env1, I1, R1, a1, o1, q1⟩ => ?_)
        exact thn (h2.run pins s1 σ1 F H env1 _ _ ds Kn I1 rr R1 rp2 q1) fun _ s2 ⟨σ2, env2, I2, R2, a2, o2, q2⟩ => ⟨σ2, env2, I2, R2, ⟨a2.1.trans a1.1, fun j hj => (a2.2 j fun z => hj (List.mem_append_right _ z)).trans (a1.2 j fun z => hj (List.mem_append_left _ z))⟩, ⟨fun i l es hq => o1.1 i l es (o2.1 i l es hq), fun i kv hq => o1.2 i kv (o2.2 i kv hq)⟩, q2⟩
theorem dg_tup {es : List Expr} {is : List Nat} {k : Nat} {gs : WGs} {n : Nat} (hc : X.calm = true) (h : DGs B X es is gs) (hn : (assignEach es X.env).length = n := by rfl) (hst : (assignEach es X.env).findIdx? (·.1) = none := by rfl) : DG B X (.Tuple es k pos) is (gT n gs) := by
  refine ⟨fun pins s σ F H env v u d Kn I r R rp hw => ?_⟩
  unfold gT at hw
  split at hw
  · rename_i ds
    cases rp with
    | tup h1 h2 =>
      replace h1 := SqT.of (K := X.K) h1
      cases r
      have h1' := sqT_same R.sub h1
      obtain ⟨its, rv, ht, hz⟩ := I.tuple h1'
      have e1 := h2.length
      have e2 := rv.length
      refine assign_Tuple_tuple (I.ok.hd hc) ht (by rw [hn, List.size_toArray]; omega) hst fun h' hx => ?_
      have I1 : Inv X pins σ H { s with heap := h' } := I.kept (t' := s.toks) fun b o e => hx b o (Nat.ne_of_lt (Heap.lt_size e)) e
      exact h.run pins _ σ F H env _ _ ds Kn I1 (by simpa using rv) R h2 hw.2
  · exact hw.elim
/-- target = value, the value frozen -/
def wAsgT (w : WE) (g : WG) : WS := fun env k => wFz w env (fun e d => g d e k.nx) k.ex
theorem ds_asgT {tg : Expr} {is : List Nat} {g : WG} (he : DE B W X e w) (hg : DG B X tg is g) (hs : swapsWithSole [tg] e pos.line X.env = pure false := by rfl) (hw : swappedStores [tg] e X.env = pure none := by rfl)
    (h1 : (assignEach [tg] X.env).map (·.2) = [assign tg X.env] := by rfl) : DS B W X (.Assign [tg] e pos) (wAsgT w g) := by
  refine ⟨fun pins s σ F H env k I R h hx => ?_⟩
  refine wpAny_Assign_stores (thn (he.run pins s σ F H env _ k.ex I R h hx) fun v s1 ⟨x, env1, r, F1, H1, I1, r1, R1, f1, q1, n1, p, e1, k1⟩ => ?_) hs hw
  obtain ⟨F2, R2, f2, rp⟩ := freeze (env2 := p.1) (d := p.2) R1 f1 q1 n1 e1
  rw [h1]
  exact thn (hg.run pins s1 σ F2 H1 p.1 x v p.2 _ I1 r1 R2 rp k1) fun _ s2 ⟨σ', env', I', R', _, _, q'⟩ => ⟨σ', env', F2, H1, I', R', f2.sub, q'⟩
/-- a, b = x, y with local names -/
def wPar (i j : Nat) (wf : WF) : WS := fun env k => wf env (fun e ds => match ds with
  | [d1, d2] => k.nx ((e.set i (.val d1)).set j (.val d2))
  | _ => False) k.ex
theorem ds_par (i j : Nat) {x y : Str} {a b : Expr} {wf : WF} {px py pt : Pos} {kt k2 : Nat} {pt2 : Pos} (ha : DF B W X [a, b] wf) (nli : ∀ p ∈ B.all, p.1 ≠ i) (nlj : ∀ p ∈ B.all, p.1 ≠ j) (hN : X.N.Nodup) (hc : X.calm = true := by rfl) (hi : X.N[i]? = some x := by rfl) (hj : X.N[j]? = some y := by rfl) (hij : i ≠ j := by decide)
    (hx : X.env.scope.names.lookup x = some .local := by rfl) (hy : X.env.scope.names.lookup y = some .local := by rfl)
    (hw : swappedStores [.Tuple [.Name x px, .Name y py] kt pt] (.Tuple [a, b] k2 pt2) X.env = pure (some [x, y]) := by rfl)
    (hs : swapsWithSole [.Tuple [.Name x px, .Name y py] kt pt] (.Tuple [a, b] k2 pt2) pos.line X.env = pure false := by rfl) :
    DS B W X (.Assign [.Tuple [.Name x px, .Name y py] kt pt] (.Tuple [a, b] k2 pt2) pos) (wPar i j wf) := by
  refine ⟨fun pins s σ F H env k I R h hxx => ?_⟩
  have pa : PA X [a, b] (fun σ' H' Q => σ' = σ ∧ H' = H ∧ ∀ vs env' ds F' H', Rl X.K B F' H' env' σ → Same F F' → RpAll X.K F' vs ds → (match ds with
    | [d1, d2] => k.nx ((env'.set i (.val d1)).set j (.val d2))
    | _ => False) → Q vs H') := by
    refine ⟨fun pos pins s σ' H' Q I' ⟨e1, e2, q⟩ => ?_⟩
    subst e1 e2
    exact thn (ha.run pos pins s _ F _ env _ k.ex I' R h hxx) fun us s1 ⟨vs, env', ds, F', H', I1, rv, R1, f1, q1, k1⟩ => ⟨vs, H', I1, rv, q vs env' ds F' H' R1 f1.sub q1 k1⟩
  refine thn ((ps_par hc hN hi hj hij hx hy pa hw hs).run pins s σ H { nx := fun σ' H' => ∃ env' F', Rl X.K B F' H' env' σ' ∧ Same F F' ∧ k.nx env', rt := fun _ _ => False } I ⟨rfl, rfl, fun vs env' ds F' H' R' sm rp hk => ?_⟩) fun f s1 q => ?_
  · match ds, rp, hk with
    | [d1, d2], .cons (v := v1) r1 (.cons (v := v2) r2 .nil), hk =>
      have il : i < σ.length := by rw [I.len]; exact (List.getElem?_eq_some_iff.mp hi).1
      have jl : j < σ.length := by rw [I.len]; exact (List.getElem?_eq_some_iff.mp hj).1
      exact ⟨v1, v2, rfl, _, F', (R'.putVal il nli r1).putVal (by simpa using jl) nlj r2, sm, hk⟩
  · cases f with
    | next =>
      obtain ⟨σ', H', I', env', F', R', sm, q'⟩ := q
      exact ⟨σ', env', F', H', I', R', sm, q'⟩
    | brk => obtain ⟨_, _, _, q⟩ := q; exact q.elim
    | cont => obtain ⟨_, _, _, q⟩ := q; exact q.elim
    | ret u => obtain ⟨_, _, _, _, _, q⟩ := q; exact q.elim
end

/-! ### while -/
section
variable {B : Bs} {W : WX} {X : Cx} {pos : Pos}
def wWhile (c : WT) (t : WS) : WS := fun env k => ∃ Wi : Nat → Ev → Prop, (∃ m, Wi m env) ∧ ∀ m e, Wi m e → c e (fun e1 b => if b = true then t e1 { k with nx := fun e2 => ∃ m', m' < m ∧ Wi m' e2, ct := fun e2 => ∃ m', m' < m ∧ Wi m' e2, bk := k.nx } else k.nx e1) k.ex
theorem ds_while {c : Expr} {body : List Stmt} {tc : WT} {tb : WS} (hp : PassesOwn (model X.prog X.w) X.A X.env X.xe) (hc : DT B W X c tc) (hb : DSs B W X body tb) : DS B W X (.While c body [] pos) (wWhile tc tb) := by
  refine ⟨fun pins s σ F H env k I R h hx => ?_⟩
  obtain ⟨Wi, ⟨m0, w0⟩, turn⟩ := h
  refine wpAny_While (codeAny_whileLoop (fun n s' => ∃ σ' env' F' H', Inv X pins σ' H' s' ∧ Rl X.K B F' H' env' σ' ∧ Same F F' ∧ Wi n env') ?_ m0 ⟨σ, env, F, H, I, R, Same.refl _, w0⟩)
  rintro n s1 ⟨σ1, env1, F1, H1, I1, R1, sm1, w1⟩
  refine wpAny_passesOwn hp (thn (hc.run pins s1 σ1 F1 H1 env1 _ k.ex I1 R1 (turn n env1 w1) hx) fun b s2 ⟨env2, F2, H2, I2, R2, f2, q2⟩ => ?_)
  cases b with
  | true =>
    rw [if_pos rfl] at q2 ⊢
    refine wpAny_passesOwn hp (thn (hb.run pins s2 σ1 F2 H2 env2 _ I2 R2 q2 hx) fun f s3 q3 => ?_)
    cases f with
    | next =>
      obtain ⟨σ3, env3, F3, H3, I3, R3, sm3, m', hm, w3⟩ := q3
      exact ⟨m', hm, σ3, env3, F3, H3, I3, R3, (sm1.trans f2.sub).trans sm3, w3⟩
    | cont =>
      obtain ⟨σ3, env3, F3, H3, I3, R3, sm3, m', hm, w3⟩ := q3
      exact ⟨m', hm, σ3, env3, F3, H3, I3, R3, (sm1.trans f2.sub).trans sm3, w3⟩
    | brk => exact SPD.up (f := .next) (sm1.trans f2.sub) q3
    | ret v => exact q3
  | false =>
    rw [if_neg Bool.false_ne_true] at q2 ⊢
    exact wpAny_execs_nil ⟨σ1, env2, F2, H2, I2, R2, sm1.trans f2.sub, q2⟩
end
end Dl
end L2

/-! The D layer, 8: lists that are changed. -/
namespace L2
namespace Dl
open PySem PySem.Spec PyProof.Rows

section
variable {K : PySem.W.Frag} {B : Bs} {F H : Hp} {env : Ev} {σ : St}
/-- an own list is written -/
theorem Rl.mut (R : Rl K B F H env σ) {i : Nat} {l : Bool} {ds ds' : List PyData} {a : Addr} {vs' : List V} (e : env[i]? = some (Sl.own l ds)) (ha : σ[i]? = some (some (V.ref a))) (r : RpAll K F vs' ds') :
    Rl K B F (upd H a (.lst vs')) (env.set i (.own l ds')) σ ∧ Fm env σ F H (env.set i (.own l ds')) F (upd H a (.lst vs')) := by
  have s := R.sl i
  rw [e] at s
  obtain ⟨b, vs, h1, h2, h3, h4⟩ := s
  rw [ha] at h1
  cases h1
  have il : i < env.length := (List.getElem?_eq_some_iff.mp e).1
  have ow : ∀ {j : Nat} {m : Bool} {es : List PyData}, (env.set i (.own l ds'))[j]? = some (Sl.own m es) → ∃ es', env[j]? = some (Sl.own m es') := fun {j m es} h => by
    by_cases hj : i = j
    · subst hj
      rw [List.getElem?_set_self il] at h
      cases h
      exact ⟨ds, e⟩
    · rw [List.getElem?_set_ne hj] at h
      exact ⟨es, h⟩
  have od : ∀ {j : Nat} {kv : List (List Int × PyData)}, (env.set i (.own l ds'))[j]? = some (Sl.dct kv) → env[j]? = some (Sl.dct kv) := fun {j kv} h => by
    by_cases hj : i = j
    · subst hj
      rw [List.getElem?_set_self il] at h
      cases h
    · rw [List.getElem?_set_ne hj] at h
      exact h
  have own_a : ownAt env σ a := .inl ⟨i, l, ds, e, ha⟩
  refine ⟨⟨by rw [List.length_set]; exact R.len, fun b x q => ?_, fun j => ?_, fun j k m n es fs b h5 h6 h7 h8 => ?_, R.sub0, R.new, fun b x q n => ?_, fun b q => ?_, fun j es b h5 h6 => ?_, fun j es b h5 h6 => ?_, R.lsl, fun j k kv kw b h5 h6 h7 h8 => R.dd j k kv kw b (od h5) (od h6) h7 h8, fun j kv b h5 h6 => R.d0 j kv b (od h5) h6⟩, ⟨fun b x q n => ?_, fun _ _ q => q, fun _ _ q => .inl q, fun j m es h => ow h, fun b q => ?_, fun j kv h => ⟨kv, od h⟩⟩⟩
  · rw [upd_ne]
    · exact R.sub b x q
    · rintro rfl
      rw [h3] at q
      cases q
  · by_cases hj : i = j
    · subst hj
      rw [List.getElem?_set_self il]
      exact ⟨a, vs', ha, upd_same, h3, r⟩
    · rw [List.getElem?_set_ne hj]
      have s := R.sl j
      cases q : env[j]? with
      | none => trivial
      | some z =>
        rw [q] at s
        cases z with
        | un => trivial
        | val d => exact s
        | own m es =>
          obtain ⟨c, ws, g1, g2, g3, g4⟩ := s
          refine ⟨c, ws, g1, ?_, g3, g4⟩
          rw [upd_ne]
          · exact g2
          · rintro rfl
            exact hj (R.dist i j l m ds es c e q ha g1)
        | dct kv =>
          obtain ⟨c, g1, g2, g3⟩ := s
          refine ⟨c, g1, ?_, g3⟩
          rw [upd_ne]
          · exact g2
          · rintro rfl
            rw [h2] at g2
            cases g2
  · obtain ⟨es', h9⟩ := ow h5
    obtain ⟨fs', h10⟩ := ow h6
    exact R.dist j k m n es' fs' b h9 h10 h7 h8
  · rw [upd_ne]
    · exact R.frm b x q n
    · rintro rfl
      cases l with
      | false => rw [R.own0 i ds b e ha] at q; cases q
      | true =>
        obtain ⟨p, g1, g2⟩ := R.own1 i ds b e ha
        exact n p g1 g2
  · by_cases hb : b = a
    · subst hb
      rw [upd_same]
      simp
    · rw [upd_ne hb]
      exact R.dom b q
  · obtain ⟨es', h9⟩ := ow h5
    exact R.own0 j es' b h9 h6
  · obtain ⟨es', h9⟩ := ow h5
    exact R.own1 j es' b h9 h6
  · rw [upd_ne]
    · exact q
    · rintro rfl
      exact n own_a
  · by_cases hb : b = a
    · subst hb
      rw [upd_same]
      simp
    · rw [upd_ne hb]
      exact q
theorem Rl.ownSl (R : Rl K B F H env σ) {i : Nat} {l : Bool} {ds : List PyData} (e : env[i]? = some (Sl.own l ds)) : ∃ a vs, σ[i]? = some (some (V.ref a)) ∧ H a = some (.lst vs) ∧ F a = none ∧ RpAll K F vs ds := by
  have s := R.sl i
  rw [e] at s
  exact s
end

/-- a method of an own list with one argument, frozen -/
abbrev Mu := List PyData → PyData → (List PyData → PyData → Prop) → Prop
def isOwn (env : Ev) (i : Nat) : Prop := ∃ l ds, env[i]? = some (Sl.own l ds)
def wOwnF (i : Nat) (w : WE) (μ : Mu) : WE := fun env Ke Kx => isOwn env i ∧ wFz w env (fun env1 d => ∃ l ds, env1[i]? = some (Sl.own l ds) ∧ μ ds d (fun ds' d' => Ke (env1.set i (.own l ds')) (.val d'))) Kx
def wOwn0 (i : Nat) (μ : List PyData → (List PyData → PyData → Prop) → Prop) : WE := fun env Ke Kx => ∃ l ds, env[i]? = some (Sl.own l ds) ∧ μ ds (fun ds' d' => Ke (env.set i (.own l ds')) (.val d'))
section
variable {B : Bs} {W : WX} {X : Cx} {x name : Str} {e : Expr} {w : WE} {p apos cpos : Pos} {id : String} {r : V → List V → Hp → VK → Prop} {μ : Mu} {μ0 : List PyData → (List PyData → PyData → Prop) → Prop}
theorem de_ownF (i : Nat) (slot : Slot "list" name id) (hty : typeOf (.builtin id) = pure (.type "method_descriptor")) (hm : MtR X id r) (ha : DE B W X e w) (hmono : ∀ (x : V) (xs : List V) (H : Hp) (Q Q' : VK), (∀ y H', Q y H' → Q' y H') → r x xs H Q → r x xs H Q')
    (hr : ∀ (F H : Hp) (a : Addr) (vs : List V) (ds : List PyData) (v : V) (d : PyData) (Kn : List PyData → PyData → Prop), H a = some (.lst vs) → RpAll X.K F vs ds → Rp X.K F v d → μ ds d Kn → r (.ref a) [v] H (fun y H' => ∃ vs' ds' d', H' = upd H a (.lst vs') ∧ RpAll X.K F vs' ds' ∧ Rp X.K F y d' ∧ Kn ds' d'))
    (hN : X.N[i]? = some x := by rfl) (hv : Vis X.env.scope x := by first | exact Or.inl rfl | exact Or.inr (Or.inl rfl) | exact Or.inr (Or.inr rfl)) (hd : (x == ("__debug__" : Str)) = false := by decide) (hcd : (x == ("__classdict__" : Str)) = false := by decide)
    (hbase : attributeBase (.Name x p) name X.env (eval (.Name x p) X.env) = eval (.Name x p) X.env := by rfl)
    (hfew : ((backTo cpos (starEach [e] X.env)).all (fun x => !x.1) && (backToKw cpos (keywordEach [] X.env)).all (fun x => x.1.isSome)
      && decide ([e].length + ([] : List Keyword).length + (if ([] : List Keyword).isEmpty then 0 else 1) < 30)) = true := by rfl)
    (hline : (apos.endLine == cpos.line) = true := by rfl) (hs : starEach [e] X.env = (false, eval e X.env) :: starEach [] X.env := by rfl) (hplain : (backTo cpos (starEach [] X.env)).any (·.1) = false := by rfl) :
    DE B W X (.Call (.Attribute (.Name x p) name apos) [e] [] cpos) (wOwnF i w μ) := by
  refine ⟨fun pins s σ F H env Ke Kx I R h hx => ?_⟩
  obtain ⟨⟨l, ds, e0⟩, h⟩ := h
  obtain ⟨a, vs, g1, g2, g3, g4⟩ := R.ownSl e0
  have pe := pe_bm (cpos := cpos) (apos := apos) PySem.F.plainAttrs_list slot hty hm (pe_var (pos := p) hN hv hd hcd) (pa_cons ha.pe pa_nil hs) hbase hfew hline hs hplain
  refine thn (pe.run pins s σ H (fun v H' => ∃ env' d F', Rl X.K B F' H' env' σ ∧ Fm env σ F H env' F' H' ∧ Rp X.K F' v d ∧ Ke env' (.val d)) I ?_) fun u s1 ⟨v, H', I', rv, env', d, F', h1, h2, h3, h4⟩ => ⟨v, env', .val d, F', H', I', rv, h1, h2, h3, trivial, h4⟩
  refine ⟨.ref a, g1, Or.inl ⟨rfl, vs, SqL.of g2⟩, F, env, _, Kx, R, h, hx, fun v env' r1 F' H' R1 f1 q1 n1 ⟨q, e1, l1, ds1, e2, k⟩ => ?_⟩
  obtain ⟨F2, R2, f2, rp⟩ := freeze (env2 := q.1) (d := q.2) R1 f1 q1 n1 e1
  obtain ⟨a', vs1, k1, k2, k3, k4⟩ := R2.ownSl e2
  rw [g1] at k1
  cases k1
  have hQ := hr F2 H' a vs1 ds1 v q.2 _ k2 k4 rp k
  exact hmono _ _ _ _ _ (fun y H'' ⟨vs', ds', d', z1, z2, z3, z4⟩ => by
    subst z1
    obtain ⟨R3, f3⟩ := R2.mut e2 g1 z2
    exact ⟨_, d', F2, R3, f2.trans f3, z3, z4⟩) hQ
end

def muApp : Mu := fun ds d K => ds.length < sizeLine ∧ K (ds ++ [d]) .none
def muPopAt : Mu := fun ds d K => ∃ i x, d = .int i ∧ 0 ≤ i ∧ i < 2 ^ 63 ∧ ds[i.toNat]? = some x ∧ K (ds.eraseIdx i.toNat) x
/-- list.remove of a list of ints -/
def muRem : Mu := fun ds d K => ∃ (ns : List Int) (k : Int) (j : Nat), ds = ns.map .int ∧ d = .int k ∧ ns[j]? = some k ∧ (∀ m : Nat, m < j → ns[m]? ≠ some k) ∧ K ((ns.eraseIdx j).map .int) .none
section
variable {X : Cx}
theorem rAppend_mono (x : V) (xs : List V) (H : Hp) (Q Q' : VK) (h : ∀ y H', Q y H' → Q' y H') : rAppend x xs H Q → rAppend x xs H Q' := fun ⟨l, vs, y, h1, h2, h3, h4, q⟩ => ⟨l, vs, y, h1, h2, h3, h4, h _ _ q⟩
theorem rPopAt_mono (x : V) (xs : List V) (H : Hp) (Q Q' : VK) (h : ∀ y H', Q y H' → Q' y H') : rPopAt x xs H Q → rPopAt x xs H Q' := fun ⟨l, vs, i, k, y, h1, h2, h3, h4, h5, h6, h7, q⟩ => ⟨l, vs, i, k, y, h1, h2, h3, h4, h5, h6, h7, h _ _ q⟩
theorem rRemI_mono (x : V) (xs : List V) (H : Hp) (Q Q' : VK) (h : ∀ y H', Q y H' → Q' y H') : rRemI x xs H Q → rRemI x xs H Q' := fun ⟨l, vs, i, k, h1, h2, h3, h4, h5, q⟩ => ⟨l, vs, i, k, h1, h2, h3, h4, h5, h _ _ q⟩
theorem hr_app (F H : Hp) (a : Addr) (vs : List V) (ds : List PyData) (v : V) (d : PyData) (Kn : List PyData → PyData → Prop) (h1 : H a = some (.lst vs)) (h2 : RpAll X.K F vs ds) (h3 : Rp X.K F v d) (h : muApp ds d Kn) :
    rAppend (.ref a) [v] H (fun y H' => ∃ vs' ds' d', H' = upd H a (.lst vs') ∧ RpAll X.K F vs' ds' ∧ Rp X.K F y d' ∧ Kn ds' d') :=
  ⟨a, vs, v, rfl, rfl, h1, by rw [h2.length]; exact h.1, _, _, _, rfl, h2.append (.cons h3 .nil), .non, h.2⟩
theorem hr_popAt (F H : Hp) (a : Addr) (vs : List V) (ds : List PyData) (v : V) (d : PyData) (Kn : List PyData → PyData → Prop) (h1 : H a = some (.lst vs)) (h2 : RpAll X.K F vs ds) (h3 : Rp X.K F v d) (h : muPopAt ds d Kn) :
    rPopAt (.ref a) [v] H (fun y H' => ∃ vs' ds' d', H' = upd H a (.lst vs') ∧ RpAll X.K F vs' ds' ∧ Rp X.K F y d' ∧ Kn ds' d') := by
  obtain ⟨i, x, rfl, i0, i1, hx, k⟩ := h
  cases h3
  obtain ⟨y, hy, ry⟩ := h2.get hx
  have hl : i.toNat < vs.length := (List.getElem?_eq_some_iff.mp hy).1
  exact ⟨a, vs, i, i.toNat, y, rfl, rfl, h1, by omega, i1, seqIndex_of i0 (by omega), hy, _, _, x, rfl, h2.erase _, ry, k⟩
theorem hr_rem (F H : Hp) (a : Addr) (vs : List V) (ds : List PyData) (v : V) (d : PyData) (Kn : List PyData → PyData → Prop) (h1 : H a = some (.lst vs)) (h2 : RpAll X.K F vs ds) (h3 : Rp X.K F v d) (h : muRem ds d Kn) :
    rRemI (.ref a) [v] H (fun y H' => ∃ vs' ds' d', H' = upd H a (.lst vs') ∧ RpAll X.K F vs' ds' ∧ Rp X.K F y d' ∧ Kn ds' d') := by
  obtain ⟨ns, k, j, rfl, rfl, hj, hn, q⟩ := h
  cases h3
  have e := h2.ints
  subst e
  exact ⟨a, ns, k, j, rfl, rfl, h1, hj, hn, _, _, _, rfl, RpAll.of_ints _, .non, q⟩
variable {B : Bs} {W : WX} {x : Str} {e : Expr} {w : WE} {p apos cpos : Pos}
theorem de_append (i : Nat) (ha : DE B W X e w) (hN : X.N[i]? = some x := by rfl) (hv : Vis X.env.scope x := by first | exact Or.inl rfl | exact Or.inr (Or.inl rfl) | exact Or.inr (Or.inr rfl)) (hd : (x == ("__debug__" : Str)) = false := by decide) (hcd : (x == ("__classdict__" : Str)) = false := by decide)
    (hbase : attributeBase (.Name x p) "append" X.env (eval (.Name x p) X.env) = eval (.Name x p) X.env := by rfl)
    (hfew : ((backTo cpos (starEach [e] X.env)).all (fun x => !x.1) && (backToKw cpos (keywordEach [] X.env)).all (fun x => x.1.isSome)
      && decide ([e].length + ([] : List Keyword).length + (if ([] : List Keyword).isEmpty then 0 else 1) < 30)) = true := by rfl)
    (hline : (apos.endLine == cpos.line) = true := by rfl) (hs : starEach [e] X.env = (false, eval e X.env) :: starEach [] X.env := by rfl) (hplain : (backTo cpos (starEach [] X.env)).any (·.1) = false := by rfl) :
    DE B W X (.Call (.Attribute (.Name x p) "append" apos) [e] [] cpos) (wOwnF i w muApp) :=
  de_ownF i PySem.F.slot_list_append PySem.F.type_list_append mt_append ha rAppend_mono hr_app hN hv hd hcd hbase hfew hline hs hplain
theorem de_popAt (i : Nat) (ha : DE B W X e w) (hN : X.N[i]? = some x := by rfl) (hv : Vis X.env.scope x := by first | exact Or.inl rfl | exact Or.inr (Or.inl rfl) | exact Or.inr (Or.inr rfl)) (hd : (x == ("__debug__" : Str)) = false := by decide) (hcd : (x == ("__classdict__" : Str)) = false := by decide)
    (hbase : attributeBase (.Name x p) "pop" X.env (eval (.Name x p) X.env) = eval (.Name x p) X.env := by rfl)
    (hfew : ((backTo cpos (starEach [e] X.env)).all (fun x => !x.1) && (backToKw cpos (keywordEach [] X.env)).all (fun x => x.1.isSome)
      && decide ([e].length + ([] : List Keyword).length + (if ([] : List Keyword).isEmpty then 0 else 1) < 30)) = true := by rfl)
    (hline : (apos.endLine == cpos.line) = true := by rfl) (hs : starEach [e] X.env = (false, eval e X.env) :: starEach [] X.env := by rfl) (hplain : (backTo cpos (starEach [] X.env)).any (·.1) = false := by rfl) :
    DE B W X (.Call (.Attribute (.Name x p) "pop" apos) [e] [] cpos) (wOwnF i w muPopAt) :=
  de_ownF i PySem.F.slot_list_pop PySem.F.type_list_pop mt_popAt ha rPopAt_mono hr_popAt hN hv hd hcd hbase hfew hline hs hplain
theorem de_remove (i : Nat) (ha : DE B W X e w) (hN : X.N[i]? = some x := by rfl) (hv : Vis X.env.scope x := by first | exact Or.inl rfl | exact Or.inr (Or.inl rfl) | exact Or.inr (Or.inr rfl)) (hd : (x == ("__debug__" : Str)) = false := by decide) (hcd : (x == ("__classdict__" : Str)) = false := by decide)
    (hbase : attributeBase (.Name x p) "remove" X.env (eval (.Name x p) X.env) = eval (.Name x p) X.env := by rfl)
    (hfew : ((backTo cpos (starEach [e] X.env)).all (fun x => !x.1) && (backToKw cpos (keywordEach [] X.env)).all (fun x => x.1.isSome)
      && decide ([e].length + ([] : List Keyword).length + (if ([] : List Keyword).isEmpty then 0 else 1) < 30)) = true := by rfl)
    (hline : (apos.endLine == cpos.line) = true := by rfl) (hs : starEach [e] X.env = (false, eval e X.env) :: starEach [] X.env := by rfl) (hplain : (backTo cpos (starEach [] X.env)).any (·.1) = false := by rfl) :
    DE B W X (.Call (.Attribute (.Name x p) "remove" apos) [e] [] cpos) (wOwnF i w muRem) :=
  de_ownF i PySem.F.slot_list_remove PySem.F.type_list_remove mt_remove ha rRemI_mono hr_rem hN hv hd hcd hbase hfew hline hs hplain
/-! extend: by a new list, or by another own one -/
def wExtend (i : Nat) (w : WE) : WE := fun env Ke Kx => isOwn env i ∧ w env (fun env1 r => ∃ l ds es, env1[i]? = some (Sl.own l ds) ∧ (r = .tmp es ∨ ∃ j, j ≠ i ∧ r = .slot j ∧ ∃ m, env1[j]? = some (Sl.own m es)) ∧ ds.length + es.length ≤ sizeLine ∧ Ke (env1.set i (.own l (ds ++ es))) (.val .none)) Kx
theorem de_extend (i : Nat) (ha : DE B W X e w) (hN : X.N[i]? = some x := by rfl) (hv : Vis X.env.scope x := by first | exact Or.inl rfl | exact Or.inr (Or.inl rfl) | exact Or.inr (Or.inr rfl)) (hd : (x == ("__debug__" : Str)) = false := by decide) (hcd : (x == ("__classdict__" : Str)) = false := by decide)
    (hbase : attributeBase (.Name x p) "extend" X.env (eval (.Name x p) X.env) = eval (.Name x p) X.env := by rfl)
    (hfew : ((backTo cpos (starEach [e] X.env)).all (fun x => !x.1) && (backToKw cpos (keywordEach [] X.env)).all (fun x => x.1.isSome)
      && decide ([e].length + ([] : List Keyword).length + (if ([] : List Keyword).isEmpty then 0 else 1) < 30)) = true := by rfl)
    (hline : (apos.endLine == cpos.line) = true := by rfl) (hs : starEach [e] X.env = (false, eval e X.env) :: starEach [] X.env := by rfl) (hplain : (backTo cpos (starEach [] X.env)).any (·.1) = false := by rfl) :
    DE B W X (.Call (.Attribute (.Name x p) "extend" apos) [e] [] cpos) (wExtend i w) := by
  refine ⟨fun pins s σ F H env Ke Kx I R h hx => ?_⟩
  obtain ⟨⟨l, ds, e0⟩, h⟩ := h
  obtain ⟨a, vs, g1, g2, g3, g4⟩ := R.ownSl e0
  have pe := pe_bm (cpos := cpos) (apos := apos) PySem.F.plainAttrs_list PySem.F.slot_list_extend PySem.F.type_list_extend mt_extend (pe_var (pos := p) hN hv hd hcd) (pa_cons ha.pe pa_nil hs) hbase hfew hline hs hplain
  refine thn (pe.run pins s σ H (fun v H' => ∃ env' d F', Rl X.K B F' H' env' σ ∧ Fm env σ F H env' F' H' ∧ Rp X.K F' v d ∧ Ke env' (.val d)) I ?_) fun u s1 ⟨v, H', I', rv, env', d, F', h1, h2, h3, h4⟩ => ⟨v, env', .val d, F', H', I', rv, h1, h2, h3, trivial, h4⟩
  refine ⟨.ref a, g1, Or.inl ⟨rfl, vs, SqL.of g2⟩, F, env, _, Kx, R, h, hx, fun v env1 r1 F1 H1 R1 f1 q1 n1 ⟨l1, ds1, es, e2, hr, hz, k⟩ => ?_⟩
  obtain ⟨a', vs1, k1, k2, k3, k4⟩ := R1.ownSl e2
  rw [g1] at k1
  cases k1
  have other : ∃ b ws, v = .ref b ∧ H1 b = some (.lst ws) ∧ RpAll X.K F1 ws es := by
    rcases hr with rfl | ⟨j, hj, rfl, m, ej⟩
    · obtain ⟨p, ws, z1, z2, z3, z4, z5, z6⟩ := q1
      exact ⟨p, ws, z1, z2, z6⟩
    · obtain ⟨b, ws, z1, z2, z3, z4⟩ := R1.ownSl ej
      have q' : σ[j]? = some (some v) := q1
      rw [z1] at q'
      cases q'
      exact ⟨b, ws, rfl, z2, z4⟩
  obtain ⟨b, ws, rfl, z1, z2⟩ := other
  obtain ⟨R3, f3⟩ := R1.mut e2 g1 (k4.append z2)
  exact ⟨a, b, vs1, ws, rfl, rfl, k2, z1, by rw [k4.length, z2.length]; exact hz, _, .none, F1, R3, f1.trans f3, .non, k⟩
end

/-! ### x[i] = e, x op= e -/
section
variable {B : Bs} {W : WX} {X : Cx} {x : Str} {a e : Expr} {wi w : WE} {p pos spos : Pos}
def wSetIx (i : Nat) (wi w : WE) : WS := fun env k => wFz w env (fun env1 d => isOwn env1 i ∧ wi env1 (fun env2 r => ∃ j l ds n, r = .val (.int j) ∧ env2[i]? = some (Sl.own l ds) ∧ ixN ds.length j = some n ∧ k.nx (env2.set i (.own l (ds.set n d)))) k.ex) k.ex
theorem ds_setIx (i : Nat) (he : DE B W X e w) (hi : DE B W X a wi) (hN : X.N[i]? = some x := by rfl) (hv : Vis X.env.scope x := by first | exact Or.inl rfl | exact Or.inr (Or.inl rfl) | exact Or.inr (Or.inr rfl)) (hd : (x == ("__debug__" : Str)) = false := by decide) (hcd : (x == ("__classdict__" : Str)) = false := by decide)
    (ha : ∀ v, assign (.Subscript (.Name x p) a spos) X.env v = (do
      let ov ← holding [v] (eval (.Name x p) X.env)
      let iv ← holding [v, ov] (eval a X.env)
      standAt spos
      holding [v, ov, iv] (setItem ov iv v)
      release [v, ov, iv] []) := by intro _; rfl)
    (hs : swapsWithSole [.Subscript (.Name x p) a spos] e pos.line X.env = pure false := by rfl) (hw : swappedStores [.Subscript (.Name x p) a spos] e X.env = pure none := by rfl)
    (h1 : (assignEach [.Subscript (.Name x p) a spos] X.env).map (·.2) = [assign (.Subscript (.Name x p) a spos) X.env] := by rfl) : DS B W X (.Assign [.Subscript (.Name x p) a spos] e pos) (wSetIx i wi w) := by
  refine ⟨fun pins s σ F H env k I R h hx => ?_⟩
  refine wpAny_Assign_stores (thn (he.run pins s σ F H env _ k.ex I R h hx) fun v s1 ⟨y, env1, r, F1, H1, I1, r1, R1, f1, q1, n1, pr, e1, ⟨l0, ds0, e0⟩, k1⟩ => ?_) hs hw
  obtain ⟨F2, R2, f2, rp⟩ := freeze (env2 := pr.1) (d := pr.2) R1 f1 q1 n1 e1
  obtain ⟨ad, vs, g1, g2, g3, g4⟩ := R2.ownSl e0
  rw [h1]
  have pg := pg_sub (pe_var (pos := p) hN hv hd hcd) hi.pe (set_list (X := X)) ha
  refine thn (pg.run pins s1 σ H1 y v (fun σ' H' => σ' = σ ∧ ∃ env' F', Rl X.K B F' H' env' σ ∧ Same F F' ∧ k.nx env') I1 r1 ?_) fun _ s2 ⟨σ', H', I', e2, env', F', h2, sm, h3⟩ => by
    subst e2
    exact ⟨σ', env', F', H', I', h2, sm, h3⟩
  refine ⟨.ref ad, g1, F2, pr.1, _, k.ex, R2, k1, hx, fun v' env2 r2 F3 H3 R3 f3 q3 n3 ⟨j, l, ds, n, e3, e4, e5, k2⟩ => ?_⟩
  subst e3
  cases (show Rp X.K F3 v' (.int j) from q3)
  obtain ⟨ad', vs3, m1, m2, m3, m4⟩ := R3.ownSl e4
  rw [g1] at m1
  cases m1
  obtain ⟨R4, f4⟩ := R3.mut e4 g1 (m4.set n (Rp.mono f3.sub _ _ rp))
  exact ⟨ad, vs3, j, n, rfl, rfl, m2, by rw [m4.length]; exact e5, rfl, _, F3, R4, f2.sub.trans f3.sub, k2⟩
/-- x += e, x -= e of ints -/
def wAug (i : Nat) (f : Int → Int → Int) (w : WE) : WS := fun env k => ∃ n, env[i]? = some (Sl.val (.int n)) ∧ w env (fun env1 r => ∃ m, r = .val (.int m) ∧ k.nx (env1.set i (.val (.int (f n m))))) k.ex
theorem ds_aug (i : Nat) {op : Operator} {f : Int → Int → Int} {pos' : Pos} (ho : PIp X op (ipI f)) (he : DE B W X e w) (nl : ∀ p ∈ B.all, p.1 ≠ i) (hN : X.N.Nodup) (hi : X.N[i]? = some x := by rfl) (hx : Loc X.env.scope x := by first | exact Or.inl rfl | exact Or.inr rfl)
    (hf : X.fn x = true ∨ X.env.scope.names.lookup x = some .local := by first | exact .inl rfl | exact .inr rfl) : DS B W X (.AugAssign (.Name x pos') op e pos) (wAug i f w) := by
  refine ⟨fun pins s σ F H env k I R ⟨n, e0, h⟩ hxx => ?_⟩
  have sl := R.sl i
  rw [e0] at sl
  obtain ⟨v0, g1, g2⟩ := sl
  cases g2
  refine thn ((ps_aug hN hi hx he.pe ho hf).run pins s σ H { nx := fun σ' H' => ∃ env' F', Rl X.K B F' H' env' σ' ∧ Same F F' ∧ k.nx env', rt := fun _ _ => False } I ⟨.int n, g1, F, env, _, k.ex, R, h, hxx, fun v env1 r F1 H1 R1 f1 q1 n1 ⟨m, e1, k1⟩ => ?_⟩) fun fl s1 q => ?_
  · subst e1
    cases (show Rp X.K F1 v (.int m) from q1)
    have il : i < σ.length := by rw [I.len]; exact (List.getElem?_eq_some_iff.mp hi).1
    exact ⟨n, m, rfl, rfl, _, F1, R1.putVal il nl (.int _), f1.sub, k1⟩
  · cases fl with
    | next =>
      obtain ⟨σ', H', I', env', F', R', sm, q'⟩ := q
      exact ⟨σ', env', F', H', I', R', sm, q'⟩
    | brk => obtain ⟨_, _, _, q⟩ := q; exact q.elim
    | cont => obtain ⟨_, _, _, q⟩ := q; exact q.elim
    | ret u => obtain ⟨_, _, _, _, _, q⟩ := q; exact q.elim
end
end Dl
end L2

/-! The D layer, 9: what is walked; for; list comprehensions. -/
namespace L2
namespace Dl
open PySem PySem.Spec PyProof.Rows

/-- while F0 stands, it gives the items ds -/
def GoodIt (K : PySem.W.Frag) (B : Bs) (J : It) (F0 : Hp) (ds : List PyData) : Prop :=
  ∀ (F H : Hp) (env : Ev) (σ : St) (i : Nat), Rl K B F H env σ → Same F0 F →
    (i < ds.length → J.go i H ∧ ∀ x H', J.yld i H x H' → ∃ F' d, Rl K B F' H' env σ ∧ Fm env σ F H env F' H' ∧ ds[i]? = some d ∧ Rp K F' x d) ∧ (ds.length ≤ i → J.stop i H)
abbrev WI := Ev → (Ev → List PyData → Prop) → KXc → Prop
structure DI (B : Bs) (W : WX) (X : Cx) (tg iter : Expr) (w : WI) : Prop where
  pi : PI X tg iter (fun σ H R => ∃ F env Ki Kx, Rl X.K B F H env σ ∧ w env Ki Kx ∧ XC X.K B W Kx ∧ ∀ J env' F' H' ds, Rl X.K B F' H' env' σ → Fm env σ F H env' F' H' → GoodIt X.K B J F' ds → Ki env' ds → R J H')
/-- a list, a tuple or a text, frozen, walked -/
def itemsOf : PyData → Option (List PyData)
  | .list ds => some ds
  | .tuple ds => some ds
  | .str z => some (z.cps.toList.map fun c => .str ⟨#[c]⟩)
  | _ => none
def wISeq (w : WE) : WI := fun env Ki Kx => wFz w env (fun e d => ∃ ds, itemsOf d = some ds ∧ Ki e ds) Kx
def wIRng1 (w : WE) : WI := fun env Ki Kx => w env (fun e r => ∃ j, r = .val (.int j) ∧ -(2 ^ 62) ≤ j ∧ j < 2 ^ 62 ∧ Ki e ((List.range j.toNat).map fun (i : Nat) => PyData.int (i : Int))) Kx
def wIRng2 (wa wb : WE) : WI := fun env Ki Kx => wa env (fun e1 r1 => wb e1 (fun e2 r2 => ∃ i j, r1 = .val (.int i) ∧ r2 = .val (.int j) ∧ (-(2 ^ 62) ≤ i ∧ i < 2 ^ 62 ∧ -(2 ^ 62) ≤ j ∧ j < 2 ^ 62) ∧ Ki e2 ((List.range (j - i).toNat).map fun (m : Nat) => PyData.int (i + m))) Kx) Kx
section
variable {B : Bs} {W : WX} {X : Cx} {tg e a b : Expr} {w wa wb : WE} {pos p : Pos}
theorem good_list {K : PySem.W.Frag} {F0 : Hp} {ad : Addr} {xs : List V} {ds : List PyData} (h1 : SqL K F0 ad xs) (h2 : RpAll K F0 xs ds) : GoodIt K B (Itl K ad) F0 ds := by
  intro F H env σ i R s
  have q : SqL K H ad xs := (s.trans R.sub).seq h1
  have hl := h2.length
  refine ⟨fun hi => ⟨⟨xs, xs[i]'(by omega), q, by simp [show i < xs.length by omega]⟩, fun x H' ⟨e, y⟩ => ?_⟩, fun hi => ⟨xs, q, by omega⟩⟩
  subst e
  obtain ⟨d, e1, rp⟩ := h2.get2 (y xs q)
  exact ⟨F, d, R, Fm.refl, e1, Rp.mono s _ _ rp⟩
theorem good_tup {K : PySem.W.Frag} {F0 : Hp} {ad : Addr} {xs : List V} {ds : List PyData} (h1 : SqT K F0 ad xs) (h2 : RpAll K F0 xs ds) : GoodIt K B (Itt K ad) F0 ds := by
  intro F H env σ i R s
  have q : SqT K H ad xs := sqT_same (s.trans R.sub) h1
  have hl := h2.length
  refine ⟨fun hi => ⟨⟨xs, xs[i]'(by omega), q, by simp [show i < xs.length by omega]⟩, fun x H' ⟨e, y⟩ => ?_⟩, fun hi => ⟨xs, q, by omega⟩⟩
  subst e
  obtain ⟨d, e1, rp⟩ := h2.get2 (y xs q)
  exact ⟨F, d, R, Fm.refl, e1, Rp.mono s _ _ rp⟩
theorem good_rng {K : PySem.W.Frag} {F0 : Hp} {lo : Int} {n : Nat} : GoodIt K B (Itr lo n) F0 ((List.range n).map fun (m : Nat) => PyData.int (lo + m)) := by
  intro F H env σ i R s
  refine ⟨fun hi => ?_, fun hi => ?_⟩
  · rw [List.length_map, List.length_range] at hi
    refine ⟨hi, fun x H' ⟨e, y⟩ => ?_⟩
    subst e y
    exact ⟨F, _, R, Fm.refl, by rw [List.getElem?_map, List.getElem?_range hi]; rfl, .int _⟩
  · rw [List.length_map, List.length_range] at hi
    exact hi
theorem good_str {K : PySem.W.Frag} {F0 : Hp} {z : Str} : GoodIt K B (Its z) F0 (z.cps.toList.map fun c => PyData.str ⟨#[c]⟩) := by
  intro F H env σ i R s
  have wk := walk_str (z := z)
  refine ⟨fun hi => ?_, fun hi => ?_⟩
  · have hi' : i < z.cps.size := by simpa using hi
    refine ⟨wk.goes i H hi' trivial, fun x H' y => ?_⟩
    obtain ⟨e, c, e1, e2⟩ := wk.yields i H x H' hi' trivial y
    subst e e2
    exact ⟨F, _, R, Fm.refl, by rw [List.getElem?_map, Array.getElem?_toList, e1]; rfl, .str _⟩
  · have hi' : z.cps.size ≤ i := by simpa using hi
    have st : ∀ j, z.cps.size ≤ j → (Its z).stop j H := fun j hj => hj
    exact st i hi'
/-- a sequence -/
theorem di_seq (he : DE B W X e w) : DI B W X tg e (wISeq w) := by
  refine ⟨⟨fun pins s σ H R I ⟨F, env, Ki, Kx, R0, hw, hx, q⟩ => ?_⟩⟩
  refine thn (he.run pins s σ F H env _ Kx I R0 hw hx) fun v s1 ⟨x, env1, r1, F1, H1, I1, rx, R1, f1, q1, n1, pr, e1, ds, e2, k⟩ => ?_
  obtain ⟨F2, R2, f2, rp⟩ := freeze (env2 := pr.1) (d := pr.2) R1 f1 q1 n1 e1
  generalize hd : pr.2 = d at rp e2
  cases rp with
  | non => cases e2
  | bl b => cases e2
  | int i => cases e2
  | dct h => cases e2
  | str z =>
    cases e2
    obtain ⟨t, rfl⟩ := rx
    cases ha : z.cps.all (· < 128)
    · exact wpAny_pyIter_wide ha (pi_one (tk := s1.toks) I1 _ (turn_str _ z t "str_iterator" (.inr rfl)) ⟨_, Heap.get?_push_size _ rfl, rfl, rfl⟩ (q _ pr.1 F2 H1 _ R2 f2 good_str k))
    · exact wpAny_pyIter_ascii ha (pi_one (tk := s1.toks) I1 _ (turn_str _ z t "str_ascii_iterator" (.inl rfl)) ⟨_, Heap.get?_push_size _ rfl, rfl, rfl⟩ (q _ pr.1 F2 H1 _ R2 f2 good_str k))
  | lst h1 h2 =>
    cases e2
    cases rx
    obtain ⟨its, rv, pl, hz⟩ := I1.list (R2.sub.seq h1)
    refine wpAny_pyIter_list pl.isList ?_
    refine ⟨s1.heap.objs.size, [s1.heap.objs.size], _, _, H1, rfl, I1.kept (t' := s1.toks) fun b o e => Heap.get?_push_of_some _ e, turn_list _ _, ⟨_, Heap.get?_push_size _ rfl, rfl, rfl⟩, fun b hb => ?_, q _ pr.1 F2 H1 _ R2 f2 (good_list h1 h2) k⟩
    have e : b = s1.heap.objs.size := by simpa using hb
    subst e
    exact I1.fpOk (Nat.le_refl _) (I1.hok.fresh (Nat.le_refl _))
  | tup h1 h2 =>
    replace h1 := SqT.of (K := X.K) h1
    cases e2
    cases rx
    obtain ⟨its, rv, pl, hz⟩ := I1.tuple (sqT_same R2.sub h1)
    refine wpAny_pyIter_tuple (show s1.heap.IsTuple _ its.toArray from pl) ?_
    refine ⟨s1.heap.objs.size, [s1.heap.objs.size], _, _, H1, rfl, I1.kept (t' := s1.toks) fun b o e => Heap.get?_push_of_some _ e, turn_tuple _ _, ⟨_, Heap.get?_push_size _ rfl, rfl, rfl⟩, fun b hb => ?_, q _ pr.1 F2 H1 _ R2 f2 (good_tup h1 h2) k⟩
    have e : b = s1.heap.objs.size := by simpa using hb
    subst e
    exact I1.fpOk (Nat.le_refl _) (I1.hok.fresh (Nat.le_refl _))
theorem di_rng1 (he : DE B W X e w) (hg : Gl X "range") (hm : X.mg "range" = none) (hs : starEach [e] X.env = [(false, eval e X.env)] := by rfl) : DI B W X tg (.Call (.Name "range" p) [e] [] pos) (wIRng1 w) := by
  refine ⟨⟨fun pins s σ H R I ⟨F, env, Ki, Kx, R0, hw, hx, q⟩ => ?_⟩⟩
  refine (pi_range1 (p := p) (pos := pos) hg hm (pa_cons he.pe pa_nil hs) hs).run pins s σ H R I ⟨F, env, _, Kx, R0, hw, hx, fun v env1 r F1 H1 R1 f1 q1 n1 ⟨j, e1, h1, h2, k⟩ => ?_⟩
  subst e1
  cases (show Rp X.K F1 v (.int j) from q1)
  have g := good_rng (B := B) (K := X.K) (F0 := F1) (lo := 0) (n := j.toNat)
  simp only [Int.zero_add] at g
  exact ⟨j, rfl, h1, h2, q _ env1 F1 H1 _ R1 f1 g k⟩
theorem di_rng2 (ha : DE B W X a wa) (hb : DE B W X b wb) (hg : Gl X "range") (hm : X.mg "range" = none) (hs : starEach [a, b] X.env = [(false, eval a X.env), (false, eval b X.env)] := by rfl) (hs2 : starEach [b] X.env = [(false, eval b X.env)] := by rfl) (hs1 : starEach [a, b] X.env = (false, eval a X.env) :: starEach [b] X.env := by rfl) (hs3 : starEach [b] X.env = (false, eval b X.env) :: starEach [] X.env := by rfl) :
    DI B W X tg (.Call (.Name "range" p) [a, b] [] pos) (wIRng2 wa wb) := by
  refine ⟨⟨fun pins s σ H R I ⟨F, env, Ki, Kx, R0, hw, hx, q⟩ => ?_⟩⟩
  refine (pi_range2 (p := p) (pos := pos) hg hm (pa_cons ha.pe (pa_cons hb.pe pa_nil hs3) hs1) hs hs2).run pins s σ H R I ⟨F, env, _, Kx, R0, hw, hx, fun v env1 r F1 H1 R1 f1 q1 n1 k1 => ⟨F1, env1, _, Kx, R1, k1, hx, fun v2 env2 r2 F2 H2 R2 f2 q2 n2 ⟨i, j, e1, e2, hb, k⟩ => ?_⟩⟩
  subst e1 e2
  cases (show Rp X.K F1 v (.int i) from q1)
  cases (show Rp X.K F2 v2 (.int j) from q2)
  exact ⟨i, j, rfl, hb, q _ env2 F2 H2 _ R2 (f1.trans f2) good_rng k⟩
end

/-! ### for -/
def wEach (g : WG) (t : WS) : List PyData → Ev → Ken → Prop
  | [], env, k => k.nx env
  | d :: r, env, k => g d env (fun e1 => t e1 { k with nx := fun e2 => wEach g t r e2 k, ct := fun e2 => wEach g t r e2 k, bk := k.nx })
def wFor (wi : WI) (g : WG) (t : WS) : WS := fun env k => wi env (fun e1 ds => wEach g t ds e1 k) k.ex
section
variable {B : Bs} {W : WX} {X : Cx} {pos : Pos}
theorem DG.pg {tg : Expr} {is : List Nat} {g : WG} (h : DG B X tg is g) : PG X tg (fun v σ H Q => ∃ F env d Kn, Rl X.K B F H env σ ∧ Rp X.K F v d ∧ g d env Kn ∧ ∀ σ' env', Rl X.K B F H env' σ' → Agree is σ σ' → OwnSub env env' → Kn env' → Q σ' H) := by
  refine ⟨fun pins s σ H v u Q I r ⟨F, env, d, Kn, R, rp, hg, q⟩ => ?_⟩
  exact thn (h.run pins s σ F H env v u d Kn I r R rp hg) fun _ s1 ⟨σ', env', I', R', a', o', k'⟩ => ⟨σ', H, I', q σ' env' R' a' o' k'⟩
theorem DSs.pss {sts : List Stmt} {w : WS} (h : DSs B W X sts w) : PSs X sts (fun D σ H => ∃ F env k, Rl X.K B F H env σ ∧ w env k ∧ XC X.K B W k.ex ∧ (∀ σ' env' F' H', Rl X.K B F' H' env' σ' → Same F F' → k.nx env' → D.nx σ' H') ∧
    (∀ v σ' env' r F' H', Rl X.K B F' H' env' σ' → Res X.K B F' H' env' σ' v r → k.rt env' r → D.rt v H') ∧ (∀ σ' env' F' H', Rl X.K B F' H' env' σ' → Same F F' → k.bk env' → D.bk σ' H') ∧ ∀ σ' env' F' H', Rl X.K B F' H' env' σ' → Same F F' → k.ct env' → D.ct σ' H') := by
  refine ⟨fun pins s σ H D I ⟨F, env, k, R, hw, hx, q1, q2, q3, q4⟩ => ?_⟩
  refine thn (h.run pins s σ F H env k I R hw hx) fun f s1 q => ?_
  cases f with
  | next => obtain ⟨σ', env', F', H', I', R', sm, k'⟩ := q; exact ⟨σ', H', I', q1 _ _ _ _ R' sm k'⟩
  | brk => obtain ⟨σ', env', F', H', I', R', sm, k'⟩ := q; exact ⟨σ', H', I', q3 _ _ _ _ R' sm k'⟩
  | cont => obtain ⟨σ', env', F', H', I', R', sm, k'⟩ := q; exact ⟨σ', H', I', q4 _ _ _ _ R' sm k'⟩
  | ret u => obtain ⟨v, σ', H', I', rv, σ2, env', r, F', R', res, k'⟩ := q; exact ⟨v, σ', H', I', rv, q2 _ _ _ _ _ _ R' res k'⟩
abbrev endsD (K : PySem.W.Frag) (B : Bs) (F0 : Hp) (k : Ken) : Ends := { nx := fun σ H => ∃ env F, Rl K B F H env σ ∧ Same F0 F ∧ k.nx env, rt := fun v H => ∃ σ env r F, Rl K B F H env σ ∧ Res K B F H env σ v r ∧ k.rt env r, bk := fun σ H => ∃ env F, Rl K B F H env σ ∧ Same F0 F ∧ k.bk env, ct := fun σ H => ∃ env F, Rl K B F H env σ ∧ Same F0 F ∧ k.ct env }
theorem SP.spd {pins : List (Addr × Obj)} {k : Ken} {f : Flow} {s' : Shared} {F0 : Hp} (h : SP X pins (endsD X.K B F0 k) f s') : SPD X B pins F0 k f s' := by
  cases f with
  | next => obtain ⟨σ', H', I', env', F', R', sm, k'⟩ := h; exact ⟨σ', env', F', H', I', R', sm, k'⟩
  | brk => obtain ⟨σ', H', I', env', F', R', sm, k'⟩ := h; exact ⟨σ', env', F', H', I', R', sm, k'⟩
  | cont => obtain ⟨σ', H', I', env', F', R', sm, k'⟩ := h; exact ⟨σ', env', F', H', I', R', sm, k'⟩
  | ret u => obtain ⟨v, σ', H', I', rv, σ2, env', r, F', R', res, k'⟩ := h; exact ⟨v, σ', H', I', rv, σ2, env', r, F', R', res, k'⟩
theorem ds_for {tg iter : Expr} {is : List Nat} {body : List Stmt} {wi : WI} {g : WG} {t : WS} (hp : PassesOwn (model X.prog X.w) X.A X.env X.xe) (hi : DI B W X tg iter wi) (hg : DG B X tg is g) (hb : DSs B W X body t) (hc : X.calm = true := by rfl)
    (hs : ∀ x, foldedSetIterable iter X.env x = pure x := by intro _; rfl) : DS B W X (.For tg iter body [] pos) (wFor wi g t) := by
  refine ⟨fun pins s σ F H env k I R h hx => ?_⟩
  refine thn ((ps_for hp hc hi.pi hg.pg hb.pss hs).run pins s σ H (endsD X.K B F k) I ⟨F, env, _, k.ex, R, h, hx, fun J env1 F1 H1 ds R1 f1 good k1 => ?_⟩) fun f s1 q => SP.spd q
  refine ⟨fun i m σ' H' => m = ds.length - i ∧ i ≤ ds.length ∧ ∃ F' env', Rl X.K B F' H' env' σ' ∧ Same F1 F' ∧ wEach g t (ds.drop i) env' k, ⟨ds.length, by simp, Nat.zero_le _, F1, env1, R1, fun _ _ h => h, k1⟩, ?_⟩
  rintro i m σ' H' ⟨rfl, hi', F', env', R', s', w'⟩
  obtain ⟨g1, g2⟩ := good F' H' env' σ' i R' s'
  by_cases hlt : i < ds.length
  · obtain ⟨h1, h2⟩ := g1 hlt
    refine .inr ⟨h1, fun σ2 H2 => ∃ F2 env2, Rl X.K B F2 H2 env2 σ2 ∧ Same F1 F2 ∧ wEach g t (ds.drop (i + 1)) env2 k, fun σ2 H2 ⟨F2, env2, R2, s2, w2⟩ => ⟨ds.length - (i + 1), by omega, rfl, hlt, F2, env2, R2, s2, w2⟩, fun x H2 y => ?_⟩
    obtain ⟨F2, d, R2, f2, e2, rp⟩ := h2 x H2 y
    have hd : ds.drop i = d :: ds.drop (i + 1) := by
      rw [List.drop_eq_getElem_cons hlt]
      rw [List.getElem?_eq_getElem hlt] at e2
      cases e2
      rfl
    rw [hd] at w'
    have sm2 := s'.trans f2.sub
    exact ⟨F2, env', d, _, R2, rp, w', fun σ3 env3 R3 _ _ w3 => ⟨F2, env3, _, R3, w3, hx, fun σ4 env4 F4 H4 R4 s4 k4 => ⟨F4, env4, R4, sm2.trans s4, k4⟩, fun v σ4 env4 r F4 H4 R4 res k4 => ⟨σ4, env4, r, F4, R4, res, k4⟩,
      fun σ4 env4 F4 H4 R4 s4 k4 => ⟨env4, F4, R4, (f1.sub.trans sm2).trans s4, k4⟩, fun σ4 env4 F4 H4 R4 s4 k4 => ⟨F4, env4, R4, sm2.trans s4, k4⟩⟩⟩
  · rw [List.drop_eq_nil_of_le (by omega)] at w'
    exact .inl ⟨g2 (by omega), env', F', R', f1.sub.trans s', w'⟩
end
end Dl
end L2

/-! The D layer, 10: list comprehensions. -/
namespace L2
namespace Dl
open PySem PySem.Spec PyProof.Rows

def wipeE (env : Ev) : List Nat → Ev
  | [] => env
  | v :: vs => (wipeE env vs).set v .un
/-- the slots at vs as they were in e1 -/
def restE (e1 : Ev) (e : Ev) : List Nat → Ev
  | [] => e
  | v :: vs => (restE e1 e vs).set v (e1[v]?.getD .un)
abbrev NoX : KXc := fun _ _ => False
abbrev W0 : WX := fun _ _ _ _ => False
def wLcE (vs : List Nat) (g : WG) (ct : WT) (we : WE) : List PyData → List PyData → Ev → (Ev → List PyData → Prop) → Prop
  | [], acc, env, K => K env acc
  | d :: r, acc, env, K => g d env (fun e1 => ct e1 (fun e2 b => if b = true then wFz we e2 (fun e3 y => acc.length < sizeLine ∧ wLcE vs g ct we r (acc ++ [y]) (wipeE e3 vs) K) NoX else wLcE vs g ct we r acc (wipeE e2 vs) K) NoX)
def wLc (vs : List Nat) (wi : WI) (g : WG) (ct : WT) (we : WE) : WE := fun env Ke Kx => wi env (fun e1 ds => wLcE vs g ct we ds [] (wipeE e1 vs) (fun e2 acc => Ke (restE e1 e2 vs) (.tmp acc))) Kx
def wYes : WT := fun env Kt _ => Kt env true

theorem wipeE_len (env : Ev) : ∀ vs : List Nat, (wipeE env vs).length = env.length
  | [] => rfl
  | v :: vs => by unfold wipeE; rw [List.length_set, wipeE_len env vs]
theorem wipeE_in {env : Ev} : ∀ {vs : List Nat} {j : Nat}, j ∈ vs → ∀ s, (wipeE env vs)[j]? = some s → s = Sl.un
  | [], _, h, _, _ => by cases h
  | v :: vs, j, h, s, e => by
    unfold wipeE at e
    by_cases hv : v = j
    · subst hv
      by_cases hl : v < (wipeE env vs).length
      · rw [List.getElem?_set_self hl] at e
        cases e
        rfl
      · rw [List.getElem?_eq_none (by simpa using hl)] at e
        cases e
    · rw [List.getElem?_set_ne hv] at e
      exact wipeE_in ((List.mem_cons.mp h).resolve_left (fun z => hv z.symm)) s e
theorem wipeE_out {env : Ev} : ∀ {vs : List Nat} {j : Nat}, j ∉ vs → (wipeE env vs)[j]? = env[j]?
  | [], _, _ => rfl
  | v :: vs, j, h => by
    unfold wipeE
    rw [List.getElem?_set_ne (fun z => h (by rw [z]; exact List.mem_cons_self))]
    exact wipeE_out fun z => h (List.mem_cons_of_mem _ z)
theorem restE_len (e1 e : Ev) : ∀ vs : List Nat, (restE e1 e vs).length = e.length
  | [] => rfl
  | v :: vs => by unfold restE; rw [List.length_set, restE_len e1 e vs]
theorem restE_out {e1 e : Ev} : ∀ {vs : List Nat} {j : Nat}, j ∉ vs → (restE e1 e vs)[j]? = e[j]?
  | [], _, _ => rfl
  | v :: vs, j, h => by
    unfold restE
    rw [List.getElem?_set_ne (fun z => h (by rw [z]; exact List.mem_cons_self))]
    exact restE_out fun z => h (List.mem_cons_of_mem _ z)
theorem restE_in {e1 e : Ev} (hl : e.length = e1.length) : ∀ {vs : List Nat} {j : Nat}, j ∈ vs → (restE e1 e vs)[j]? = e1[j]?
  | [], _, h => by cases h
  | v :: vs, j, h => by
    unfold restE
    by_cases hv : v = j
    · subst hv
      by_cases hlt : v < e1.length
      · rw [List.getElem?_set_self (by rw [restE_len, hl]; exact hlt)]
        rw [List.getElem?_eq_getElem hlt]
        rfl
      · rw [List.getElem?_eq_none (by rw [List.length_set, restE_len, hl]; omega), List.getElem?_eq_none (by omega)]
    · rw [List.getElem?_set_ne hv]
      exact restE_in hl ((List.mem_cons.mp h).resolve_left (fun z => hv z.symm))
section
variable {K : PySem.W.Frag} {B : Bs} {F H F1 H1 : Hp} {env e1 : Ev} {σ σ' : St} {vs : List Nat}
theorem wipe_in {σ : St} : ∀ {vs : List Nat} {j : Nat}, j ∈ vs → ∀ x, (wipe σ vs)[j]? = some x → x = none
  | [], _, h, _, _ => by cases h
  | v :: vs, j, h, x, e => by
    unfold wipe at e
    by_cases hv : v = j
    · subst hv
      by_cases hl : v < (wipe σ vs).length
      · rw [List.getElem?_set_self hl] at e
        cases e
        rfl
      · rw [List.getElem?_eq_none (by simpa using hl)] at e
        cases e
    · rw [List.getElem?_set_ne hv] at e
      exact wipe_in ((List.mem_cons.mp h).resolve_left (fun z => hv z.symm)) x e
theorem wipe_agree (h : ∀ j, j ∉ vs → σ'[j]? = σ[j]?) (hl : σ'.length = σ.length) : wipe σ' vs = wipe σ vs := by
  apply List.ext_getElem?
  intro j
  by_cases hj : j ∈ vs
  · by_cases hlt : j < σ.length
    · have h1l : j < (wipe σ' vs).length := by rw [wipe_length, hl]; exact hlt
      have h2l : j < (wipe σ vs).length := by rw [wipe_length]; exact hlt
      have h1 : (wipe σ' vs)[j]? = some (wipe σ' vs)[j] := List.getElem?_eq_getElem h1l
      have h2 : (wipe σ vs)[j]? = some (wipe σ vs)[j] := List.getElem?_eq_getElem h2l
      have g1 := wipe_in hj _ h1
      have g2 := wipe_in hj _ h2
      rw [h1, h2, g1, g2]
    · rw [List.getElem?_eq_none (by rw [wipe_length, hl]; omega), List.getElem?_eq_none (by rw [wipe_length]; omega)]
  · rw [wipe_out hj, wipe_out hj]
    exact h j hj
/-- within the block: the block's own names are unset -/
theorem Rl.wiped (R : Rl K B F H env σ) (nl : ∀ p ∈ B.all, p.1 ∉ vs) : Rl K B F H (wipeE env vs) (wipe σ vs) := by
  have ow : ∀ {j : Nat} {l : Bool} {ds : List PyData}, (wipeE env vs)[j]? = some (Sl.own l ds) → j ∉ vs ∧ env[j]? = some (Sl.own l ds) := fun {j l ds} h => by
    by_cases hj : j ∈ vs
    · cases wipeE_in hj _ h
    · rw [wipeE_out hj] at h
      exact ⟨hj, h⟩
  have od : ∀ {j : Nat} {kv : List (List Int × PyData)}, (wipeE env vs)[j]? = some (Sl.dct kv) → j ∉ vs ∧ env[j]? = some (Sl.dct kv) := fun {j kv} h => by
    by_cases hj : j ∈ vs
    · cases wipeE_in hj _ h
    · rw [wipeE_out hj] at h
      exact ⟨hj, h⟩
  refine ⟨by rw [wipeE_len, wipe_length]; exact R.len, R.sub, fun j => ?_, fun i j l m ds es a h1 h2 h3 h4 => ?_, R.sub0, R.new, R.frm, R.dom, fun i ds a h1 h2 => ?_, fun i ds a h1 h2 => ?_, fun p hp => ?_, fun i j kv kw a h1 h2 h3 h4 => ?_, fun i kv a h1 h2 => ?_⟩
  · by_cases hj : j ∈ vs
    · cases q : (wipeE env vs)[j]? with
      | none => trivial
      | some s =>
        cases wipeE_in hj s q
        trivial
    · rw [wipeE_out hj, wipe_out hj]
      exact R.sl j
  · obtain ⟨n1, g1⟩ := ow h1
    obtain ⟨n2, g2⟩ := ow h2
    rw [wipe_out n1] at h3
    rw [wipe_out n2] at h4
    exact R.dist i j l m ds es a g1 g2 h3 h4
  · obtain ⟨n1, g1⟩ := ow h1
    rw [wipe_out n1] at h2
    exact R.own0 i ds a g1 h2
  · obtain ⟨n1, g1⟩ := ow h1
    rw [wipe_out n1] at h2
    exact R.own1 i ds a g1 h2
  · rw [wipe_out (nl p hp)]
    exact R.lsl p hp
  · obtain ⟨n1, g1⟩ := od h1
    obtain ⟨n2, g2⟩ := od h2
    rw [wipe_out n1] at h3
    rw [wipe_out n2] at h4
    exact R.dd i j kv kw a g1 g2 h3 h4
  · obtain ⟨n1, g1⟩ := od h1
    rw [wipe_out n1] at h2
    exact R.d0 i kv a g1 h2
/-- ownership in the wiped state is ownership ahead of it -/
theorem own_wiped {a : Addr} (h : ownAt (wipeE env vs) (wipe σ vs) a) : ownAt env σ a := by
  rcases h with ⟨j, l, ds, h1, h2⟩ | ⟨j, kv, h1, h2⟩
  · by_cases hj : j ∈ vs
    · cases wipeE_in hj _ h1
    · rw [wipeE_out hj] at h1
      rw [wipe_out hj] at h2
      exact .inl ⟨j, l, ds, h1, h2⟩
  · by_cases hj : j ∈ vs
    · cases wipeE_in hj _ h1
    · rw [wipeE_out hj] at h1
      rw [wipe_out hj] at h2
      exact .inr ⟨j, kv, h1, h2⟩
/-- behind the block -/
theorem Rl.restored (R1 : Rl K B F1 H1 e1 σ) (R : Rl K B F H env (wipe σ vs)) (f : Fm (wipeE e1 vs) (wipe σ vs) F1 H1 env F H) (nl : ∀ p ∈ B.all, p.1 ∉ vs) : Rl K B F H (restE e1 env vs) σ ∧ Fm e1 σ F1 H1 (restE e1 env vs) F H := by
  have hl : env.length = e1.length := by
    have h1 := R.len
    have h2 := R1.len
    rw [wipe_length] at h1
    omega
  -- an own slot of the restored state
  have ow : ∀ {j : Nat} {l : Bool} {ds : List PyData}, (restE e1 env vs)[j]? = some (Sl.own l ds) → (j ∈ vs ∧ e1[j]? = some (Sl.own l ds)) ∨ (j ∉ vs ∧ env[j]? = some (Sl.own l ds)) := fun {j l ds} h => by
    by_cases hj : j ∈ vs
    · rw [restE_in hl hj] at h
      exact .inl ⟨hj, h⟩
    · rw [restE_out hj] at h
      exact .inr ⟨hj, h⟩
  have owE : ∀ {j : Nat} {l : Bool} {ds : List PyData}, (restE e1 env vs)[j]? = some (Sl.own l ds) → ∃ ds0, e1[j]? = some (Sl.own l ds0) := fun {j l ds} h => by
    rcases ow h with ⟨_, g⟩ | ⟨n, g⟩
    · exact ⟨ds, g⟩
    · obtain ⟨ds0, g1⟩ := f.own j l ds g
      rw [wipeE_out n] at g1
      exact ⟨ds0, g1⟩
  -- an address owned by a hidden slot is not owned in the block
  have hid : ∀ {j : Nat} {l : Bool} {ds : List PyData} {a : Addr}, j ∈ vs → e1[j]? = some (Sl.own l ds) → σ[j]? = some (some (V.ref a)) → ¬ ownAt (wipeE e1 vs) (wipe σ vs) a := fun {j l ds a} hj h1 h2 ow => by
    rcases ow with ⟨k, m, es, g1, g2⟩ | ⟨k, kv, g1, g2⟩
    · by_cases hk : k ∈ vs
      · cases wipeE_in hk _ g1
      · rw [wipeE_out hk] at g1
        rw [wipe_out hk] at g2
        have e := R1.dist j k l m ds es a h1 g1 h2 g2
        exact hk (e ▸ hj)
    · by_cases hk : k ∈ vs
      · cases wipeE_in hk _ g1
      · rw [wipeE_out hk] at g1
        rw [wipe_out hk] at g2
        have s1 := R1.sl j
        have s2 := R1.sl k
        rw [h1] at s1
        rw [g1] at s2
        obtain ⟨b, ws, y1, y2, _⟩ := s1
        obtain ⟨c, z1, z2, _⟩ := s2
        rw [h2] at y1
        cases y1
        rw [g2] at z1
        cases z1
        rw [y2] at z2
        cases z2
  have odE : ∀ {j : Nat} {kv : List (List Int × PyData)}, (restE e1 env vs)[j]? = some (Sl.dct kv) → ∃ kw, e1[j]? = some (Sl.dct kw) := fun {j kv} h => by
    by_cases hj : j ∈ vs
    · rw [restE_in hl hj] at h
      exact ⟨kv, h⟩
    · rw [restE_out hj] at h
      obtain ⟨kw, g1⟩ := f.od j kv h
      rw [wipeE_out hj] at g1
      exact ⟨kw, g1⟩
  have hidd : ∀ {j : Nat} {kv : List (List Int × PyData)} {a : Addr}, j ∈ vs → e1[j]? = some (Sl.dct kv) → σ[j]? = some (some (V.ref a)) → ¬ ownAt (wipeE e1 vs) (wipe σ vs) a := fun {j kv a} hj h1 h2 ow => by
    rcases ow with ⟨k, m, es, g1, g2⟩ | ⟨k, kw, g1, g2⟩
    · by_cases hk : k ∈ vs
      · cases wipeE_in hk _ g1
      · rw [wipeE_out hk] at g1
        rw [wipe_out hk] at g2
        have s1 := R1.sl j
        have s2 := R1.sl k
        rw [h1] at s1
        rw [g1] at s2
        obtain ⟨b, y1, y2, _⟩ := s1
        obtain ⟨c, ws, z1, z2, _⟩ := s2
        rw [h2] at y1
        cases y1
        rw [g2] at z1
        cases z1
        rw [y2] at z2
        cases z2
    · by_cases hk : k ∈ vs
      · cases wipeE_in hk _ g1
      · rw [wipeE_out hk] at g1
        rw [wipe_out hk] at g2
        have e := R1.dd j k kv kw a h1 g1 h2 g2
        exact hk (e ▸ hj)
  refine ⟨⟨by rw [restE_len, hl]; exact R1.len, R.sub, fun j => ?_, fun i j l m ds es a h1 h2 h3 h4 => ?_, R.sub0, R.new, R.frm, R.dom, fun i ds a h1 h2 => ?_, fun i ds a h1 h2 => ?_, R1.lsl, fun i j kv kw a h1 h2 h3 h4 => ?_, fun i kv a h1 h2 => ?_⟩, ⟨fun b x h n => f.keep b x h fun q => n (own_wiped q), f.sub, fun b x h => ?_, fun i l ds h => owE h, f.dom, fun i kv h => odE h⟩⟩
  · by_cases hj : j ∈ vs
    · rw [restE_in hl hj]
      have s := R1.sl j
      cases q : e1[j]? with
      | none => trivial
      | some z =>
        rw [q] at s
        cases z with
        | un => trivial
        | val d =>
          obtain ⟨v, g1, g2⟩ := s
          exact ⟨v, g1, Rp.mono f.sub _ _ g2⟩
        | own l ds =>
          obtain ⟨a, ws, g1, g2, g3, g4⟩ := s
          have na := hid hj q g1
          refine ⟨a, ws, g1, f.keep a _ g2 na, ?_, RpAll.mono f.sub _ _ g4⟩
          cases z : F a with
          | none => rfl
          | some x =>
            rcases f.new a x z with y | y | y
            · rw [g3] at y; cases y
            · exact (y.lst g2).elim
            · exact absurd y na
        | dct kv =>
          obtain ⟨a, g1, g2, g3⟩ := s
          have na := hidd hj q g1
          refine ⟨a, g1, f.keep a _ g2 na, ?_⟩
          cases z : F a with
          | none => rfl
          | some x =>
            rcases f.new a x z with y | y | y
            · rw [g3] at y; cases y
            · exact (y.dT g2).elim
            · exact absurd y na
    · rw [restE_out hj]
      have s := R.sl j
      rw [wipe_out hj] at s
      exact s
  · obtain ⟨d1, g1⟩ := owE h1
    obtain ⟨d2, g2⟩ := owE h2
    exact R1.dist i j l m d1 d2 a g1 g2 h3 h4
  · obtain ⟨d1, g1⟩ := owE h1
    exact R1.own0 i d1 a g1 h2
  · obtain ⟨d1, g1⟩ := owE h1
    exact R1.own1 i d1 a g1 h2
  · obtain ⟨d1, g1⟩ := odE h1
    obtain ⟨d2, g2⟩ := odE h2
    exact R1.dd i j d1 d2 a g1 g2 h3 h4
  · obtain ⟨d1, g1⟩ := odE h1
    exact R1.d0 i d1 a g1 h2
  · rcases f.new b x h with z | z | z
    · exact .inl z
    · exact .inr (.inl z)
    · exact .inr (.inr (own_wiped z))
/-- a tracked object that is nobody's is written -/
theorem Rl.other (R : Rl K B F H env σ) {D : Addr} {o : HO} (hF : F D = none) (h0 : B.H0 D = none) (no : ¬ ownAt env σ D) : Rl K B F (upd H D o) env σ := by
  refine ⟨R.len, fun b x e => ?_, fun j => ?_, R.dist, R.sub0, R.new, fun b x e n => ?_, fun b e => ?_, R.own0, R.own1, R.lsl, R.dd, R.d0⟩
  · rw [upd_ne]
    · exact R.sub b x e
    · rintro rfl
      rw [hF] at e
      cases e
  · have s := R.sl j
    cases q : env[j]? with
    | none => trivial
    | some z =>
      rw [q] at s
      cases z with
      | un => trivial
      | val d => exact s
      | own l ds =>
        obtain ⟨a, ws, g1, g2, g3, g4⟩ := s
        refine ⟨a, ws, g1, ?_, g3, g4⟩
        rw [upd_ne]
        · exact g2
        · rintro rfl
          exact no (.inl ⟨j, l, ds, q, g1⟩)
      | dct kv =>
        obtain ⟨a, g1, g2, g3⟩ := s
        refine ⟨a, g1, ?_, g3⟩
        rw [upd_ne]
        · exact g2
        · rintro rfl
          exact no (.inr ⟨j, kv, q, g1⟩)
  · rw [upd_ne]
    · exact R.frm b x e n
    · rintro rfl
      rw [h0] at e
      cases e
  · by_cases hb : b = D
    · subst hb
      rw [upd_same]
      simp
    · rw [upd_ne hb]
      exact R.dom b e
/-- .. in a frame that begins ahead of it -/
theorem Fm.other {env0 : Ev} {F0 H0 : Hp} {D : Addr} {o : HO} (f : Fm env0 σ F0 H0 env F H) (h : H0 D = none) : Fm env0 σ F0 H0 env F (upd H D o) :=
  ⟨fun b x e n => by rw [upd_ne (ne_of_none e h)]; exact f.keep b x e n, f.sub, f.new, f.own, fun b e => by
    by_cases hb : b = D
    · subst hb
      rw [upd_same]
      simp
    · rw [upd_ne hb]
      exact f.dom b e, f.od⟩
end

section
variable {B : Bs} {W : WX} {X : Cx} {tg iter elt c : Expr} {is : List Nat} {wi : WI} {g : WG} {ct : WT} {we : WE} {pos : Pos}
/-- a comprehension's tests -/
structure DTs (B : Bs) (X : Cx) (ifs : List Expr) (w : WT) : Prop where
  pts : PTs X ifs (fun σ H Q => ∃ F env Kt, Rl X.K B F H env σ ∧ w env Kt NoX ∧ ∀ env' F' H' b, Rl X.K B F' H' env' σ → Fm env σ F H env' F' H' → Kt env' b → Q b H')
theorem dts_nil : DTs B X [] wYes := by
  refine ⟨⟨fun pins s σ H Q I ⟨F, env, Kt, R, hw, q⟩ => ?_⟩⟩
  exact pts_nil.run pins s σ H Q I (q env F H true R Fm.refl hw)
theorem DT.pt {w : WT} (h : DT B W0 X c w) : PT X c (fun σ H Q => ∃ F env Kt, Rl X.K B F H env σ ∧ w env Kt NoX ∧ ∀ env' F' H' b, Rl X.K B F' H' env' σ → Fm env σ F H env' F' H' → Kt env' b → Q b H') := by
  refine ⟨fun pins s σ H Q I ⟨F, env, Kt, R, hw, q⟩ => ?_⟩
  exact thn (h.run pins s σ F H env Kt NoX I R hw (fun _ _ _ _ _ _ _ z => z.elim)) fun b s1 ⟨env', F', H', I', R', f', k'⟩ => ⟨H', I', q env' F' H' b R' f' k'⟩
theorem dts_one {w : WT} (h : DT B W0 X c w) : DTs B X [c] w := ⟨pts_one h.pt⟩

abbrev tiW (K : PySem.W.Frag) (B : Bs) (W : WX) (wi : WI) : TI := fun σ H R => ∃ F env Ki Kx, Rl K B F H env σ ∧ wi env Ki Kx ∧ XC K B W Kx ∧ ∀ J env' F' H' ds, Rl K B F' H' env' σ → Fm env σ F H env' F' H' → GoodIt K B J F' ds → Ki env' ds → R J H'
abbrev teW (K : PySem.W.Frag) (B : Bs) (W : WX) (we : WE) : TE := fun σ H Q => ∃ F env Ke Kx, Rl K B F H env σ ∧ we env Ke Kx ∧ XC K B W Kx ∧
    ∀ v env' r F' H', Rl K B F' H' env' σ → Fm env σ F H env' F' H' → Res K B F' H' env' σ v r → Nw H v r → Ke env' r → Q v H'
abbrev ttW (K : PySem.W.Frag) (B : Bs) (ct : WT) : TT := fun σ H Q => ∃ F env Kt, Rl K B F H env σ ∧ ct env Kt NoX ∧ ∀ env' F' H' b, Rl K B F' H' env' σ → Fm env σ F H env' F' H' → Kt env' b → Q b H'
abbrev tgW (K : PySem.W.Frag) (B : Bs) (is : List Nat) (g : WG) : TG := fun v σ H Q => ∃ F env d Kn, Rl K B F H env σ ∧ Rp K F v d ∧ g d env Kn ∧ ∀ σ' env', Rl K B F H env' σ' → Agree is σ σ' → OwnSub env env' → Kn env' → Q σ' H
theorem lc_t {K : PySem.W.Frag} {is vs : List Nat} {σ : St} {F H : Hp} {env : Ev} {Ke : KE} {Kx : KXc} (his : ∀ i ∈ is, i ∈ vs) (nl : ∀ p ∈ B.all, p.1 ∉ vs) (R : Rl K B F H env σ) (h : wLc vs wi g ct we env Ke Kx) (hx : XC K B W Kx) :
    tLc (tiW K B W wi) (tgW K B is g) (ttW K B ct) (teW K B W0 we) vs σ H (fun v H' => ∃ env' r F', Rl K B F' H' env' σ ∧ Fm env σ F H env' F' H' ∧ Res K B F' H' env' σ v r ∧ Nw H v r ∧ Ke env' r) := by
  refine ⟨F, env, _, Kx, R, h, hx, fun J e1 F1 H1 ds R1 f1 good k1 => ?_⟩
  intro D hD
  have RW := R1.wiped (vs := vs) nl
  have fD := R1.freeF hD
  have D0 := R1.free0 hD
  have nD := R1.notOwn hD
  refine ⟨fun i m H2 => m = ds.length - i ∧ i ≤ ds.length ∧ ∃ F2 env2 acc ws, Rl K B F2 H2 env2 (wipe σ vs) ∧ Fm (wipeE e1 vs) (wipe σ vs) F1 H1 env2 F2 H2 ∧ H2 D = some (.lst ws) ∧ F2 D = none ∧ RpAll K F2 ws acc ∧
    wLcE vs g ct we (ds.drop i) acc env2 (fun e2 acc => Ke (restE e1 e2 vs) (.tmp acc)), ⟨ds.length, by simp, Nat.zero_le _, F1, wipeE e1 vs, [], [], RW.other fD D0 fun q => nD (own_wiped q), Fm.refl.other hD, upd_same, fD, .nil, k1⟩, ?_⟩
  rintro i m H2 ⟨rfl, hi', F2, env2, acc, ws, R2, f2, eD, fD2, ra, w2⟩
  have nD2 : ¬ ownAt env2 (wipe σ vs) D := fun q => nD (own_wiped (f2.ownAt q))
  obtain ⟨g1, g2⟩ := good F2 H2 env2 (wipe σ vs) i R2 f2.sub
  by_cases hlt : i < ds.length
  · obtain ⟨h1, h2⟩ := g1 hlt
    refine .inr ⟨h1, fun H3 => ∃ F3 env3 acc3 ws3, Rl K B F3 H3 env3 (wipe σ vs) ∧ Fm (wipeE e1 vs) (wipe σ vs) F1 H1 env3 F3 H3 ∧ H3 D = some (.lst ws3) ∧ F3 D = none ∧ RpAll K F3 ws3 acc3 ∧
      wLcE vs g ct we (ds.drop (i + 1)) acc3 env3 (fun e2 acc => Ke (restE e1 e2 vs) (.tmp acc)), fun H3 ⟨F3, env3, acc3, ws3, z⟩ => ⟨ds.length - (i + 1), by omega, rfl, hlt, F3, env3, acc3, ws3, z⟩, fun x H3 y => ?_⟩
    obtain ⟨F3, d, R3, f3, e3, rp⟩ := h2 x H3 y
    have hd : ds.drop i = d :: ds.drop (i + 1) := by
      rw [List.drop_eq_getElem_cons hlt]
      rw [List.getElem?_eq_getElem hlt] at e3
      cases e3
      rfl
    rw [hd] at w2
    have ff3 := f2.trans f3
    have eD3 : H3 D = some (.lst ws) := f3.keep D _ eD nD2
    have fD3 : F3 D = none := by
      cases z : F3 D with
      | none => rfl
      | some x =>
        rcases f3.new D x z with y | y | y
        · rw [fD2] at y; cases y
        · exact (y.lst eD).elim
        · exact absurd y nD2
    refine ⟨F3, env2, d, _, R3, rp, w2, fun σ4 env4 R4 ag os4 w4 => ?_⟩
    have ew : wipe σ4 vs = wipe σ vs := by
      have e := wipe_agree (vs := vs) (σ := wipe σ vs) (σ' := σ4) (fun j hj => ag.2 j fun z => hj (his j z)) ag.1
      rw [e]
      exact wipe_agree (fun j hj => wipe_out hj) (wipe_length _ _)
    -- ownership in the turn is ownership ahead of it
    have back : ∀ {a : Addr}, ownAt env4 σ4 a → ownAt env2 (wipe σ vs) a := fun {a} ow => by
      rcases ow with ⟨j, l, es, g1, g2⟩ | ⟨j, kv, g1, g2⟩
      · have g3 := os4.1 j l es g1
        obtain ⟨b, bs, g4, _⟩ := R2.ownSl g3
        have hj : j ∉ vs := fun z => by
          cases wipe_in z _ g4
        rw [ag.2 j fun z => hj (his j z)] at g2
        exact .inl ⟨j, l, es, g3, g2⟩
      · have g3 := os4.2 j kv g1
        have s := R2.sl j
        rw [g3] at s
        obtain ⟨b, g4, _⟩ := s
        have hj : j ∉ vs := fun z => by
          cases wipe_in z _ g4
        rw [ag.2 j fun z => hj (his j z)] at g2
        exact .inr ⟨j, kv, g3, g2⟩
    -- the frame of a turn, the block's names forgotten
    have fin : ∀ {env5 : Ev} {F5 H5 : Hp}, Rl K B F5 H5 env5 σ4 → Fm env4 σ4 F3 H3 env5 F5 H5 → Rl K B F5 H5 (wipeE env5 vs) (wipe σ vs) ∧ Fm env2 (wipe σ vs) F3 H3 (wipeE env5 vs) F5 H5 := fun {env5 F5 H5} R5 f5 => by
      have r5 := R5.wiped (vs := vs) nl
      rw [ew] at r5
      refine ⟨r5, ⟨fun b x e n => f5.keep b x e fun q => n (back q), f5.sub, fun b x e => ?_, fun j l es e => ?_, f5.dom, fun j kv e => ?_⟩⟩
      · rcases f5.new b x e with z | z | z
        · exact .inl z
        · exact .inr (.inl z)
        · exact .inr (.inr (back z))
      · by_cases hj : j ∈ vs
        · cases wipeE_in hj _ e
        · rw [wipeE_out hj] at e
          obtain ⟨ds0, g1⟩ := f5.own j l es e
          exact ⟨ds0, os4.1 j l ds0 g1⟩
      · by_cases hj : j ∈ vs
        · cases wipeE_in hj _ e
        · rw [wipeE_out hj] at e
          obtain ⟨kw, g1⟩ := f5.od j kv e
          exact ⟨kw, os4.2 j kw g1⟩
    have keepD : ∀ {env5 : Ev} {F5 H5 : Hp}, Fm env4 σ4 F3 H3 env5 F5 H5 → H5 D = some (.lst ws) ∧ F5 D = none := fun {env5 F5 H5} f5 => by
      have nD4 : ¬ ownAt env4 σ4 D := fun q => nD2 (back q)
      refine ⟨f5.keep D _ eD3 nD4, ?_⟩
      cases z : F5 D with
      | none => rfl
      | some x =>
        rcases f5.new D x z with y | y | y
        · rw [fD3] at y; cases y
        · exact (y.lst eD3).elim
        · exact absurd y nD4
    refine ⟨ew, F3, env4, _, R4, w4, fun env5 F5 H5 b R5 f5 k5 => ?_⟩
    cases b with
    | false =>
      rw [if_neg Bool.false_ne_true] at k5 ⊢
      obtain ⟨r5, m5⟩ := fin R5 f5
      obtain ⟨d1, d2⟩ := keepD f5
      exact ⟨F5, wipeE env5 vs, acc, ws, r5, ff3.trans m5, d1, d2, RpAll.mono (f3.sub.trans f5.sub) _ _ ra, k5⟩
    | true =>
      rw [if_pos rfl] at k5 ⊢
      refine ⟨F5, env5, _, NoX, R5, k5, fun _ _ _ _ _ _ _ z => z.elim, fun v env6 r F6 H6 R6 f6 q6 n6 ⟨pr, e6, hz, k6⟩ => ?_⟩
      obtain ⟨F7, R7, f7, rp7⟩ := freeze (env2 := pr.1) (d := pr.2) R6 f6 q6 n6 e6
      obtain ⟨r7, m7⟩ := fin R7 (f5.trans f7)
      obtain ⟨d1, d2⟩ := keepD (f5.trans f7)
      have nD7 : ¬ ownAt (wipeE pr.1 vs) (wipe σ vs) D := fun q => nD2 (m7.ownAt q)
      have ra7 := RpAll.mono (f3.sub.trans (f5.trans f7).sub) _ _ ra
      exact ⟨ws, d1, by rw [ra.length]; exact hz, F7, wipeE pr.1 vs, acc ++ [pr.2], ws ++ [v], r7.other d2 D0 nD7, (ff3.trans m7).other hD, upd_same, d2, ra7.append (.cons rp7 .nil), k6⟩
  · rw [List.drop_eq_nil_of_le (by omega)] at w2
    obtain ⟨r1, r2⟩ := Rl.restored R1 R2 f2 nl
    refine .inl ⟨g2 (by omega), restE e1 env2 vs, .tmp acc, F2, r1, f1.trans r2, ⟨D, ws, rfl, eD, fD2, D0, fun q => ?_, ra⟩, fun p e => ?_, w2⟩
    · exact nD (r2.ownAt q)
    · cases e
      cases z : H D with
      | none => rfl
      | some x => exact absurd hD (f1.dom D (by rw [z]; simp))
/-- [elt for tg in iter if ..] -/
theorem de_lc {ifs : List Expr} {scope : Scope} {own : List (Str × Nat)} (hi : DI B W X tg iter wi) (ok : BlkOk X.N X.env.scope scope own) (his : ∀ i ∈ is, i ∈ own.map (·.2)) (nl : ∀ p ∈ B.all, p.1 ∉ own.map (·.2)) (hN : X.N.Nodup)
    (hg : ∀ (s : Shared) (H : Hp) (C : Addr) (cl : List (Str × Addr)) (fp : List Addr), DG B (X.blk s H scope (compEnvC scope cl C X.env) fp) tg is g) (ht : ∀ (s : Shared) (H : Hp) (C : Addr) (cl : List (Str × Addr)) (fp : List Addr), DTs B (X.blk s H scope (compEnvC scope cl C X.env) fp) ifs ct)
    (he : ∀ (s : Shared) (H : Hp) (C : Addr) (cl : List (Str × Addr)) (fp : List Addr), DE B W0 (X.blk s H scope (compEnvC scope cl C X.env) fp) elt we) (hc : X.calm = true := by rfl) (hs : ∀ x, foldedSetIterable iter X.env x = pure x := by intro _; rfl) :
    DE B W X (.ListComp elt [⟨tg, iter, ifs, 0⟩] scope pos) (wLc (own.map (·.2)) wi g ct we) := by
  refine ⟨fun pins s σ F H env Ke Kx I R h hx => ?_⟩
  have pe := pe_lc (pos := pos) (elt := elt) (ifs := ifs) (te := teW X.K B W0 we) (tt := ttW X.K B ct) (g := tgW X.K B is g) hc hN hi.pi ok (fun s H C cl fp => (hg s H C cl fp).pg) (fun s H C cl fp => (ht s H C cl fp).pts) (fun s H C cl fp => (he s H C cl fp).pe) hs
  exact thn (pe.run pins s σ H (fun v H' => ∃ env' r F', Rl X.K B F' H' env' σ ∧ Fm env σ F H env' F' H' ∧ Res X.K B F' H' env' σ v r ∧ Nw H v r ∧ Ke env' r) I (lc_t his nl R h hx)) fun u s1 ⟨v, H', I', rv, env', r, F', h1, h2, h3, h4, h5⟩ => ⟨v, env', r, F', H', I', rv, h1, h2, h3, h4, h5⟩
theorem lc_mono {K : PySem.W.Frag} {tgx : TG} {ttx : TT} {tex : TE} {vs : List Nat} {σ : St} {H : Hp} {Q Q' : VK} (hQ : ∀ v H, Q v H → Q' v H) (h : tLc (tiW K B W wi) tgx ttx tex vs σ H Q) : tLc (tiW K B W wi) tgx ttx tex vs σ H Q' := by
  obtain ⟨F, env, Ki, Kx, R, hw, hx, q⟩ := h
  exact ⟨F, env, Ki, Kx, R, hw, hx, fun J e1 F1 H1 ds R1 f1 g k D hD => let ⟨Wi, w0, hW⟩ := q J e1 F1 H1 ds R1 f1 g k D hD; ⟨Wi, w0, fun i m H w => (hW i m H w).imp (fun ⟨a, b⟩ => ⟨a, hQ _ _ b⟩) id⟩⟩
/-- x = [elt for tg in iter if ..] on one line, x a local -/
theorem ds_setLc (i : Nat) {y : Str} {py spos : Pos} {ifs : List Expr} {scope : Scope} {own : List (Str × Nat)} (hi : DI B W X tg iter wi) (ok : BlkOk X.N X.env.scope scope own) (his : ∀ i ∈ is, i ∈ own.map (·.2)) (nl : ∀ p ∈ B.all, p.1 ∉ own.map (·.2)) (nli : ∀ p ∈ B.all, p.1 ≠ i) (hN : X.N.Nodup)
    (hg : ∀ (s : Shared) (H : Hp) (C : Addr) (cl : List (Str × Addr)) (fp : List Addr), DG B (X.blk s H scope (compEnvC scope cl C X.env) fp) tg is g) (ht : ∀ (s : Shared) (H : Hp) (C : Addr) (cl : List (Str × Addr)) (fp : List Addr), DTs B (X.blk s H scope (compEnvC scope cl C X.env) fp) ifs ct)
    (he : ∀ (s : Shared) (H : Hp) (C : Addr) (cl : List (Str × Addr)) (fp : List Addr), DE B W0 (X.blk s H scope (compEnvC scope cl C X.env) fp) elt we)
    (hy : X.N[i]? = some y := by rfl) (hk : X.env.scope.kind = .function := by rfl) (hyl : X.env.scope.names.lookup y = some .local := by rfl) (hl : (py.line == pos.line) = true := by rfl) (ha : (scope.names.any fun (n, k) => n == y && (k == .local || k == .cell)) = false := by rfl)
    (hc : X.calm = true := by rfl) (hs : ∀ x, foldedSetIterable iter X.env x = pure x := by intro _; rfl) :
    DS B W X (.Assign [.Name y py] (.ListComp elt [⟨tg, iter, ifs, 0⟩] scope pos) spos) (wSet i (wLc (own.map (·.2)) wi g ct we)) := by
  refine ⟨fun pins s σ F H env k I R h hx => ?_⟩
  have ps := ps_setLc (spos := spos) (py := py) (pos := pos) (elt := elt) (ifs := ifs) (te := teW X.K B W0 we) (tt := ttW X.K B ct) (g := tgW X.K B is g) hc hN hy hyl (sw_true hk hyl hl ha) hi.pi ok (fun s H C cl fp => (hg s H C cl fp).pg) (fun s H C cl fp => (ht s H C cl fp).pts) (fun s H C cl fp => (he s H C cl fp).pe) hs
  refine thn (ps.run pins s σ H (endsD X.K B F k) I ?_) fun f s1 h1 => SP.spd h1
  have h' : wLc (own.map (·.2)) wi g ct we env (fun e r => asg i e r k.nx) k.ex := h
  refine lc_mono (fun v H' ⟨env', r, F', g1, g2, g3, g4, g5⟩ => ?_) (lc_t (vs := own.map (·.2)) (is := is) his nl R h' hx)
  have hi2 : i < σ.length := by rw [I.len]; exact (List.getElem?_eq_some_iff.mp hy).1
  obtain ⟨e2, F2, k1, k2, k3⟩ := asg_ok g1 hi2 nli g3 g5
  exact ⟨e2, F2, k1, g2.sub.trans k2, k3⟩

end
end Dl
end L2

/-! The D layer, 11: a def keeps its promise; the law's own end. -/
namespace L2
namespace Dl
open PySem PySem.Spec PyProof.Rows

def slOf : AV → Sl
  | .val d => .val d
  | .own ds => .own true ds
def startEv (n : Nat) (avs : List AV) : Ev := avs.map slOf ++ List.replicate (n - avs.length) .un
/-- the places of the lent ones -/
def lsFrom : Nat → List AV → List Nat
  | _, [] => []
  | i, .val _ :: as => lsFrom (i + 1) as
  | i, .own _ :: as => i :: lsFrom (i + 1) as
def outsOf (env : Ev) : List Nat → Option (List (List PyData))
  | [] => some []
  | i :: is => match env[i]? with
    | some (.own true ds) => (outsOf env is).map (ds :: ·)
    | _ => none
def retV (env : Ev) : Rs → Option Rv
  | .val d => some (.val d)
  | .tmp ds => some (.own ds)
  | .slot i => match env[i]? with
    | some (.val d) => some (.val d)
    | some (.own false ds) => some (.own ds)
    | _ => none
def kenD (ls : List Nat) (Kr : List (List PyData) → Rv → Prop) (Kx : List (List PyData) → XD → Prop) : Ken where
  nx := fun env => ∃ outs, outsOf env ls = some outs ∧ Kr outs (.val .none)
  rt := fun env r => ∃ outs v, outsOf env ls = some outs ∧ retV env r = some v ∧ Kr outs v
  bk := fun _ => False
  ct := fun _ => False
  ex := fun env x => ∃ outs, outsOf env ls = some outs ∧ Kx outs x
section
variable {K : PySem.W.Frag} {B : Bs} {F H : Hp}
theorem lsFrom_len (vs : List V) : ∀ (avs : List AV) (i : Nat) (vs : List V), ArgsR K F H vs avs → (lsFrom i avs).length = (lentAs vs avs).length := by
  intro avs
  induction avs with
  | nil => intro i vs h; cases h; rfl
  | cons a avs ih =>
    intro i vs h
    cases h with
    | @val v vs' d as h1 h2 =>
      have hl : lentAs (v :: vs') (.val d :: avs) = lentAs vs' avs := by cases v <;> rfl
      rw [hl]
      exact ih (i + 1) vs' h2
    | @own a ws vs' ds as h1 h2 h3 h4 =>
      show (lsFrom (i + 1) avs).length + 1 = (lentAs vs' avs).length + 1
      rw [ih (i + 1) vs' h4]
/-- the slots of the parameters at the entry -/
theorem start_sl : ∀ (avs : List AV) (vs : List V) (j : Nat), ArgsR K F H vs avs → slR K F H (avs.map slOf)[j]? (vs.map some)[j]?
  | [], _, _, h => by cases h; trivial
  | .val d :: as, _, 0, h => by
    cases h with
    | @val v _ _ _ h1 h2 => exact ⟨v, rfl, h1⟩
  | .own ds :: as, _, 0, h => by
    cases h with
    | @own a ws _ _ _ h1 h2 h3 h4 => exact ⟨a, ws, rfl, h1, h2, h3⟩
  | .val d :: as, _, j + 1, h => by
    cases h with
    | @val v vs' _ _ h1 h2 => exact start_sl as vs' j h2
  | .own ds :: as, _, j + 1, h => by
    cases h with
    | @own a ws vs' _ _ h1 h2 h3 h4 => exact start_sl as vs' j h4
/-- own slots at the entry are the lent ones -/
theorem start_own : ∀ (avs : List AV) (vs : List V) (i j : Nat) (l : Bool) (ds : List PyData) (a : Addr), ArgsR K F H vs avs → (avs.map slOf)[j]? = some (Sl.own l ds) → (vs.map some)[j]? = some (some (V.ref a)) → l = true ∧ (i + j, a) ∈ (lsFrom i avs).zip (lentAs vs avs)
  | [], _, _, _, _, _, _, h, e, _ => by simp at e
  | .val d :: as, _, i, 0, l, ds, a, h, e, e2 => by simp [slOf] at e
  | .own es :: as, _, i, 0, l, ds, a, h, e, e2 => by
    cases h with
    | @own b ws vs' _ _ h1 h2 h3 h4 =>
      simp only [List.map_cons, slOf, List.getElem?_cons_zero, Option.some.injEq, Sl.own.injEq] at e
      simp only [List.map_cons, List.getElem?_cons_zero, Option.some.injEq, V.ref.injEq] at e2
      subst e2
      exact ⟨e.1.symm, List.mem_cons_self⟩
  | .val d :: as, _, i, j + 1, l, ds, a, h, e, e2 => by
    cases h with
    | @val v vs' _ _ h1 h2 =>
      obtain ⟨g1, g2⟩ := start_own as vs' (i + 1) j l ds a h2 (by simpa using e) (by simpa using e2)
      have hl : lentAs (v :: vs') (.val d :: as) = lentAs vs' as := by cases v <;> rfl
      rw [hl]
      refine ⟨g1, ?_⟩
      have e3 : i + (j + 1) = i + 1 + j := by omega
      rw [e3]
      exact g2
  | .own es :: as, _, i, j + 1, l, ds, a, h, e, e2 => by
    cases h with
    | @own b ws vs' _ _ h1 h2 h3 h4 =>
      obtain ⟨g1, g2⟩ := start_own as vs' (i + 1) j l ds a h4 (by simpa using e) (by simpa using e2)
      refine ⟨g1, ?_⟩
      have e3 : i + (j + 1) = i + 1 + j := by omega
      rw [e3]
      exact List.mem_cons_of_mem _ g2
theorem lent_at : ∀ (avs : List AV) (vs : List V) (i : Nat) (p : Nat × Addr), ArgsR K F H vs avs → p ∈ (lsFrom i avs).zip (lentAs vs avs) → ∃ j, p.1 = i + j ∧ (vs.map some)[j]? = some (some (V.ref p.2))
  | [], _, _, _, h, hp => by cases h; cases hp
  | .val d :: as, _, i, p, h, hp => by
    cases h with
    | @val v vs' _ _ h1 h2 =>
      have hl : lentAs (v :: vs') (.val d :: as) = lentAs vs' as := by cases v <;> rfl
      rw [hl] at hp
      obtain ⟨j, e1, e2⟩ := lent_at as vs' (i + 1) p h2 hp
      exact ⟨j + 1, by omega, by simpa using e2⟩
  | .own ds :: as, _, i, p, h, hp => by
    cases h with
    | @own b ws vs' _ _ h1 h2 h3 h4 =>
      rcases List.mem_cons.mp hp with z | z
      · subst z
        exact ⟨0, rfl, rfl⟩
      · obtain ⟨j, e1, e2⟩ := lent_at as vs' (i + 1) p h4 z
        exact ⟨j + 1, by omega, by simpa using e2⟩
theorem zip_snd_inj : ∀ {is : List Nat} {as : List Addr}, as.Nodup → ∀ {i j : Nat} {a : Addr}, (i, a) ∈ is.zip as → (j, a) ∈ is.zip as → i = j
  | [], _, _, _, _, _, h, _ => by cases h
  | _ :: _, [], _, _, _, _, h, _ => by cases h
  | k :: is, b :: as, nd, i, j, a, h1, h2 => by
    have nd' := List.nodup_cons.mp nd
    have hin : ∀ {i : Nat} {c : Addr}, (i, c) ∈ is.zip as → c ∈ as := fun h => (List.of_mem_zip h).2
    rcases List.mem_cons.mp h1 with z1 | z1
    · cases z1
      rcases List.mem_cons.mp h2 with z2 | z2
      · cases z2; rfl
      · exact absurd (hin z2) nd'.1
    · rcases List.mem_cons.mp h2 with z2 | z2
      · cases z2
        exact absurd (hin z1) nd'.1
      · exact zip_snd_inj nd'.2 z1 z2
theorem start_nodct (avs : List AV) (n i : Nat) (kv : List (List Int × PyData)) (h : (startEv n avs)[i]? = some (Sl.dct kv)) : False := by
  unfold startEv at h
  by_cases hj : i < avs.length
  · rw [List.getElem?_append_left (by simpa using hj), List.getElem?_map] at h
    cases q : avs[i]? with
    | none => rw [q] at h; cases h
    | some a => rw [q] at h; cases a <;> cases h
  · rw [List.getElem?_append_right (by simp; omega)] at h
    simp only [List.length_map, List.getElem?_replicate] at h
    split at h <;> cases h
theorem start_rl {mg : Str → Option Value} {N : List Str} {vs : List V} {avs : List AV} (s : Same F H) (h : ArgsR K F H vs avs) (nd : (lentAs vs avs).Nodup) (hl : avs.length ≤ N.length) :
    Rl K { H0 := H, F0 := F, lent := (lsFrom 0 avs).zip (lentAs vs avs), mg := mg } F H (startEv N.length avs) (start N vs) := by
  have e1 := h.length
  have env_at : ∀ (j : Nat) (l : Bool) (ds : List PyData), (startEv N.length avs)[j]? = some (Sl.own l ds) → j < avs.length ∧ (avs.map slOf)[j]? = some (Sl.own l ds) := fun j l ds q => by
    unfold startEv at q
    by_cases hj : j < avs.length
    · rw [List.getElem?_append_left (by simpa using hj)] at q
      exact ⟨hj, q⟩
    · rw [List.getElem?_append_right (by simp; omega)] at q
      simp only [List.length_map, List.getElem?_replicate] at q
      split at q <;> cases q
  have st_at : ∀ j, j < avs.length → (start N vs)[j]? = (vs.map some)[j]? := fun j hj => by
    unfold start
    rw [List.getElem?_append_left (by simp; omega)]
  refine ⟨?_, s, fun j => ?_, fun i j l m ds es a h1 h2 h3 h4 => ?_, fun _ _ h => h, fun b x q => .inl q, fun b x q _ => q, fun b q => q, fun i ds a h1 h2 => ?_, fun i ds a h1 h2 => ?_, fun p hp => ?_, fun i j kv kw a h1 => (start_nodct avs N.length i kv h1).elim, fun i kv a h1 => (start_nodct avs N.length i kv h1).elim⟩
  · unfold startEv start
    simp only [List.length_append, List.length_map, List.length_replicate]
    omega
  · by_cases hj : j < avs.length
    · rw [st_at j hj]
      unfold startEv
      rw [List.getElem?_append_left (by simpa using hj)]
      exact start_sl avs vs j h
    · unfold startEv
      rw [List.getElem?_append_right (by simp; omega)]
      simp only [List.getElem?_replicate]
      split <;> trivial
  · obtain ⟨l1, g1⟩ := env_at i l ds h1
    obtain ⟨l2, g2⟩ := env_at j m es h2
    rw [st_at i l1] at h3
    rw [st_at j l2] at h4
    have k1 := (start_own avs vs 0 i l ds a h g1 h3).2
    have k2 := (start_own avs vs 0 j m es a h g2 h4).2
    have := zip_snd_inj nd k1 k2
    omega
  · obtain ⟨l1, g1⟩ := env_at i false ds h1
    rw [st_at i l1] at h2
    cases (start_own avs vs 0 i false ds a h g1 h2).1
  · obtain ⟨l1, g1⟩ := env_at i true ds h1
    rw [st_at i l1] at h2
    exact ⟨_, (start_own avs vs 0 i true ds a h g1 h2).2, rfl⟩
  · obtain ⟨j, g1, g2⟩ := lent_at avs vs 0 p h ((List.append_nil _).subst (motive := fun l => p ∈ l) hp)
    have hj : j < avs.length := by
      have := (List.getElem?_eq_some_iff.mp g2).1
      simp at this
      omega
    have e : p.1 = j := by omega
    rw [e, st_at j hj]
    exact g2
/-- the lent lists at the end -/
theorem outs_at {env : Ev} {σ : St} (R : Rl K B F H env σ) : ∀ (is : List Nat) (as : List Addr) (outs : List (List PyData)), is.length = as.length → (∀ p ∈ is.zip as, p ∈ B.lent) → outsOf env is = some outs → OutsR K F H as outs
  | [], [], outs, _, _, e => by
    simp only [outsOf, Option.some.injEq] at e
    subst e
    exact .nil
  | [], _ :: _, _, hl, _, _ => by cases hl
  | _ :: _, [], _, hl, _, _ => by cases hl
  | i :: is, a :: as, outs, hl, hm, e => by
    simp only [outsOf] at e
    split at e
    · rename_i ds e0
      simp only [Option.map_eq_some_iff] at e
      obtain ⟨o, e1, rfl⟩ := e
      obtain ⟨b, ws, g1, g2, g3, g4⟩ := R.ownSl e0
      have g5 := R.lsl (i, a) (List.mem_append_left _ (hm _ List.mem_cons_self))
      rw [g1] at g5
      cases g5
      exact .cons ⟨ws, g2, g3, g4⟩ (outs_at R is as o (by simpa using hl) (fun p hp => hm p (List.mem_cons_of_mem _ hp)) e1)
    · cases e
theorem ret_at {env : Ev} {σ : St} {v : V} {r : Rs} {x : Rv} (R : Rl K B F H env σ) (q : Res K B F H env σ v r) (e : retV env r = some x) : RvR K B.H0 F H v x := by
  cases r with
  | val d =>
    cases e
    exact q
  | tmp ds =>
    cases e
    obtain ⟨p, vs, h1, h2, h3, h4, h5, h6⟩ := q
    exact ⟨p, vs, h1, h2, h3, h4, h6⟩
  | slot i =>
    simp only [retV] at e
    have q' : σ[i]? = some (some v) := q
    split at e
    · rename_i d e0
      cases e
      have s := R.sl i
      rw [e0] at s
      obtain ⟨w, h1, h2⟩ := s
      rw [q'] at h1
      cases h1
      exact h2
    · rename_i ds e0
      cases e
      obtain ⟨a, ws, g1, g2, g3, g4⟩ := R.ownSl e0
      rw [q'] at g1
      cases g1
      exact ⟨a, ws, rfl, g2, g3, R.own0 i ds a e0 q', g4⟩
    · cases e
end
section
variable {P : Program} {w : World} {K : PySem.W.Frag} {mg : Str → Option Value} {base : Heap}
theorem aft_of {F H F' H' : Hp} {vs : List V} {avs : List AV} {env : Ev} {σ : St} {outs : List (List PyData)} (h : ArgsR K F H vs avs) (R : Rl K { H0 := H, F0 := F, lent := (lsFrom 0 avs).zip (lentAs vs avs), mg := mg } F' H' env σ) (e : outsOf env (lsFrom 0 avs) = some outs) :
    Aft K F H (lentAs vs avs) F' H' outs :=
  ⟨R.sub0, R.sub, fun b x q n => R.frm b x q fun p hp z => n (by rw [← z]; exact (List.of_mem_zip hp).2), R.dom, R.new, outs_at R _ _ _ (lsFrom_len vs avs 0 vs h) (fun p hp => hp) e⟩
theorem tk0 {X : Cx} : L2N.Takes X (fun _ _ _ _ => False) := fun u s' ⟨_, _, _, _, _, _, _, _, h⟩ => h.2.2.2.2.2.2.2.2.elim
theorem fun_okN {x qual : Str} {st : Stmt} {f : Addr} {fd : FuncData} {N ps : List Str} {k : Nat} {sp : Sp} (F : Fun K x qual st f fd) (S : FnScope N ps (defScope st)) (len : ∀ vs H Q E, sp vs H Q E → vs.length = ps.length)
    (body : ∀ (cdv : Value) (A : Around) (outer : List Env) (s : Shared) (H : Hp) (vs : List V) (Q : VK) (E : XK), Room k (A.deeper (envOfC qual (defScope st) s.heap.objs.size f cdv)) → sp vs H Q E →
      ∃ t, PSs (cxOf (L2N.CX P w) P w K mg base N qual (defScope st) f cdv A outer s H E) (defBody st) t ∧ t { nx := fun _ H' => Q .non H', rt := Q } (start N vs) H) : FnOk P w K mg base (L2N.CX P w) (k + 1) f fd ps sp := by
  obtain ⟨_, _, _, _, _, _, c, _, _, e, l, h⟩ := F.ex
  subst e
  exact fn_of l h S len fun A outer s H vs Q E r q => body c A outer s H vs Q E r q
/-- THE RULE for a def -/
theorem def_ok {x qual : Str} {st : Stmt} {f : Addr} {fd : FuncData} {N ps : List Str} {k : Nat} (F : Fun K x qual st f fd) (S : FnScope N ps (defScope st)) {ls : List Nat} {spec : Spc} {wb : WS}
    (hbody : ∀ (cdv : Value) (A : Around) (outer : List Env) (s : Shared) (H : Hp) (E : XK) (B : Bs), Room k (A.deeper (envOfC qual (defScope st) s.heap.objs.size f cdv)) → B.mg = mg → B.all.map (·.1) = ls →
      L2N.Takes (cxOf (L2N.CX P w) P w K mg base N qual (defScope st) f cdv A outer s H E) (fun cls d _ H => E cls d H) →
      PassesOwn (model P w) (A.deeper (envOfC qual (defScope st) s.heap.objs.size f cdv)) (envOfC qual (defScope st) s.heap.objs.size f cdv) (cxOf (L2N.CX P w) P w K mg base N qual (defScope st) f cdv A outer s H E).xe →
      DSs B (fun cls d _ H => E cls d H) (cxOf (L2N.CX P w) P w K mg base N qual (defScope st) f cdv A outer s H E) (defBody st) wb)
    (vc : ∀ avs Kr Kx, avs.length = ps.length → spec avs Kr Kx → lsFrom 0 avs = ls ∧ wb (startEv N.length avs) (kenD ls Kr Kx)) : FnOk P w K mg base (L2N.CX P w) (k + 1) f fd ps (low K mg ps.length spec) := by
  refine fun_okN F S (fun vs H Q E h => ?_) (fun cdv A outer s H vs Q E hr h => ?_)
  · obtain ⟨F0, avs, Kr, Kx, h1, h2, h3, h4, h5⟩ := h
    rw [h2.length, h4]
  · obtain ⟨F0, avs, Kr, Kx, h1, h2, h3, h4, h5, h6, h7⟩ := h
    obtain ⟨v1, v2⟩ := vc avs Kr Kx h4 h5
    have hN : avs.length ≤ N.length := by
      rw [h4, ← S.pre, List.length_take]
      exact Nat.min_le_right _ _
    have R0 := start_rl (mg := mg) (N := N) h1 h2 h3 hN
    have hl := lsFrom_len vs avs 0 vs h2
    have bd := hbody cdv A outer s H E { H0 := H, F0 := F0, lent := (lsFrom 0 avs).zip (lentAs vs avs), mg := mg } hr rfl (by show List.map Prod.fst ((lsFrom 0 avs).zip (lentAs vs avs) ++ []) = ls; rw [List.append_nil, ← v1, List.map_fst_zip (by omega)]) (L2N.takes_of rfl rfl rfl rfl) (passes_of rfl)
    refine ⟨_, bd.pss, F0, startEv N.length avs, kenD ls Kr Kx, R0, v2, fun σ env y cls d F' H' ⟨outs, e1, k1⟩ R' xr => ?_, fun σ' env' F' H' R' _ ⟨outs, e1, k1⟩ => ?_, fun v σ' env' r F' H' R' res ⟨outs, rv, e1, e2, k1⟩ => ?_, fun _ _ _ _ _ _ z => z.elim, fun _ _ _ _ _ _ z => z.elim⟩
    · exact h7 outs y cls d F' H' (aft_of h2 R' (by rw [v1]; exact e1)) xr k1
    · exact h6 outs (.val .none) F' H' .non (aft_of h2 R' (by rw [v1]; exact e1)) .non k1
    · exact h6 outs rv F' H' v (aft_of h2 R' (by rw [v1]; exact e1)) (ret_at R' res e2) k1
theorem cal_of {x : Str} {st : Stmt} {qual : Str} {f : Addr} {fd : FuncData} {ps : List Str} {k : Nat} {spec : Spc} (F : Fun K x qual st f fd) (hm : mg x = some (.ref f)) (hb : Binds K fd ps []) (h : FnOk P w K mg base (L2N.CX P w) k f fd ps (low K mg ps.length spec)) : Cal P w K mg base k x ps.length spec :=
  ⟨f, fd, ps, rfl, hm, F.kp, hb, h⟩
theorem Cal.mono {j k n : Nat} {x : Str} {S : Spc} (c : Cal P w K mg base j x n S) (h : j ≤ k) : Cal P w K mg base k x n S := by
  obtain ⟨f, fd, ps, h0, h1, h2, h3, h4⟩ := c
  exact ⟨f, fd, ps, h0, h1, h2, h3, h4.mono h⟩
/-- a weaker promise -/
theorem Cal.imp {k n : Nat} {x : Str} {S S' : Spc} (c : Cal P w K mg base k x n S) (h : ∀ avs Kr Kx, S' avs Kr Kx → S avs Kr Kx) : Cal P w K mg base k x n S' := by
  obtain ⟨f, fd, ps, h0, h1, h2, h3, h4⟩ := c
  exact ⟨f, fd, ps, h0, h1, h2, h3, h4.imp fun vs H Q E ⟨F, avs, Kr, Kx, g1, g2, g3, g4, g5, g6⟩ => ⟨F, avs, Kr, Kx, g1, g2, g3, g4, h _ _ _ g5, g6⟩⟩
end
/-- a place that is not lent -/
theorem nl {B : Bs} {ls : List Nat} (h : B.all.map (·.1) = ls) {i : Nat} (n : i ∉ ls) : ∀ p ∈ B.all, p.1 ≠ i := fun p hp e => n (by rw [← h, ← e]; exact List.mem_map_of_mem hp)
theorem nls {B : Bs} {ls : List Nat} (h : B.all.map (·.1) = ls) {vs : List Nat} (n : ∀ i ∈ ls, i ∉ vs) : ∀ p ∈ B.all, p.1 ∉ vs := fun p hp => n _ (by rw [← h]; exact List.mem_map_of_mem hp)

/-! ### the law -/
/-- the law's promise: from a script of at most 63 ints: True -/
def spLaw : Spc := fun avs Kr _ => ∃ ns : List Int, avs = [.val (.list (ns.map .int))] ∧ ns.length ≤ 63 ∧ Kr [] (.val (.bool true))
end Dl
end L2

/-! The D layer, 12: sorted, sets. -/
namespace L2
namespace Dl
open PySem PySem.Spec PyProof.Rows
def dLe : PyData → PyData → Bool := PySem.W.dataLe false id
def Srts (ds : List PyData) : Prop := PySem.W.AllAlike ds ∧ PySem.W.Sortable ds ∧ ∀ d ∈ ds, SeqAt.shaped d = true
def oSorted : OpN := fun ds K => match ds with
  | [.list xs] => Srts xs ∧ K (.tmp (xs.mergeSort dLe))
  | [.tuple xs] => Srts xs ∧ K (.tmp (xs.mergeSort dLe))
  | _ => False
section
open PySem.Calls PySem.Builtin PySem.Builtin.List
variable {prog : Program} {w : World} {A : Around} {E : Value → Shared → Prop} {s : Shared}
/-- a tuple's items, on a new list -/
theorem collectT {l : Addr} {vs : List Value} {Q : List Value → Shared → Prop} (hl : s.heap.IsTuple l vs.toArray)
    (h : Q vs { s with heap := (s.heap.push (seqObj "list" #[] 0)).update s.heap.objs.size (Obj.mapSeq (· ++ vs.toArray)) }) (hsz : vs.length ≤ sizeLine) :
    wpAny (model prog w) A (collect (.ref l)) Q E s := by
  obtain ⟨o, ho, hc, n, hd⟩ := id hl
  unfold collect
  refine wpAny_bind (wpAny_runValue (codeAny_builtin entry_proto_collect' ?_))
  show wpAny _ _ (do again (.builtin "list.__iadd__" ⟨[← newList [], .ref l], []⟩)) _ _ s
  refine wpAny_bind (wpAny_newList (wpAny_pure ⟨Code.quiet_builtin _ (by decide +kernel), codeAny_builtin entry_list_iadd' ?_⟩))
  show wpAny _ _ (Builtin.List.listExtendWith (.ref s.heap.objs.size) (.ref l) (.ref s.heap.objs.size)) _ _ { s with heap := s.heap.push (seqObj "list" #[] 0) }
  unfold Builtin.List.listExtendWith
  have ho' : (s.heap.push (seqObj "list" #[] 0)).get? l = some o := Heap.get?_push_of_some _ ho
  refine wpAny_bind (wpAny_typeOf (T := "tuple") ⟨o, ho', hc⟩ ?_)
  have ht : (Value.type "tuple" == Value.type "tuple") = true := by rfl
  rw [if_pos (by rw [ht]; simp)]
  refine wpAny_bind (listItems_at ho' hd ?_)
  refine wpAny_bind (listItems_at (xs := #[]) (n := 0) (Heap.get?_push_size _ rfl) rfl ?_)
  rw [if_neg (by simp)]
  refine wpAny_bind (listUpdate_at (xs := #[]) (n := 0) (Heap.get?_push_size _ rfl) rfl ?_ (Nat.zero_le _) (by show (#[] ++ vs.toArray).size ≤ sizeLine + 1; simp only [Array.size_append, List.size_toArray, List.length_nil]; omega))
  refine wpAny_pure ?_
  show wpAny (model prog w) A (do
      let o ← load s.heap.objs.size
      match o.data with
      | .seq xs _ => pure xs.toList
      | _ => unsupported "internal:collect") Q E { s with heap := (s.heap.push (seqObj "list" #[] 0)).update s.heap.objs.size (Obj.mapSeq (· ++ vs.toArray)) }
  refine wpAny_bind (wpAny_load (get?_update_seq (Heap.get?_push_size _ rfl) _) ?_)
  show wpAny _ _ (pure ((#[] : Array Value) ++ vs.toArray).toList) Q E _
  rw [show ((#[] : Array Value) ++ vs.toArray).toList = vs by simp]
  exact wpAny_pure h
/-- sorted(xs), xs a tuple -/
theorem sortedT {l : Addr} {vs : List Value} {ds : List PyData} {R : Value → PyData → Prop} {Q : Value → Shared → Prop} (hl : s.heap.IsTuple l vs.toArray) (e : PySem.W.EachIs R vs ds) (er : PySem.W.EachIs (fun v b => ∃ as, Reads s.heap v b as) vs ds) (hal : PySem.W.AllAlike ds) (hk : PySem.W.Sortable ds) (hL : ds.length ≤ sizeLine)
    (hu : ∀ b, b ∈ ds → A.units + 2 + b.depth < cLine) (h : ∀ out, out.length = ds.length → PySem.W.EachIs R out (ds.mergeSort (PySem.W.dataLe false id)) → Q (.ref (s.heap.objs.size + 1)) { s with heap := sortedAll s.heap vs (List.toArray out) }) :
    wpAny (model prog w) A (call (.builtin "sorted") [.ref l]) Q E s := by
  have hL2 : vs.length ≤ sizeLine := by rw [e.length]; exact hL
  have er' : PySem.W.EachIs (fun v b => ∃ as, Reads (PySem.W.sortingHeap (PySem.W.copyHeap s.heap vs) (s.heap.objs.size + 1) vs) v (id b) as) vs ds := er.mono fun _ _ ⟨as, r⟩ => ⟨as, PyProof.Rows.Reads.keeps (fun _ _ => PySem.W.sorting_copy_old) r⟩
  refine call_function_entry_kw kind_sorted plain_sorted entry_sorted (args_sorted1 _) ?_
  unfold Builtin.«sorted»
  refine wpAny_bind (m := checkCount "sorted" 1 1 _) (wpAny_pure ?_)
  refine wpAny_bind (collectT hl ?_ hL2)
  refine wpAny_bind (wpAny_newList ?_ hL2)
  have hsz : ((s.heap.push (seqObj "list" #[] 0)).update s.heap.objs.size (Obj.mapSeq (· ++ vs.toArray))).objs.size = s.heap.objs.size + 1 := by
    rw [Heap.size_update, size_push']
  show wpAny _ _ _ _ _ { s with heap := PySem.W.copyHeap s.heap vs }
  rw [hsz]
  refine wpAny_bind (wpAny_holding (wpAny_call_entry_kw slot_list_sort ⟨_, PySem.W.copyHeap_at s.heap vs, rfl⟩ entry_list_sort ?body (args_list_sort _)))
  case body =>
    show wpAny (model prog w) A.in1.in1 (Builtin.«list.sort» ⟨[.ref (s.heap.objs.size + 1)], []⟩) _ _ _
    refine wpAny_mono (PySem.W.list_sort_vals (s := { s with heap := PySem.W.copyHeap s.heap vs }) (P := fun f s' => f = .done (.ret .none) ∧ Q (.ref (s.heap.objs.size + 1)) s') (PySem.W.copyHeap_at s.heap vs) (PySem.W.SortsAt.data (s := { s with heap := PySem.W.sortingHeap (PySem.W.copyHeap s.heap vs) (s.heap.objs.size + 1) vs }) (PySem.W.each_map (R := fun v d => ∃ as, Reads (PySem.W.sortingHeap (PySem.W.copyHeap s.heap vs) (s.heap.objs.size + 1) vs) v d as) id er') (by rwa [List.map_id]) (by rwa [List.map_id]) (PySem.W.bound_map hu)) hL2 ⟨rfl, h _ (by rw [PySem.W.sortVals_length false rfl]; exact e.length) (PySem.W.sortVals_data false e er' (by rwa [List.map_id]))⟩) (fun f s' hf => ?_) fun _ _ e => e
    obtain ⟨rfl, hq⟩ := hf
    exact ⟨_, rfl, wpAny_pure ⟨_, rfl, hq⟩⟩
end
section
variable {X : Cx}
theorem each_out {K : PySem.W.Frag} {F : Hp} : ∀ {us : List Value} {ds : List PyData}, PySem.W.EachIs (fun v d => ∃ x, RelV x v ∧ Rp K F x d) us ds → ∃ xs, Vals xs us ∧ RpAll K F xs ds
  | _, _, .nil => ⟨[], .nil, .nil⟩
  | _, _, .cons ⟨x, h1, h2⟩ t => by
    obtain ⟨xs, a, b⟩ := each_out t
    exact ⟨x :: xs, .cons h1 a, .cons h2 b⟩
theorem each_in {K : PySem.W.Frag} {F : Hp} : ∀ {xs : List V} {us : List Value} {ds : List PyData}, Vals xs us → RpAll K F xs ds → PySem.W.EachIs (fun v d => ∃ x, RelV x v ∧ Rp K F x d) us ds
  | [], _, _, .nil, h => by cases h; exact .nil
  | x :: xs, _, _, .cons r t, h => by
    cases h with
    | cons a b => exact .cons ⟨x, r, a⟩ (each_in t b)
theorem each_mem {R : Value → PyData → Prop} {S : Value → PyData → Prop} : ∀ {us : List Value} {ds : List PyData}, (∀ v d, d ∈ ds → R v d → S v d) → PySem.W.EachIs R us ds → PySem.W.EachIs S us ds
  | _, _, _, .nil => .nil
  | _, _, h, .cons a t => .cons (h _ _ List.mem_cons_self a) (each_mem (fun v d m => h v d (List.mem_cons_of_mem _ m)) t)
theorem dcl_sorted (hu : X.A.units + 67 < cLine) : DCl X (.builtin "sorted") oSorted := by
  refine ⟨fun B F env pins s σ H xs us ds Kr I rx R hx q => ?_⟩
  unfold oSorted at q
  split at q
  · rename_i ds
    obtain ⟨⟨q1, q2, q3⟩, q4⟩ := q
    obtain ⟨v, rfl, hv⟩ := hx.one
    obtain ⟨a, vs, rfl, hs, ha⟩ := hv.list R.sub
    obtain ⟨its, rv, hl, hz⟩ := I.list hs
    rw [Vals.ref1 rx]
    have ev : vs.length = ds.length := ha.length
    have e1 := each_in rv ha
    have er : PySem.W.EachIs (fun v b => ∃ as, Reads s.heap v (id b) as) its ds := each_mem (fun v d hd ⟨x, h1, h2⟩ => Dp.reads I _ x v (Rt.dp R.sub (.inl h2) (q3 d hd)) h1) e1
    refine PySem.W.sorted_data (enc := id) (bs := ds) (vs := its) (R := fun v d => ∃ x, RelV x v ∧ Rp X.K F x d) hl.isList e1 er (by rwa [List.map_id]) (by rwa [List.map_id]) (by rw [← ev]; exact hz) (fun b hb => ?_) (fun out ho h1 => ?_)
    · have := SeqAt.depth_of_shaped (q3 b hb)
      show _ + 2 + b.depth < _
      omega
    · obtain ⟨ys, g1, g2⟩ := each_out h1
      obtain ⟨ep, he'⟩ := PyProof.Rows.sortedAll_at s.heap its out.toArray
      have hlen : ys.length ≤ sizeLine := by rw [g2.length, List.length_mergeSort, ← ev]; exact hz
      have hn : H (s.heap.objs.size + 1) = none := I.hok.fresh (Nat.le_succ _)
      obtain ⟨r, F', k1, k2, k3, k4, k5⟩ := new_lst (Kr := Kr) R hn g2 q4
      exact ⟨.ref _, r, F', upd H (s.heap.objs.size + 1) (.lst ys), I.laid (t' := s.toks) (fun _ _ => PyProof.Rows.sortedAll_old) (Nat.le_succ _) ⟨hlen, out, ep, g1, he'⟩, rfl, k1, k2, k3, k4, k5⟩
  · rename_i ds
    obtain ⟨⟨q1, q2, q3⟩, q4⟩ := q
    obtain ⟨v, rfl, hv⟩ := hx.one
    obtain ⟨a, vs, rfl, hs, ha⟩ := hv.tuple R.sub
    obtain ⟨its, rv, hl, hz⟩ := I.tuple hs
    rw [Vals.ref1 rx]
    have ev : vs.length = ds.length := ha.length
    have e1 := each_in rv ha
    have er : PySem.W.EachIs (fun v b => ∃ as, Reads s.heap v (id b) as) its ds := each_mem (fun v d hd ⟨x, h1, h2⟩ => Dp.reads I _ x v (Rt.dp R.sub (.inl h2) (q3 d hd)) h1) e1
    refine sortedT (ds := ds) (vs := its) (R := fun v d => ∃ x, RelV x v ∧ Rp X.K F x d) (show s.heap.IsTuple a its.toArray from hl) e1 er q1 q2 (by rw [← ev]; exact hz) (fun b hb => ?_) (fun out ho h1 => ?_)
    · have := SeqAt.depth_of_shaped (q3 b hb)
      show _ + 2 + b.depth < _
      omega
    · obtain ⟨ys, g1, g2⟩ := each_out h1
      obtain ⟨ep, he'⟩ := PyProof.Rows.sortedAll_at s.heap its out.toArray
      have hlen : ys.length ≤ sizeLine := by rw [g2.length, List.length_mergeSort, ← ev]; exact hz
      have hn : H (s.heap.objs.size + 1) = none := I.hok.fresh (Nat.le_succ _)
      obtain ⟨r, F', k1, k2, k3, k4, k5⟩ := new_lst (Kr := Kr) R hn g2 q4
      exact ⟨.ref _, r, F', upd H (s.heap.objs.size + 1) (.lst ys), I.laid (t' := s.toks) (fun _ _ => PyProof.Rows.sortedAll_old) (Nat.le_succ _) ⟨hlen, out, ep, g1, he'⟩, rfl, k1, k2, k3, k4, k5⟩
  · exact q.elim
end
theorem bt_len : bootBuiltins "len" = some (.builtin "len") := by decide +kernel
theorem bt_max : bootBuiltins "max" = some (.builtin "max") := by decide +kernel
theorem bt_min : bootBuiltins "min" = some (.builtin "min") := by decide +kernel
theorem bt_sum : bootBuiltins "sum" = some (.builtin "sum") := by decide +kernel
theorem bt_all : bootBuiltins "all" = some (.builtin "all") := by decide +kernel
theorem bt_sorted : bootBuiltins "sorted" = some (.builtin "sorted") := by decide +kernel
theorem bt_int : bootBuiltins "int" = some (.type "int") := by decide +kernel
theorem bt_list : bootBuiltins "list" = some (.type "list") := by decide +kernel
theorem bt_tuple : bootBuiltins "tuple" = some (.type "tuple") := by decide +kernel
theorem bt_bool : bootBuiltins "bool" = some (.type "bool") := by decide +kernel
theorem bt_set : bootBuiltins "set" = some (.type "set") := by decide +kernel
/-- a tuple of ints -/
def tupI (l : List Int) : PyData := .tuple (l.map .int)
def oSortSet (xs : List PyData) (K : Rs → Prop) : Prop := ∃ (L : List (List Int)) (d : Nat) (B : Int), xs = L.map tupI ∧ 1 ≤ d ∧ (∀ l ∈ L, l.length = d ∧ TS.Bd B l) ∧ L.length < 64 ∧
  ∀ M : List (List Int), M.Nodup → (∀ l, l ∈ M ↔ l ∈ L) → M.Pairwise (fun x y => TS.code B x ≤ TS.code B y) → K (.tmp (M.map tupI))
/-- an empty set -/
abbrev sO (w : World) : Obj := { cls := .type "set", dict := none, data := .set #[] 0 (.fresh 0 0 (!w.params.followText "set-order")) }
def wSortSet (w : WE) : WE := fun env Ke Kx => w env (fun env1 r => ∃ xs, (rd env1 r = some (.list xs) ∨ rd env1 r = some (.tuple xs)) ∧ oSortSet xs (Ke env1)) Kx
section
variable {B : Bs} {W : WX} {X : Cx} {e : Expr} {w : WE} {p p2 q pos : Pos}
end
theorem noCX {P : Program} {w : World} {o : List Env} {H : Hp} {s : Shared} {e : Value} {s' : Shared} (h : L2N.CX P w o H s (fun _ _ _ => False) e s') : False := by
  obtain ⟨_, _, _, _, _, _, _, _, _, _, _, _, z⟩ := h
  exact z
def spTop (K : PySem.W.Frag) : Sp := fun vs H Q _ => ∃ (a : Addr) (ns : List Int), vs = [.ref a] ∧ ns.length ≤ 63 ∧ SqL K H a (ns.map V.int) ∧ ∀ v H', v = .bl true → Q v H'
theorem top_ok {P : Program} {w : World} {K : PySem.W.Frag} {mg : Str → Option Value} {base : Heap} {k : Nat} {f : Addr} {fd : FuncData} {ps : List Str} (h : FnOk P w K mg base (L2N.CX P w) k f fd ps (low K mg 1 spLaw)) : FnOk P w K mg base (L2N.CX P w) k f fd ps (spTop K) :=
  h.imp fun vs H Q E ⟨a, ns, e, hl, hS, q⟩ => by
    subst e
    refine ⟨H, [.val (.list (ns.map .int))], fun outs r => outs = [] ∧ r = .val (.bool true), fun _ _ => False, fun _ _ h => h, .val (.lst hS (RpAll.of_ints ns)) .nil, List.Pairwise.nil, rfl, ⟨ns, rfl, hl, rfl, rfl⟩, fun outs r F' H' v _ hv ⟨_, e⟩ => ?_, fun _ _ _ _ _ _ _ _ z => z.elim⟩
    subst e
    cases (show Rp K F' v (.bool true) from hv)
    exact q _ _ rfl
end Dl
theorem Room.u65 {k : Nat} {A : PySem.Around} (r : Room k A) : A.units + 65 < PySem.cLine := by have := r.un; omega
theorem Room.u67 {k : Nat} {A : PySem.Around} (r : Room k A) : A.units + 67 < PySem.cLine := by have := r.un; omega
end L2

/-! The D layer, 13: what is never come to; chains of comparisons; ranges as lists; zip, enumerate. -/
namespace L2
namespace Dl
open PySem PySem.Spec PyProof.Rows
/-- the reading of a whole chain: a value -/
def wChain (o o' : Op2) (wa wb wc : WE) : WE := fun env Ke Kx => wa env (fun e1 r1 => wb e1 (fun e2 r2 => rdK e2 r1 fun d1 => rdK e2 r2 fun d2 => o d1 d2 (fun r3 => ∃ k, r3 = .val (.bool k) ∧
  if k = true then wc e2 (fun e4 r4 => rdK e4 r2 fun d3 => rdK e4 r4 fun d4 => o' d3 d4 (Ke e4)) Kx else Ke e2 (.val (.bool false)))) Kx) Kx
section
variable {B : Bs} {W : WX} {X : Cx} {pos : Pos} {a b c : Expr} {wa wb wc : WE}
theorem de_chain {op op' : CmpOp} {o o' : Op2} (ho : DOp X (compareOp op) o) (ho' : DOp X (compareOp op') o') (ha : DE B W X a wa) (hb : DE B W X b wb) (hc : DE B W X c wc)
    (hm : lastMarks [op, op'] [b, c] = false := by with_unfolding_all rfl) : DE B W X (.Compare a [op, op'] [b, c] pos) (wChain o o' wa wb wc) := by
  refine ⟨fun pins s σ F H env Ke Kx I R h hx => ?_⟩
  refine Compare_chain (thn (ha.run pins s σ F H env _ Kx I R h hx) fun v s1 ⟨x, env1, r1, F1, H1, I1, rx, R1, f1, q1, n1, h1⟩ => chain_link (thn (hb.run pins s1 σ F1 H1 env1 _ Kx I1 R1 h1 hx) fun u s2 ⟨y, env2, r2, F2, H2, I2, ry, R2, f2, q2, n2, h2⟩ => ?_)) hm
  obtain ⟨d1, e1, d2, e2, h2⟩ := h2
  refine thn (ho.run B F2 env2 pins s2 σ H2 x y v u d1 d2 _ I2 rx ry R2 ((q1.step f2).rt R2 e1) (q2.rt R2 e2) h2) fun w s3 ⟨z, r3, F3, H3, I3, rz, R3, f3, q3, n3, k, e3, h3⟩ => ?_
  subst e3
  cases (show Rp X.K F3 z (.bool k) from q3)
  cases rz
  refine wpAny_truthy_bool ?_
  cases k with
  | false =>
    refine ite_ff ?_
    exact (DP.up f1 (DP.up f2 (DP.up f3 ⟨.bl false, env2, .val (.bool false), F3, H3, I3, rfl, R3, Fm.refl, .bl _, trivial, h3⟩)))
  | true =>
    refine ite_tt (chain_last (thn (hc.run pins s3 σ F3 H3 env2 _ Kx I3 R3 h3 hx) fun w' s4 ⟨z', env4, r4, F4, H4, I4, rz4, R4, f4, q4, n4, h4⟩ => ?_))
    obtain ⟨d3, e3, d4, e4, h4⟩ := h4
    exact thn (ho'.run B F4 env4 pins s4 σ H4 y z' u w' d3 d4 _ I4 ry rz4 R4 ((q2.step (f3.trans f4)).rt R4 e3) (q4.rt R4 e4) h4) fun w5 s5 h5 => (((h5.dp.up f4).up f3).up f2).up f1
/-! ranges as lists, tuples -/
def rgD (i j : Int) : List PyData := (List.range (j - i).toNat).map fun (m : Nat) => PyData.int (i + m)
def rgK (i j : Int) (K : List PyData → Prop) : Prop := RgOk i j ∧ K (rgD i j)
def wLR1 (tup : Bool) (w : WE) : WE := fun env Ke Kx => w env (fun e r => ∃ j, r = .val (.int j) ∧ rgK 0 j fun ds => Ke e (if tup = true then .val (.tuple ds) else .tmp ds)) Kx
def wLR2 (tup : Bool) (wa wb : WE) : WE := fun env Ke Kx => wa env (fun e1 r1 => wb e1 (fun e2 r2 => ∃ i, r1 = .val (.int i) ∧ ∃ j, r2 = .val (.int j) ∧ rgK i j fun ds => Ke e2 (if tup = true then .val (.tuple ds) else .tmp ds)) Kx) Kx
theorem rgRp {K : PySem.W.Frag} {F : Hp} (i j : Int) : RpAll K F (rgV i j) (rgD i j) := by
  have : ∀ l : List Nat, RpAll K F (l.map fun (m : Nat) => V.int (i + (m : Nat))) (l.map fun (m : Nat) => PyData.int (i + m)) := by
    intro l
    induction l with
    | nil => exact .nil
    | cons x l ih => exact .cons (.int _) ih
  exact this _
theorem de_tupR1 {p q pos2 : Pos} (hc : X.calm = true) (hg : Gl X "tuple") (hm : X.mg "tuple" = none) (hg2 : Gl X "range") (hm2 : X.mg "range" = none) (ha : DE B W X a wa)
    (na : starEach [a] X.env = (false, eval a X.env) :: starEach [] X.env := by rfl) (na2 : starEach [.Call (.Name "range" q) [a] [] pos2] X.env = (false, eval (.Call (.Name "range" q) [a] [] pos2) X.env) :: starEach [] X.env := by rfl) :
    DE B W X (.Call (.Name "tuple" p) [.Call (.Name "range" q) [a] [] pos2] [] pos) (wLR1 true wa) := by
  refine ⟨fun pins s σ F H env Ke Kx I R h hx => ?_⟩
  have pe := pe_tupRg (pos := pos) (p := p) hc hg hm (prg_1 (p := q) (pos := pos2) hg2 hm2 ha.pe na) na2
  refine thn (pe.run pins s σ H (fun v H' => ∃ env' r F', Rl X.K B F' H' env' σ ∧ Fm env σ F H env' F' H' ∧ Res X.K B F' H' env' σ v r ∧ Nw H v r ∧ Ke env' r) I ?_) fun u s1 ⟨v, H', I', rv, env', r, F', h1, h2, h3, h4, h5⟩ => ⟨v, env', r, F', H', I', rv, h1, h2, h3, h4, h5⟩
  refine ⟨F, env, _, Kx, R, h, hx, fun v env1 r F1 H1 R1 f1 q1 n1 ⟨j, e, k1, k2⟩ => ?_⟩
  subst e
  cases (show Rp X.K F1 v (.int j) from q1)
  refine ⟨j, rfl, k1, fun p hp => ?_⟩
  obtain ⟨r, F2, g1, g2, g3, g4, g5⟩ := new_tup (Kr := Ke env1) R1 hp (rgRp 0 j) k2
  exact ⟨env1, r, F2, g1, f1.trans g2, g3, g4.up f1.dom, g5⟩
end
end Dl
end L2

/-! The D layer, 14: x[::-1], {}. -/
namespace L2
namespace Dl
open PySem PySem.Spec PyProof.Rows HT
section
variable {prog : Program} {w : World} {A : Around} {E : Value → Shared → Prop} {s : Shared}
end
/-- x[::-1] of a list, a tuple -/
def rvD (d : PyData) (K : Rs → Prop) : Prop := match d with
  | .list ds => K (.tmp ds.reverse)
  | .tuple ds => K (.val (.tuple ds.reverse))
  | _ => False
def wRev (wa : WE) : WE := fun env Ke Kx => wa env (fun e1 r1 => rdK e1 r1 fun d => rvD d (Ke e1)) Kx
section
variable {B : Bs} {W : WX} {X : Cx} {e : Expr} {w : WE} {pos p2 p3 p4 : Pos} {j : Nat}
end
end Dl
end L2

/-! The D layer, 15: i in range(..); zip of two lists or two tuples; ranges with a step. -/
/-! zip of a list and a tuple -/
namespace L2
namespace Dl
section
open PySem PySem.Spec PyProof.Rows RZ
open PySem.Sem (wp)
section
variable {prog : Program} {w : World} {A : Around} {E : Value → Shared → Prop} {s : Shared}
end
abbrev zipMH1 (h : Heap) (l1 : Addr) : Heap := h.push { cls := .type "list_iterator", data := .fields #[.ref l1, .int 0 0] }
abbrev zipMH2 (h : Heap) (l1 l2 : Addr) : Heap := (zipMH1 h l1).push { cls := .type "tuple_iterator", data := .fields #[.ref l2, .int 0 0] }
abbrev zipMH3 (h : Heap) (l1 l2 : Addr) : Heap := (zipMH2 h l1 l2).push { cls := .type "tuple", data := .seq #[.ref h.objs.size, .ref (zipMH1 h l1).objs.size] }
abbrev zipMH4 (h : Heap) (l1 l2 : Addr) : Heap := (zipMH3 h l1 l2).push { cls := .type "tuple", data := .seq #[.none, .none] }
abbrev zipMH5 (h : Heap) (l1 l2 : Addr) : Heap := (zipMH4 h l1 l2).push { cls := .type "zip", data := .fields #[.none, .bool false, .bool false, .ref (zipMH2 h l1 l2).objs.size, .ref (zipMH3 h l1 l2).objs.size] }

section
variable {prog : Program} {w : World} {A : Around} {E : Value → Shared → Prop} {s : Shared}
end
end
end Dl
end L2
namespace L2
namespace Dl
open PySem PySem.Spec PyProof.Rows
section
variable {prog : Program} {w : World} {A : Around} {E : Value → Shared → Prop} {s : Shared}
end
def negB (neg : Bool) (b : Bool) : Bool := if neg = true then !b else b
def wIn1 (neg : Bool) (wa wb : WE) : WE := fun env Ke Kx => wa env (fun e1 r1 => wb e1 (fun e2 r2 => ∃ i, r1 = .val (.int i) ∧ ∃ j, r2 = .val (.int j) ∧ Ke e2 (.val (.bool (negB neg (decide (0 ≤ i ∧ i < j)))))) Kx) Kx
def wIn2 (neg : Bool) (wa wb wc : WE) : WE := fun env Ke Kx => wa env (fun e1 r1 => wb e1 (fun e2 r2 => wc e2 (fun e3 r3 => ∃ i, r1 = .val (.int i) ∧ ∃ j, r2 = .val (.int j) ∧ ∃ k, r3 = .val (.int k) ∧ Ke e3 (.val (.bool (negB neg (decide (j ≤ i ∧ i < k)))))) Kx) Kx) Kx
section
variable {B : Bs} {W : WX} {X : Cx} {pos q pos2 : Pos} {a b c : Expr} {wa wb wc : WE}
end
/-! zip -/
def zipD (xs ys : List PyData) : List PyData := (xs.zip ys).map fun p => .tuple [p.1, p.2]
def zpK (ds : List PyData) (K : List PyData → Prop) : Prop := match ds with
  | [.list xs, .list ys] => K (zipD xs ys)
  | [.tuple xs, .tuple ys] => K (zipD xs ys)
  | [.list xs, .tuple ys] => K (zipD xs ys)
  | _ => False
def wIZip (wf : WF) : WI := fun env Ki Kx => wf env (fun e ds => zpK ds (Ki e)) Kx
theorem DF.pa {B : Bs} {W : WX} {X : Cx} {es : List Expr} {wf : WF} (h : DF B W X es wf) : PA X es (fun σ H Q => ∃ F env Ka Kx, Rl X.K B F H env σ ∧ wf env Ka Kx ∧ XC X.K B W Kx ∧
    ∀ vs env' ds F' H', Rl X.K B F' H' env' σ → Fm env σ F H env' F' H' → RpAll X.K F' vs ds → Ka env' ds → Q vs H') :=
  ⟨fun pos pins s σ H Q I ⟨F, env, Ka, Kx, R, hw, hx, q⟩ => thn (h.run pos pins s σ F H env Ka Kx I R hw hx) fun us s1 ⟨vs, env', ds, F', H', I', rv, R', f', r', k'⟩ => ⟨vs, H', I', rv, q vs env' ds F' H' R' f' r' k'⟩⟩
end Dl
end L2

/-! The D layer, 16: raise, try. -/
namespace L2
namespace Dl
open PySem PySem.Spec PyProof.Rows

/-! ### an exception is made -/
section
variable {X : Cx}
/-- what such an __init__ leaves: each field -/
def spIni (C : Addr) (fs : List Str) : Sp := fun vs H Q _ => ∃ (a : Addr) (ws : List V), vs = .ref a :: ws ∧ ws.length = fs.length ∧ H a = some (exo a C none) ∧
  ∀ (H' : Hp) (d : Addr), H d = none → d ≠ a → H' a = some (exo a C (some d)) → H' d = some (exd d (fs.zip ws).reverse) → (∀ b, b ≠ a → b ≠ d → H' b = H b) → Q .non H'
end
/-! an __init__ of one field, of two -/
section
variable {P : Program} {w : World} {K : PySem.W.Frag} {mg : Str → Option Value} {base : Heap}
end

/-! ### raise -/
/-- what is known of a class whose __init__ stores its arguments -/
structure IniC (P : Program) (w : World) (K : PySem.W.Frag) (mg : Str → Option Value) (base : Heap) (name : Str) (fs : List Str) : Prop where
  ex : ∃ (C fI : Addr) (fd : FuncData), mg name = some (.ref C) ∧ OexC K C ∧ PySem.W.findIn K (.ref C) "__init__" = some (some (.ref fI)) ∧ PySem.W.typeIn K (.ref fI) = some (.type "function") ∧ Binds K fd ("self" :: fs) [] ∧ FnOk P w K mg base (L2N.CX P w) 1 fI fd ("self" :: fs) (spIni C fs)
/-- .. of a class without one -/
structure BareC (K : PySem.W.Frag) (mg : Str → Option Value) (name : Str) : Prop where
  ex : ∃ (C : Addr), mg name = some (.ref C) ∧ PySem.W.excIn K C [.type "ValueError", .type "Exception", .type "BaseException", .type "object"] "ValueError.__new__" = true ∧ PySem.W.keepIn K (.ref C) = true ∧ PySem.W.subIn K (.ref C) (.type "BaseException") = some true ∧ PySem.W.typeIn K (.ref C) = some (.type "type")
def wRaise0 (name : Str) : WS := fun env k => k.ex env ⟨name, []⟩
def wRaise (name : Str) (fs : List Str) (wf : WF) : WS := fun env k => wf env (fun e ds => ds.length = fs.length ∧ k.ex e ⟨name, (fs.zip ds).reverse⟩) k.ex
theorem fsR.mono {K : PySem.W.Frag} {F F' : Hp} (s : Same F F') : ∀ {fs : List (Str × V)} {gs : List (Str × PyData)}, fsR K F fs gs → fsR K F' fs gs
  | _, _, .nil => .nil
  | _, _, .cons ⟨e, r⟩ t => .cons ⟨e, Rp.mono s _ _ r⟩ (fsR.mono s t)
section
variable {B : Bs} {W : WX} {X : Cx} {x : Str} {e : Expr} {es : List Expr} {wf : WF} {p pos pos2 : Pos}
abbrev deadD : Ends := { nx := fun _ _ => False, rt := fun _ _ => False, bk := fun _ _ => False, ct := fun _ _ => False }
end
end Dl
end L2

/-! The D layer, 17: try; what runs while an exception is handled. -/
namespace L2
namespace Dl
open PySem PySem.Spec PyProof.Rows L2H

section
variable {K : PySem.W.Frag} {B : Bs} {F F' H H' : Hp} {env env' env0 : Ev} {σ σ' σ0 : St} {i : Nat} {a : Addr}
abbrev Bs.at (B : Bs) (F : Hp) : Bs := { B with F0 := F }
abbrev Bs.hot (B : Bs) (i : Nat) (a : Addr) (F : Hp) : Bs := { B with F0 := F, lent := (i, a) :: B.lent }
theorem Rl.at (R : Rl K B F H env σ) : Rl K (B.at F) F H env σ :=
  ⟨R.len, R.sub, R.sl, R.dist, Same.refl _, fun b x h => .inl h, R.frm, R.dom, R.own0, R.own1, R.lsl, R.dd, R.d0⟩
theorem Rl.hot (R : Rl K B F H env σ) (na : H a = none) (hi : i < σ.length) (nl : ∀ p ∈ B.all, p.1 ≠ i) : Rl K (B.hot i a F) F H (env.set i .un) (σ.set i (some (.ref a))) := by
  have R1 := R.put (v := .ref a) (s := .un) hi nl trivial (fun _ _ e => by cases e)
  refine ⟨R1.len, R1.sub, R1.sl, R1.dist, Same.refl _, fun b x h => .inl h, fun b x h n => R1.frm b x h fun p hp => n p (List.mem_cons_of_mem _ hp), R1.dom, R1.own0, fun j ds c h1 h2 => ?_, fun p hp => ?_, R1.dd, R1.d0⟩
  · obtain ⟨p, g1, g2⟩ := R1.own1 j ds c h1 h2
    exact ⟨p, List.mem_cons_of_mem _ g1, g2⟩
  · rcases List.mem_cons.mp hp with z | z
    · subst z
      exact List.getElem?_set_self hi
    · exact R1.lsl p z
end

/-- the exception x is handled, slot i holds it -/
structure HX (X : Cx) (B : Bs) (i : Nat) (x : XD) : Prop where
  ex : ∃ (a C : Addr) (oe : Obj) (d : Option Addr), (a, oe) ∈ X.pn ∧ (i, a) ∈ B.lent ∧ X.A.handled = some (.ref a) ∧ L2N.Zn (.ref C) d oe ∧ (∃ vs, oe.data = .fields vs) ∧ X.mg x.name = some (.ref C) ∧
    match d with
    | none => x.fs = []
    | some dx => ∃ fs, B.F0 dx = some (.xd fs) ∧ fsR X.K B.F0 fs x.fs
theorem HX.hot {X : Cx} {B : Bs} {i : Nat} {x : XD} (h : HX X B i x) : HotC X := by
  obtain ⟨a, C, oe, d, h1, _, h3, h4, ⟨vs, h5⟩, _⟩ := h.ex
  exact ⟨(a, oe), ⟨h3, vs, h5, h4.2.2 vs h5⟩, h1⟩

/-! ### try: body, except C as n: suite -/
def wTry (i : Nat) (ns : List Str) (t : WS) (u : XD → WS) : WS := fun env k => t env { k with ex := fun e x => x.name ∈ ns ∧ (∃ s, e[i]? = some s) ∧ u x (e.set i .un) { nx := fun e2 => k.nx (e2.set i .un), rt := k.rt, bk := fun e2 => k.bk (e2.set i .un), ct := fun e2 => k.ct (e2.set i .un), ex := NoX } }
section
variable {B : Bs} {W : WX} {X : Cx} {cx n : Str} {c : Value} {i : Nat} {b₀ : Stmt} {body suite : List Stmt} {t : WS} {u : XD → WS} {ns : List Str} {np pos pos' : Pos}
end
end Dl
end L2

/-! The D layer, 18: what is asked of a handled exception; defs called while one is handled; count, index. -/
namespace L2
namespace Dl
open PySem PySem.Spec PyProof.Rows L2H

/-! ### e.f, isinstance(e, C) -/
def wXf (ns : List Str) (x : XD) (f : Str) : WE := fun env Ke _ => x.name ∈ ns ∧ ∃ d, x.fs.lookup f = some d ∧ Ke env (.val d)
section
variable {B : Bs} {W : WX} {X : Cx} {i : Nat} {x : XD} {ns : List Str} {nm f T : Str} {p p1 p2 pos : Pos}
theorem HX.at (hx : HX X B i x) {F H : Hp} {env : Ev} {σ : St} {pins : List (Addr × Obj)} {s : Shared} (I : Inv X pins σ H s) (R : Rl X.K B F H env σ) : ∃ (a C : Addr) (oe : Obj) (d : Option Addr), σ[i]? = some (some (.ref a)) ∧ s.heap.get? a = some oe ∧ L2N.Zn (.ref C) d oe ∧ (∃ vs, oe.data = .fields vs) ∧ X.mg x.name = some (.ref C) ∧
    match d with
    | none => x.fs = []
    | some dx => ∃ fs, F dx = some (.xd fs) ∧ fsR X.K F fs x.fs := by
  obtain ⟨a, C, oe, d, h1, h2, h3, h4, h5, h6, h7⟩ := hx.ex
  refine ⟨a, C, oe, d, R.lsl (i, a) (List.mem_append_left _ h2), (I.pin (a, oe) (List.mem_append_left _ h1)).1, h4, h5, h6, ?_⟩
  cases d with
  | none => exact h7
  | some dx =>
    obtain ⟨fs, g1, g2⟩ := h7
    exact ⟨fs, R.sub0 _ _ g1, fsR.mono R.sub0 g2⟩
/-- a name of a class, with its value -/
def ClsN (X : Cx) (T : Str) (cv : Value) : Prop := (∃ C, cv = .ref C ∧ X.mg T = some (.ref C)) ∨ (∃ t, cv = .type t ∧ X.mg T = none ∧ bootBuiltins T = some (.type t))
theorem ClsN.pe {cv : Value} (h : ClsN X T cv) (hg : Gl X T) (hn : T ≠ "__name__") (hdb : (T == ("__debug__" : Str)) = false) : ∃ v : V, PE X (.Name T p2) (tC v) ∧ ∀ u, RelV v u → u = cv := by
  rcases h with ⟨C, rfl, h1⟩ | ⟨t, rfl, h1, h2⟩
  · exact ⟨.ref C, pe_glob hg h1 rfl hdb, fun u e => e⟩
  · exact ⟨.ty t, pe_bltn hg h1 h2 rfl hn hdb, fun u e => e⟩
end
end Dl
end L2

/-! The D layer, 19: defs called while an exception is handled. -/
namespace L2
namespace Dl
open PySem PySem.Spec PyProof.Rows L2H

/-- a def that may be handed the handled exception: its promise knows the exception's object -/
structure FnX (P : Program) (w : World) (K : PySem.W.Frag) (mg : Str → Option Value) (base : Heap) (CX : CXT) (k : Nat) (f : Addr) (fd : FuncData) (ps : List Str) (sp : Addr × Obj → Sp) : Prop where
  len : ∀ p vs H Q E, sp p vs H Q E → vs.length = ps.length
  run : ∀ (p : Addr × Obj) (A : Around) (outer : List Env) (s : Shared) (H : Hp) (args : Args) (us : List Value) (vs : List V) (Q : VK) (E : XK), RoomH k A → Hot1 A p → PinOk outer H s p → Env0 P w K mg base A outer s H → BindsTo s fd args (ps.zip us) → Vals vs us → sp p vs H Q E →
    codeAny (model P w) A (.call (.ref f) args) (CR CX outer P w H s Q E) s
section
variable {P : Program} {w : World} {K : PySem.W.Frag} {mg : Str → Option Value} {base : Heap}
end

/-! ### a def keeps its promise while an exception is handled -/
section
variable {P : Program} {w : World} {K : PySem.W.Frag} {mg : Str → Option Value} {base : Heap}
/-- what is promised of a handled exception -/
abbrev SpcE := XD → (Rv → Prop) → Prop
def lowX (K : PySem.W.Frag) (mg : Str → Option Value) (S : SpcE) : Addr × Obj → Sp := fun p vs H Q _ => vs = [.ref p.1] ∧ ∃ (x : XD) (C : Addr) (d : Option Addr) (F : Hp) (Kr : Rv → Prop), Same F H ∧ mg x.name = some (.ref C) ∧ L2N.Zn (.ref C) d p.2 ∧ (∃ vs, p.2.data = .fields vs) ∧ (match d with
    | none => x.fs = []
    | some dx => ∃ fs, F dx = some (.xd fs) ∧ fsR K F fs x.fs) ∧ S x Kr ∧ ∀ r F' H' v, Aft K F H [] F' H' [] → RvR K H F' H' v r → Kr r → Q v H'
end

/-! ### calls -/
def CalH (P : Program) (w : World) (K : PySem.W.Frag) (mg : Str → Option Value) (base : Heap) (k : Nat) (x : Str) (n : Nat) (S : Spc) : Prop :=
  ∃ f fd ps, ps.length = n ∧ mg x = some (.ref f) ∧ PySem.W.keepIn K (.ref f) = true ∧ Binds K fd ps [] ∧ FnH P w K mg base (L2N.CX P w) k f fd ps (low K mg n S)
def CalX (P : Program) (w : World) (K : PySem.W.Frag) (mg : Str → Option Value) (base : Heap) (k : Nat) (x : Str) (S : SpcE) : Prop :=
  ∃ f fd pn, mg x = some (.ref f) ∧ PySem.W.keepIn K (.ref f) = true ∧ Binds K fd [pn] [] ∧ FnX P w K mg base (L2N.CX P w) k f fd [pn] (lowX K mg S)
def wCallX (S : SpcE) (x : XD) : WE := fun env Ke _ => S x fun r => Ke env (rsOf r)
section
variable {P : Program} {w : World} {K : PySem.W.Frag} {mg : Str → Option Value} {base : Heap}
theorem FnH.mono {CX : CXT} {j k : Nat} {f : Addr} {fd : FuncData} {ps : List Str} {sp : Sp} (F : FnH P w K mg base CX j f fd ps sp) (h : j ≤ k) : FnH P w K mg base CX k f fd ps sp := ⟨F.len, fun A outer s H args us vs Q E p r => F.run A outer s H args us vs Q E p (r.mono h)⟩
theorem FnX.mono {CX : CXT} {j k : Nat} {f : Addr} {fd : FuncData} {ps : List Str} {sp : Addr × Obj → Sp} (F : FnX P w K mg base CX j f fd ps sp) (h : j ≤ k) : FnX P w K mg base CX k f fd ps sp := ⟨F.len, fun p A outer s H args us vs Q E r => F.run p A outer s H args us vs Q E (r.mono h)⟩
theorem CalH.mono {j k n : Nat} {x : Str} {S : Spc} (c : CalH P w K mg base j x n S) (h : j ≤ k) : CalH P w K mg base k x n S := by
  obtain ⟨f, fd, ps, h0, h1, h2, h3, h4⟩ := c
  exact ⟨f, fd, ps, h0, h1, h2, h3, FnH.mono h4 h⟩
theorem CalX.mono {j k : Nat} {x : Str} {S : SpcE} (c : CalX P w K mg base j x S) (h : j ≤ k) : CalX P w K mg base k x S := by
  obtain ⟨f, fd, pn, h1, h2, h3, h4⟩ := c
  exact ⟨f, fd, pn, h1, h2, h3, FnX.mono h4 h⟩
end
section
variable {B : Bs} {W : WX} {X : Cx} {k n i : Nat} {x nm : Str} {S : Spc} {e : Expr} {es : List Expr} {wm : WM} {p p1 pos : Pos}
end
end Dl
end L2

/-! The D layer, 20: the exceptions' classes, looked at once. -/
namespace L2
namespace Dl
open PySem PySem.Spec PyProof.Rows L2H
def xall : List Str := ["NoClock", "NoNumber", "NoPlace", "NoRow", "NoClocks", "NoText", "TooGreat"]
def xfld : List Str := ["many", "most", "number", "row"]
structure XFacts (K : PySem.W.Frag) (mg : Str → Option Value) : Prop where
  ce : ∃ C0, mg "ClockError" = some (.ref C0) ∧ ∀ n ∈ xall, ∃ C, mg n = some (.ref C) ∧ PySem.W.exmOne K (.ref C) (.ref C0) = some true
  at_ : ∀ n ∈ xall, ∀ C, mg n = some (.ref C) → ExcC K C ∧ XfC K C ∧ (∀ f ∈ xfld, PySem.W.findIn K (.ref C) f = some none) ∧ PySem.W.kitOne K (.ref C) (.type "ValueError") = some true ∧
    ∀ m ∈ xall, ∃ D, mg m = some (.ref D) ∧ PySem.W.kitOne K (.ref C) (.ref D) = some (decide (n = m))
section
variable {B : Bs} {W : WX} {X : Cx} {i : Nat} {x : XD} {nm f T : Str} {p p1 p2 pos pos' np : Pos} {ns : List Str}
end
/-! the classes that are raised -/
end Dl
end L2

/-! The D layer, 21: xs.count(y), xs.index(y). -/
namespace L2
namespace Dl
open PySem PySem.Spec PyProof.Rows L2H
/-- a method of a list that only reads it, with one argument -/
abbrev Rd := List PyData → PyData → (PyData → Prop) → Prop
def isLst : PyData → Prop
  | .list _ => True
  | _ => False
def wRd (w wa : WE) (μ : Rd) : WE := fun env Ke Kx => w env (fun e1 r1 => rdK e1 r1 isLst ∧ wa e1 (fun e2 r2 => rdK e2 r1 fun d1 => rdK e2 r2 fun d2 => ∃ ds, d1 = .list ds ∧ μ ds d2 fun d => Ke e2 (.val d)) Kx) Kx
def muCount : Rd := fun ds d K => SeqAt.shaped (.list ds) = true ∧ SeqAt.shaped d = true ∧ K (.int (ds.countP fun y => PyData.eqv y d : Nat))
section
variable {B : Bs} {W : WX} {X : Cx}
def rCountD (K : PySem.W.Frag) : V → List V → Hp → VK → Prop := fun x xs H Q => ∃ (a : Addr) (y : V) (d : PyData) (ds : List PyData), x = V.ref a ∧ xs = [y] ∧ Dp K H (V.ref a) (.list ds) ∧ Dp K H y d ∧ SeqAt.shaped (.list ds) = true ∧ SeqAt.shaped d = true ∧ Q (.int (ds.countP fun y => PyData.eqv y d : Nat)) H
theorem mt_countD (hu : X.A.units + 65 < cLine) : MtR X "list.count" (rCountD X.K) := by
  intro pins s σ H x xs v us Q I rx rxs ⟨a, y, d, ds, e1, e2, hl, hy, sl, sd, q⟩
  subst e1 e2
  cases rx
  cases rxs with
  | cons ry rt =>
    cases rt
    obtain ⟨bs, r1⟩ := Dp.reads I d y _ hy ry
    cases hl with
    | lst hs ha =>
      obtain ⟨its, rv, hp, hz⟩ := I.list hs
      obtain ⟨as, h4⟩ := Dp.readsAll I ds _ its ha rv
      exact SeqAt.count_list_data (vs := its.toArray) hp.isList h4 r1 (PyData.plainAll_of_canLay0 _ (SeqAt.canLay_of_shaped sl)) (PyData.plain_of_canLay0 _ (SeqAt.canLay_of_shaped sd)) (room_in_shaped sd hu) ⟨.int _, H, I.tok _, ⟨_, rfl⟩, q⟩
variable {e o : Expr} {w wo : WE} {apos cpos : Pos} {name : Str} {id : String} {r : V → List V → Hp → VK → Prop} {μ : Rd}
theorem de_rd (slot : Slot "list" name id) (hty : typeOf (.builtin id) = pure (.type "method_descriptor")) (hm : MtR X id r) (ho : DE B W X o wo) (ha : DE B W X e w)
    (hmono : ∀ (x : V) (xs : List V) (H : Hp) (Q Q' : VK), (∀ y H', Q y H' → Q' y H') → r x xs H Q → r x xs H Q')
    (hr : ∀ (F H : Hp) (v : V) (y : V) (ds : List PyData) (d : PyData) (Kn : PyData → Prop), Same F H → Rt X.K F H v (.list ds) → Rt X.K F H y d → μ ds d Kn → r v [y] H (fun z H' => H' = H ∧ ∃ d', Rp X.K F z d' ∧ Kn d'))
    (hbase : attributeBase o name X.env (eval o X.env) = eval o X.env := by rfl)
    (hfew : ((backTo cpos (starEach [e] X.env)).all (fun x => !x.1) && (backToKw cpos (keywordEach [] X.env)).all (fun x => x.1.isSome)
      && decide ([e].length + ([] : List Keyword).length + (if ([] : List Keyword).isEmpty then 0 else 1) < 30)) = true := by rfl)
    (hline : (apos.endLine == cpos.line) = true := by rfl) (hs : starEach [e] X.env = (false, eval e X.env) :: starEach [] X.env := by rfl) (hplain : (backTo cpos (starEach [] X.env)).any (·.1) = false := by rfl) :
    DE B W X (.Call (.Attribute o name apos) [e] [] cpos) (wRd wo w μ) := by
  refine ⟨fun pins s σ F H env Ke Kx I R h hx => ?_⟩
  have pe := pe_bm (cpos := cpos) (apos := apos) PySem.F.plainAttrs_list slot hty hm ho.pe (pa_cons ha.pe pa_nil hs) hbase hfew hline hs hplain
  refine thn (pe.run pins s σ H (fun v H' => ∃ env' d F', Rl X.K B F' H' env' σ ∧ Fm env σ F H env' F' H' ∧ Rp X.K F' v d ∧ Ke env' (.val d)) I ?_) fun u s1 ⟨v, H', I', rv, env', d, F', h1, h2, h3, h4⟩ => ⟨v, env', .val d, F', H', I', rv, h1, h2, h3, trivial, h4⟩
  refine ⟨F, env, _, Kx, R, h, hx, fun v e1 r1 F1 H1 R1 f1 q1 n1 ⟨⟨d0, g0, i0⟩, k1⟩ => ⟨?_, F1, e1, _, Kx, R1, k1, hx, fun y e2 r2 F2 H2 R2 f2 q2 n2 ⟨d1, g1, d2, g2, ds, g3, k⟩ => ?_⟩⟩
  · obtain ⟨ds0, rfl⟩ : ∃ ds0, d0 = .list ds0 := by cases d0 <;> first | exact ⟨_, rfl⟩ | exact i0.elim
    obtain ⟨p, vs, rfl, z1, z2⟩ := (q1.rt R1 g0).list R1.sub
    exact .inl ⟨rfl, vs, z1⟩
  · subst g3
    exact hmono _ _ _ _ _ (fun z H' ⟨e, d', z1, z2⟩ => by subst e; exact ⟨e2, d', F2, R2, f1.trans f2, z1, z2⟩) (hr F2 H2 v y ds d2 _ R2.sub ((q1.step f2).rt R2 g1) (q2.rt R2 g2) k)
theorem rCountD_mono {K : PySem.W.Frag} (x : V) (xs : List V) (H : Hp) (Q Q' : VK) (h : ∀ y H', Q y H' → Q' y H') : rCountD K x xs H Q → rCountD K x xs H Q' := fun ⟨a, y, d, ds, h1, h2, h3, h4, h5, h6, q⟩ => ⟨a, y, d, ds, h1, h2, h3, h4, h5, h6, h _ _ q⟩
theorem de_count (hu : X.A.units + 65 < cLine) (ho : DE B W X o wo) (ha : DE B W X e w) (hbase : attributeBase o "count" X.env (eval o X.env) = eval o X.env := by rfl)
    (hfew : ((backTo cpos (starEach [e] X.env)).all (fun x => !x.1) && (backToKw cpos (keywordEach [] X.env)).all (fun x => x.1.isSome)
      && decide ([e].length + ([] : List Keyword).length + (if ([] : List Keyword).isEmpty then 0 else 1) < 30)) = true := by rfl)
    (hline : (apos.endLine == cpos.line) = true := by rfl) (hs : starEach [e] X.env = (false, eval e X.env) :: starEach [] X.env := by rfl) (hplain : (backTo cpos (starEach [] X.env)).any (·.1) = false := by rfl) :
    DE B W X (.Call (.Attribute o "count" apos) [e] [] cpos) (wRd wo w muCount) := by
  refine de_rd PySem.F.slot_list_count PySem.F.type_list_count (mt_countD hu) ho ha rCountD_mono (fun F H v y ds d Kn s h1 h2 ⟨g1, g2, g3⟩ => ?_) hbase hfew hline hs hplain
  obtain ⟨p, vs, rfl, _⟩ := h1.list s
  exact ⟨p, y, d, ds, rfl, rfl, h1.dp s g1, h2.dp s g2, g1, g2, rfl, _, .int _, g3⟩
end
end Dl
end L2

/-! The D layer, 22: calls that only look at lists; [..] * k; enumerate of a list. -/
namespace L2
namespace Dl
open PySem PySem.Spec PyProof.Rows L2H

/-! ### f(xs, ..) that answers with no object: xs stays its holder's -/
def scal : PyData → Bool
  | .none | .bool _ | .int _ | .str _ => true
  | _ => false
/-- a name: a list of its own is lent, to be looked at -/
def wBr (i : Nat) (wm : WM) : WM := fun env Ka Kx => (∃ l ds, env[i]? = some (Sl.own l ds) ∧ wm env (fun e as => Ka e (.ln i :: as)) Kx) ∨ ∃ d, env[i]? = some (Sl.val d) ∧ wm env (fun e as => Ka e (.fz d :: as)) Kx
def avsB (env : Ev) : List Ar → Option (List AV)
  | [] => some []
  | .fz d :: as => (avsB env as).map (.val d :: ·)
  | .ln i :: as => match env[i]? with
    | some (.own _ ds) => (avsB env as).map (.val (.list ds) :: ·)
    | _ => none
def wCallS (n : Nat) (S : Spc) (wm : WM) : WE := fun env Ke Kx => wm env (fun e as => ∃ avs, avsB e as = some avs ∧ avs.length = n ∧ S avs (fun _ r => ∃ d, r = .val d ∧ scal d = true ∧ Ke e (.val d)) (fun _ _ => False)) Kx
section
variable {K : PySem.W.Frag} {B : Bs} {F H H' : Hp} {env : Ev} {σ : St}
/-- what stood stands -/
theorem Rl.later (R : Rl K B F H env σ) (k : ∀ b x, H b = some x → H' b = some x) : Rl K B F H' env σ ∧ Fm env σ F H env F H' := by
  have dm : ∀ b, H b ≠ none → H' b ≠ none := fun b h => by
    cases q : H b with
    | none => exact absurd q h
    | some x => rw [k b x q]; simp
  refine ⟨⟨R.len, fun b x h => k b x (R.sub b x h), fun j => ?_, R.dist, R.sub0, R.new, fun b x h n => k b x (R.frm b x h n), fun b h => dm b (R.dom b h), R.own0, R.own1, R.lsl, R.dd, R.d0⟩, ⟨fun b x h _ => k b x h, fun _ _ h => h, fun _ _ h => .inl h, fun _ _ _ h => ⟨_, h⟩, dm, fun _ _ h => ⟨_, h⟩⟩⟩
  have s := R.sl j
  cases q : env[j]? with
  | none => trivial
  | some z =>
    rw [q] at s
    cases z with
    | un => trivial
    | val d => exact s
    | own l ds =>
      obtain ⟨a, ws, g1, g2, g3, g4⟩ := s
      exact ⟨a, ws, g1, k a _ g2, g3, g4⟩
    | dct kv =>
      obtain ⟨a, g1, g2, g3⟩ := s
      exact ⟨a, g1, k a _ g2, g3⟩
theorem scal_rp {d : PyData} {F1 : Hp} {v : V} (h : scal d = true) (r : Rp K F1 v d) : Rp K F v d := by
  cases d with
  | none => cases r; exact .non
  | bool b => cases r; exact .bl b
  | int b => cases r; exact .int b
  | str b => cases r; exact .str b
  | list _ => cases h
  | tuple _ => cases h
  | dict _ => cases h
end
section
variable {B : Bs} {W : WX} {X : Cx} {k n : Nat} {x : Str} {S : Spc} {e : Expr} {es : List Expr} {wm : WM} {p pos : Pos}
end

/-! ### [..] * k -/
def wRep (wa wb : WE) : WE := fun env Ke Kx => wa env (fun e1 r1 => ∃ ds, r1 = .tmp ds ∧ wb e1 (fun e2 r2 => ∃ k, r2 = .val (.int k) ∧ ds.length * k.toNat ≤ sizeLine ∧ k ≤ 16777216 ∧ -16777216 ≤ k ∧ Ke e2 (.tmp (List.replicate k.toNat ds).flatten)) Kx) Kx
section
variable {B : Bs} {W : WX} {X : Cx} {a b : Expr} {wa wb : WE} {pos : Pos}
end

/-! ### enumerate of a list -/
def enD (ds : List PyData) : List PyData := ds.zipIdx.map fun p => .tuple [.int p.2, p.1]
def wIEnum (wf : WF) : WI := fun env Ki Kx => wf env (fun e ds => ∃ xs, ds = [.list xs] ∧ Ki e (enD xs)) Kx
end Dl
end L2

/-! The D layer, 23: loops, unpacking and pairs while an exception is handled. -/
namespace L2
namespace Dl
open PySem PySem.Spec PyProof.Rows L2H HotX

section
variable {prog : Program} {w : World} {A : Around} {E : Value → Shared → Prop} {s : Shared}
end

section
variable {X : Cx}
theorem HotC.pin {pins : List (Addr × Obj)} {σ : St} {H : Hp} {s : Shared} (c : HotC X) (I : Inv X pins σ H s) : ∃ p ∈ X.pn, HotAt X.A p.1 s.heap := by
  obtain ⟨p, ⟨hh, v1, e1, c1⟩, hp⟩ := c
  exact ⟨p, hp, hh, p.2, v1, (I.pin p (List.mem_append_left _ hp)).1, e1, c1⟩
end

/-! ### what is walked there -/
def seqOf : PyData → Option (List PyData)
  | .list ds => some ds
  | .tuple ds => some ds
  | _ => none
def wISq (w : WE) : WI := fun env Ki Kx => wFz w env (fun e d => ∃ ds, seqOf d = some ds ∧ Ki e ds) Kx
structure DIH (B : Bs) (W : WX) (X : Cx) (tg iter : Expr) (w : WI) : Prop where
  pi : PIH X tg iter (fun σ H R => ∃ F env Ki Kx, Rl X.K B F H env σ ∧ w env Ki Kx ∧ XC X.K B W Kx ∧ ∀ J env' F' H' ds, Rl X.K B F' H' env' σ → Fm env σ F H env' F' H' → GoodIt X.K B J F' ds → Ki env' ds → R J H')
section
variable {B : Bs} {W : WX} {X : Cx} {tg e : Expr} {w : WE} {pos : Pos}
/-! ### (a, b) = pair; a, b = x, y -/
end
section
variable {P : Program} {w : World} {K : PySem.W.Frag} {mg : Str → Option Value} {base : Heap}
/-- a def that is not called -/
theorem cal_never {x : Str} {st : Stmt} {qual : Str} {f : Addr} {fd : FuncData} {ps : List Str} {k : Nat} (F : Fun K x qual st f fd) (hm : mg x = some (.ref f)) (hb : Binds K fd ps []) : Cal P w K mg base k x ps.length (fun _ _ _ => False) :=
  ⟨f, fd, ps, rfl, hm, F.kp, hb, ⟨fun _ _ _ _ h => by obtain ⟨_, _, _, _, _, _, _, _, h, _⟩ := h; exact h.elim, fun _ _ _ _ _ _ _ _ _ _ _ _ _ h => by obtain ⟨_, _, _, _, _, _, _, _, h, _⟩ := h; exact h.elim⟩⟩
end
/-! ### x[i] += e of a list of one's own -/
section
variable {B : Bs} {W : WX} {X : Cx} {x : Str} {a e : Expr} {wi w : WE} {p pos spos : Pos}
end
/-! ### an expression that only looks: one's own lists are put away, one is lent to it -/
def hidS : Sl → Sl
  | .own _ _ => .un
  | .dct _ => .un
  | s => s
def hidE (env : Ev) (i : Nat) (ds : List PyData) : Ev := (env.map hidS).set i (.val (.list ds))
theorem hid_own {env : Ev} {i j : Nat} {ds es : List PyData} {l : Bool} (h : (hidE env i ds)[j]? = some (Sl.own l es)) : False := by
  unfold hidE at h
  by_cases e : i = j
  · subst e
    by_cases hl : i < (env.map hidS).length
    · rw [List.getElem?_set_self hl] at h
      cases h
    · rw [List.getElem?_eq_none (by rw [List.length_set]; omega)] at h
      cases h
  · rw [List.getElem?_set_ne e, List.getElem?_map] at h
    cases q : env[j]? with
    | none => rw [q] at h; cases h
    | some s => rw [q] at h; cases s <;> cases h
theorem hid_dct {env : Ev} {i j : Nat} {ds : List PyData} {kv : List (List Int × PyData)} (h : (hidE env i ds)[j]? = some (Sl.dct kv)) : False := by
  unfold hidE at h
  by_cases e : i = j
  · subst e
    by_cases hl : i < (env.map hidS).length
    · rw [List.getElem?_set_self hl] at h
      cases h
    · rw [List.getElem?_eq_none (by rw [List.length_set]; omega)] at h
      cases h
  · rw [List.getElem?_set_ne e, List.getElem?_map] at h
    cases q : env[j]? with
    | none => rw [q] at h; cases h
    | some s => rw [q] at h; cases s <;> cases h
section
variable {K : PySem.W.Frag} {B : Bs} {F H : Hp} {env : Ev} {σ : St}
theorem Rl.hide (R : Rl K B F H env σ) {i : Nat} {ds : List PyData} (e : env[i]? = some (Sl.own false ds)) : ∃ F1, Rl K B F1 H (hidE env i ds) σ := by
  obtain ⟨a, vs, g1, g2, g3, g4⟩ := R.ownSl e
  have sm : Same F (upd F a (.lst vs)) := fun b x h => by
    by_cases c : b = a
    · subst c; rw [g3] at h; cases h
    · rw [upd_ne c]; exact h
  refine ⟨upd F a (.lst vs), ⟨?_, fun b x h => ?_, fun j => ?_, fun j k l m es fs b h1 => (hid_own h1).elim, R.sub0.trans sm, fun b x h => ?_, R.frm, R.dom, fun j es b h1 => (hid_own h1).elim, fun j es b h1 => (hid_own h1).elim, R.lsl, fun j k kv kw b h1 => (hid_dct h1).elim, fun j kv b h1 => (hid_dct h1).elim⟩⟩
  · unfold hidE
    rw [List.length_set, List.length_map]
    exact R.len
  · by_cases c : b = a
    · subst c; rw [upd_same] at h; cases h; exact g2
    · rw [upd_ne c] at h; exact R.sub b x h
  · unfold hidE
    by_cases c : i = j
    · subst c
      rw [List.getElem?_set_self (by rw [List.length_map]; exact (List.getElem?_eq_some_iff.mp e).1)]
      exact ⟨_, g1, .lst (SqL.of (upd_same ..)) (RpAll.mono sm _ _ g4)⟩
    · rw [List.getElem?_set_ne c, List.getElem?_map]
      have s := R.sl j
      cases q : env[j]? with
      | none => trivial
      | some z =>
        rw [q] at s
        cases z with
        | un => trivial
        | val d =>
          obtain ⟨v, h1, h2⟩ := s
          exact ⟨v, h1, Rp.mono sm _ _ h2⟩
        | own l es => trivial
        | dct kv => trivial
  · by_cases c : b = a
    · subst c
      exact .inr (.inl (R.own0 i ds b e g1))
    · rw [upd_ne c] at h
      exact R.new b x h
end
def wBw (i : Nat) (w : WE) : WE := fun env Ke _ => ∃ ds, env[i]? = some (Sl.own false ds) ∧ w (hidE env i ds) (fun _ r => ∃ d, r = .val d ∧ scal d = true ∧ Ke env (.val d)) NoX
section
variable {B : Bs} {W : WX} {X : Cx} {e : Expr} {w : WE}
theorem de_bw (i : Nat) (he : DE B W X e w) : DE B W X e (wBw i w) := by
  refine ⟨fun pins s σ F H env Ke Kx I R ⟨ds, e0, h⟩ hx => ?_⟩
  obtain ⟨F1, R1⟩ := R.hide e0
  refine thn (he.run pins s σ F1 H (hidE env i ds) _ NoX I R1 h (fun _ _ _ _ _ _ _ z => z.elim)) fun u s1 ⟨v, e2, r, F2, H2, I2, rv, R2, f2, q2, n2, d, er, sd, k⟩ => ?_
  subst er
  obtain ⟨R3, f3⟩ := R.later fun b x hb => f2.keep b x hb fun ow => ow.elim (fun ⟨j, l, es, h1, _⟩ => hid_own h1) fun ⟨j, kv, h1, _⟩ => hid_dct h1
  exact ⟨v, env, .val d, F, H2, I2, rv, R3, f3, scal_rp sd q2, trivial, k⟩
end
end Dl
end L2

/-! The D layer, 24: a list comprehension while an exception is handled. -/
namespace L2
namespace Dl
open PySem PySem.Spec PyProof.Rows L2H HotX

/-- a block's context that keeps what is handled -/
abbrev hotB (X : Cx) (s : Shared) (H : Hp) (scope : Scope) (cenv : Env) (fp : List Addr) : Cx := { X.blk s H scope cenv fp with pn := X.pn }
section
variable {X : Cx} {s : Shared} {H : Hp} {σ : St} {pins : List (Addr × Obj)}
end
section
variable {B : Bs} {W : WX} {X : Cx} {tg iter elt : Expr} {is : List Nat} {wi : WI} {g : WG} {ct : WT} {we : WE} {pos : Pos}
end
end Dl
end L2

/-! The D layer, 25: enumerate of a tuple. -/
namespace L2
namespace Dl
open PySem PySem.Spec PyProof.Rows Builtin

section
open AutoSeq1 (wpAny_loadPart')
variable {prog : Program} {w : World} {A : Around} {E : Value → Shared → Prop} {s : Shared}
end
/-- for i, x in enumerate(a tuple) -/
def wIEnumT (wf : WF) : WI := fun env Ki Kx => wf env (fun e ds => ∃ xs, ds = [.tuple xs] ∧ Ki e (enD xs)) Kx
end Dl
end L2

/-! The D layer, 26: f(xs, ..) that answers with no list: xs stays its holder's. -/
namespace L2
namespace Dl
open PySem PySem.Spec PyProof.Rows L2H

mutual
def tupD : PyData → Bool
  | .none | .bool _ | .int _ | .str _ => true
  | .tuple ds => tupDs ds
  | .list _ => false
  | .dict _ => false
def tupDs : List PyData → Bool
  | [] => true
  | d :: ds => tupD d && tupDs ds
end
def wCallT (n : Nat) (S : Spc) (wm : WM) : WE := fun env Ke Kx => wm env (fun e as => ∃ avs, avsB e as = some avs ∧ avs.length = n ∧ S avs (fun _ r => ∃ d, r = .val d ∧ tupD d = true ∧ Ke e (.val d)) (fun _ x => (∀ p ∈ x.fs, tupD p.2 = true) ∧ Kx e x)) Kx
section
variable {K : PySem.W.Frag} {B : Bs} {F F1 F2 H H' : Hp} {env : Ev} {σ : St}
mutual
theorem thaw {no : Addr → Prop} (h : ∀ b, ¬ no b → F2 b = F1 b) (l : ∀ b, no b → ∃ ws, F1 b = some (.lst ws)) : ∀ (d : PyData) (v : V), tupD d = true → Rp K F1 v d → Rp K F2 v d
  | .none, _, _, r => by cases r; exact .non
  | .bool _, _, _, r => by cases r; exact .bl _
  | .int _, _, _, r => by cases r; exact .int _
  | .str _, _, _, r => by cases r; exact .str _
  | .list _, _, e, _ => by cases e
  | .dict _, _, e, _ => by cases e
  | .tuple ds, _, e, r => by
    cases r with
    | @tup a xs _ h1 h2 =>
      refine .tup (a := a) (xs := xs) ?_ (thawAll h l ds xs e h2)
      have na : ¬ no a := fun z => by
        obtain ⟨ws, e2⟩ := l a z
        rw [e2] at h1
        cases h1
      rw [h a na]
      exact h1
theorem thawAll {no : Addr → Prop} (h : ∀ b, ¬ no b → F2 b = F1 b) (l : ∀ b, no b → ∃ ws, F1 b = some (.lst ws)) : ∀ (ds : List PyData) (vs : List V), tupDs ds = true → RpAll K F1 vs ds → RpAll K F2 vs ds
  | [], _, _, r => by cases r; exact .nil
  | d :: ds, _, e, r => by
    have e : (tupD d && tupDs ds) = true := e
    rw [Bool.and_eq_true] at e
    cases r with
    | cons a b => exact .cons (thaw h l d _ e.1 a) (thawAll h l ds _ e.2 b)
end
end
section
variable {B : Bs} {W : WX} {X : Cx} {k n : Nat} {x : Str} {S : Spc} {e : Expr} {es : List Expr} {wm : WM} {p pos : Pos}
end
end Dl
end L2

/-! The D layer, 27: range with a step. -/
namespace L2
namespace Dl
open PySem PySem.Spec PyProof.Rows L2H

def rg3 (i c : Int) (n : Nat) : List PyData := (List.range n).map fun (m : Nat) => PyData.int (i + (m : Int) * c)
def wIRng3 (wf : WF) : WI := fun env Ki Kx => wf env (fun e ds => ∃ i j c n, ds = [.int i, .int j, .int c] ∧ RgC i j c n ∧ Ki e (rg3 i c n)) Kx
theorem good_rg3 {K : PySem.W.Frag} {B : Bs} {F0 : Hp} {i c : Int} {n : Nat} : GoodIt K B (Itc i c n) F0 (rg3 i c n) := by
  intro F H env σ m R s
  have l : (rg3 i c n).length = n := by unfold rg3; rw [List.length_map, List.length_range]
  rw [l]
  refine ⟨fun hm => ⟨hm, fun x H' ⟨e, y⟩ => ?_⟩, fun hm => hm⟩
  subst e y
  refine ⟨F, _, R, Fm.refl, ?_, .int _⟩
  unfold rg3
  rw [List.getElem?_map, List.getElem?_range hm]
  rfl
section
variable {B : Bs} {W : WX} {X : Cx} {tg a b c : Expr} {wf : WF} {p pos : Pos}
theorem di_rng3 (h : DF B W X [a, b, c] wf) (hg : Gl X "range") (hm : X.mg "range" = none) (hs : starEach [a, b, c] X.env = (false, eval a X.env) :: starEach [b, c] X.env := by rfl) (hpl : (backTo pos (starEach [b, c] X.env)).any (·.1) = false := by rfl) :
    DI B W X tg (.Call (.Name "range" p) [a, b, c] [] pos) (wIRng3 wf) := by
  refine ⟨⟨fun pins s σ H R I ⟨F, env, Ki, Kx, R0, hw, hx, q⟩ => ?_⟩⟩
  refine (pi_range3 (p := p) (pos := pos) hg hm h.pa hs hpl).run pins s σ H R I ⟨F, env, _, Kx, R0, hw, hx, fun vs env' ds F' H' R' f' r' ⟨i, j, k, n, e1, rg, k'⟩ => ?_⟩
  subst e1
  have e : vs = [i, j, k].map V.int := RpAll.ints (ns := [i, j, k]) r'
  exact ⟨i, j, k, n, e, rg, q _ env' F' H' _ R' f' good_rg3 k'⟩
end
end Dl
end L2

/-! The D layer, 28: (..) * k. -/
namespace L2
namespace Dl
open PySem PySem.Spec PyProof.Rows L2H
def wRepT (wa wb : WE) : WE := fun env Ke Kx => wa env (fun e1 r1 => ∃ ds, r1 = .val (.tuple ds) ∧ wb e1 (fun e2 r2 => ∃ k, r2 = .val (.int k) ∧ ds ≠ [] ∧ 2 ≤ k ∧ k ≤ 1000 ∧ ds.length ≤ 1000 ∧ Ke e2 (.val (.tuple (List.replicate k.toNat ds).flatten))) Kx) Kx
section
variable {B : Bs} {W : WX} {X : Cx} {a b : Expr} {wa wb : WE} {pos : Pos}
end
end Dl
end L2

/-! The D layer, 29: dicts of one's own, their keys tuples of ints. -/
namespace L2
namespace Dl
open PySem PySem.Spec PyProof.Rows

def isDct (env : Ev) (i : Nat) : Prop := ∃ kvs, env[i]? = some (Sl.dct kvs)
def putD (kvs : List (List Int × PyData)) (k : List Int) (d : PyData) : List (List Int × PyData) :=
  if (kvs.any fun p => decide (p.1 = k)) = true then kvs.map (fun p => if p.1 = k then (p.1, d) else p) else kvs ++ [(k, d)]
theorem inl_inj (a b : List Int) : (a.map (Sum.inl : Int → Key) = b.map Sum.inl) ↔ a = b :=
  ⟨fun h => (List.map_inj_right (fun x y e => by cases e; rfl)).mp h, fun h => by rw [h]⟩
theorem kvO_put (kvs : List (List Int × PyData)) (k : List Int) (d : PyData) : kvO (putD kvs k d) = putK (kvO kvs) (k.map Sum.inl) (vOf d) := by
  have e1 : ((kvO kvs).any fun kv => decide (kv.1 = k.map Sum.inl)) = kvs.any fun p => decide (p.1 = k) := by
    unfold kvO
    rw [List.any_map]
    congr 1
    funext p
    show decide (p.1.map Sum.inl = k.map Sum.inl) = decide (p.1 = k)
    exact decide_eq_decide.mpr (inl_inj _ _)
  unfold putD putK
  rw [e1]
  split
  · unfold kvO
    rw [List.map_map, List.map_map]
    refine List.map_congr_left fun p _ => ?_
    show (((if p.1 = k then (p.1, d) else p) : List Int × PyData).1.map Sum.inl, vOf ((if p.1 = k then (p.1, d) else p) : List Int × PyData).2) = if p.1.map Sum.inl = k.map Sum.inl then (p.1.map Sum.inl, vOf d) else (p.1.map Sum.inl, vOf p.2)
    by_cases h : p.1 = k
    · rw [if_pos h, if_pos ((inl_inj _ _).mpr h)]
    · rw [if_neg h, if_neg (fun z => h ((inl_inj _ _).mp z))]
  · unfold kvO
    rw [List.map_append]
    rfl
/-- what a dict's value may be -/
def scD : PyData → Prop
  | .int _ => True
  | .bool _ => True
  | .str _ => True
  | .none => True
  | _ => False
section
variable {K : PySem.W.Frag} {B : Bs} {F H : Hp} {env : Ev} {σ : St}
theorem Rp.scD {v : V} {d : PyData} (h : Rp K F v d) (s : scD d) : v = vOf d := by
  cases h with
  | non => rfl
  | bl b => rfl
  | int i => rfl
  | str x => rfl
  | lst _ _ => exact s.elim
  | tup _ _ => exact s.elim
  | dct _ => exact s.elim
theorem Rl.dctSl (R : Rl K B F H env σ) {i : Nat} {kv : List (List Int × PyData)} (e : env[i]? = some (Sl.dct kv)) : ∃ a, σ[i]? = some (some (V.ref a)) ∧ H a = some (.dT (kvO kv)) ∧ F a = none := by
  have s := R.sl i
  rw [e] at s
  exact s
theorem Rl.mutD (R : Rl K B F H env σ) {i : Nat} {kv kv' : List (List Int × PyData)} {a : Addr} (e : env[i]? = some (Sl.dct kv)) (ha : σ[i]? = some (some (V.ref a))) :
    Rl K B F (upd H a (.dT (kvO kv'))) (env.set i (.dct kv')) σ ∧ Fm env σ F H (env.set i (.dct kv')) F (upd H a (.dT (kvO kv'))) := by
  have s := R.sl i
  rw [e] at s
  obtain ⟨b, h1, h2, h3⟩ := s
  rw [ha] at h1
  cases h1
  have il : i < env.length := (List.getElem?_eq_some_iff.mp e).1
  have ow : ∀ {j : Nat} {m : Bool} {es : List PyData}, (env.set i (.dct kv'))[j]? = some (Sl.own m es) → env[j]? = some (Sl.own m es) := fun {j m es} h => by
    by_cases hj : i = j
    · subst hj
      rw [List.getElem?_set_self il] at h
      cases h
    · rw [List.getElem?_set_ne hj] at h
      exact h
  have od : ∀ {j : Nat} {kw : List (List Int × PyData)}, (env.set i (.dct kv'))[j]? = some (Sl.dct kw) → ∃ kx, env[j]? = some (Sl.dct kx) := fun {j kw} h => by
    by_cases hj : i = j
    · subst hj
      exact ⟨kv, e⟩
    · rw [List.getElem?_set_ne hj] at h
      exact ⟨kw, h⟩
  have own_a : ownAt env σ a := .inr ⟨i, kv, e, ha⟩
  refine ⟨⟨by rw [List.length_set]; exact R.len, fun b x q => ?_, fun j => ?_, fun j k m n es fs b h5 h6 h7 h8 => R.dist j k m n es fs b (ow h5) (ow h6) h7 h8, R.sub0, R.new, fun b x q n => ?_, fun b q => ?_, fun j es b h5 h6 => R.own0 j es b (ow h5) h6, fun j es b h5 h6 => R.own1 j es b (ow h5) h6, R.lsl, fun j k kv kw b h5 h6 h7 h8 => ?_, fun j kv b h5 h6 => ?_⟩, ⟨fun b x q n => ?_, fun _ _ q => q, fun _ _ q => .inl q, fun j m es h => ⟨es, ow h⟩, fun b q => ?_, fun j kv h => od h⟩⟩
  · rw [upd_ne]
    · exact R.sub b x q
    · rintro rfl
      rw [h3] at q
      cases q
  · by_cases hj : i = j
    · subst hj
      rw [List.getElem?_set_self il]
      exact ⟨a, ha, upd_same, h3⟩
    · rw [List.getElem?_set_ne hj]
      have s := R.sl j
      cases q : env[j]? with
      | none => trivial
      | some z =>
        rw [q] at s
        cases z with
        | un => trivial
        | val d => exact s
        | own m es =>
          obtain ⟨c, ws, g1, g2, g3, g4⟩ := s
          refine ⟨c, ws, g1, ?_, g3, g4⟩
          rw [upd_ne]
          · exact g2
          · rintro rfl
            rw [h2] at g2
            cases g2
        | dct kw =>
          obtain ⟨c, g1, g2, g3⟩ := s
          refine ⟨c, g1, ?_, g3⟩
          rw [upd_ne]
          · exact g2
          · rintro rfl
            exact hj (R.dd i j kv kw c e q ha g1)
  · rw [upd_ne]
    · exact R.frm b x q n
    · rintro rfl
      rw [R.d0 i kv b e ha] at q
      cases q
  · by_cases hb : b = a
    · subst hb
      rw [upd_same]
      simp
    · rw [upd_ne hb]
      exact R.dom b q
  · obtain ⟨k1, h9⟩ := od h5
    obtain ⟨k2, h10⟩ := od h6
    exact R.dd j k k1 k2 b h9 h10 h7 h8
  · obtain ⟨k1, h9⟩ := od h5
    exact R.d0 j k1 b h9 h6
  · rw [upd_ne]
    · exact q
    · rintro rfl
      exact n own_a
  · by_cases hb : b = a
    · subst hb
      rw [upd_same]
      simp
    · rw [upd_ne hb]
      exact q
theorem ints_key (ks : List Int) : (ks.map (Sum.inl : Int → Key)).map kV = ks.map V.int := by
  rw [List.map_map]
  rfl
/-- F takes in tuples of ints that stand in H -/
theorem Rl.keys : ∀ (kvs : List (List Int × PyData)) (bs : List Addr) (F : Hp), Rl K B F H env σ → IsKeys H (kvO kvs) bs → ∃ F2, Rl K B F2 H env σ ∧ Fm env σ F H env F2 H ∧ RpAll K F2 (bs.map V.ref) (kvs.map fun p => .tuple (p.1.map .int))
  | [], _, F, R, h => by
    cases h
    exact ⟨F, R, Fm.refl, .nil⟩
  | p :: kvs, _, F, R, h => by
    unfold IsKeys kvO at h
    rw [List.map_cons] at h
    cases h with
    | @cons _ b _ bs h1 h2 =>
      obtain ⟨F2, R2, f2, r2⟩ := Rl.keys kvs bs F R h2
      replace h1 : H b = some (.tup (p.1.map V.int)) := by
        rw [← ints_key]
        exact h1
      cases q : F2 b with
      | some x =>
        have q2 := R2.sub b x q
        rw [h1] at q2
        cases q2
        exact ⟨F2, R2, f2, .cons (.tup q (RpAll.of_ints _)) r2⟩
      | none =>
        have nb : ¬ ownAt env σ b := fun z => by
          obtain ⟨ob, z1, _, z3⟩ := R.ownH z
          rw [h1] at z1
          cases z1
          rcases z3 with ⟨_, z3⟩ | ⟨_, z3⟩ <;> cases z3
        have s1 : Same F2 (upd F2 b (.tup (p.1.map V.int))) := fun c x e => by rw [upd_ne (ne_of_none e q)]; exact e
        refine ⟨upd F2 b (.tup (p.1.map V.int)), ?_, ⟨f2.keep, f2.sub.trans s1, fun c x e => ?_, f2.own, f2.dom, f2.od⟩, .cons (.tup upd_same (RpAll.of_ints _)) (RpAll.mono s1 _ _ r2)⟩
        · refine ⟨R2.len, fun c x e => ?_, fun i => ?_, R2.dist, R2.sub0.trans s1, fun c x e => ?_, R2.frm, R2.dom, R2.own0, R2.own1, R2.lsl, R2.dd, R2.d0⟩
          · by_cases hc : c = b
            · subst hc
              rw [upd_same] at e
              cases e
              exact h1
            · rw [upd_ne hc] at e
              exact R2.sub c x e
          · have s := R2.sl i
            cases qi : env[i]? with
            | none => trivial
            | some z =>
              rw [qi] at s
              cases z with
              | un => trivial
              | val d =>
                obtain ⟨v, g1, g2⟩ := s
                exact ⟨v, g1, Rp.mono s1 _ _ g2⟩
              | own l ds =>
                obtain ⟨a, vs, g1, g2, g3, g4⟩ := s
                refine ⟨a, vs, g1, g2, ?_, RpAll.mono s1 _ _ g4⟩
                rw [upd_ne (fun z => nb (.inl ⟨i, l, ds, qi, by rw [← z]; exact g1⟩))]
                exact g3
              | dct kv =>
                obtain ⟨a, g1, g2, g3⟩ := s
                refine ⟨a, g1, g2, ?_⟩
                rw [upd_ne (fun z => nb (.inr ⟨i, kv, qi, by rw [← z]; exact g1⟩))]
                exact g3
          · by_cases hc : c = b
            · subst hc
              rw [upd_same] at e
              cases e
              exact .inr (.inr ⟨_, rfl⟩)
            · rw [upd_ne hc] at e
              exact R2.new c x e
        · by_cases hc : c = b
          · subst hc
            rw [upd_same] at e
            cases e
            exact .inr (.inl (.inr ⟨h1, _, rfl⟩))
          · rw [upd_ne hc] at e
            exact f2.new c x e
end

section
variable {B : Bs} {W : WX} {X : Cx} {x : Str} {a e : Expr} {wi w : WE} {p p2 pos pos' spos : Pos}
/-- x = {} -/
def wNewD (i : Nat) : WS := fun env k => k.nx (env.set i (.dct []))
theorem ds_newD (i : Nat) (nl : ∀ p ∈ B.all, p.1 ≠ i) (hN : X.N.Nodup) (hi : X.N[i]? = some x := by rfl) (hx : Loc X.env.scope x := by first | exact Or.inl rfl | exact Or.inr rfl) (hs : swapsWith (.Dict [] [] p2) (some (.Name x pos')) pos.line X.env = pure false := by rfl)
    (hf : X.fn x = true ∨ X.env.scope.names.lookup x = some .local := by first | exact .inl rfl | exact .inr rfl) : DS B W X (.Assign [.Name x pos'] (.Dict [] [] p2) pos) (wNewD i) := by
  refine ⟨fun pins s σ F H env k I R h hxx => ?_⟩
  refine wpAny_Assign_Name (thn (pe_dnewT.run pins s σ H (fun v H' => ∃ b, H b = none ∧ v = .ref b ∧ H' = upd H b (.dT [])) I fun b hb => ⟨b, hb, rfl, rfl⟩) fun v s1 ⟨y, H1, I1, r1, b, hb, e1, e2⟩ => ?_) hs
  subst e1 e2
  have il : i < σ.length := by rw [I.len]; exact (List.getElem?_eq_some_iff.mp hi).1
  have R1 := R.lay (o := .dT []) hb
  have R2 := R1.put (i := i) (v := .ref b) (s := .dct []) il nl ⟨b, rfl, upd_same, R.freeF hb⟩ (fun l ds e => by cases e) (fun kv e a ea => by cases ea; exact ⟨R.notOwn hb, R.free0 hb⟩)
  exact store_ok I1 hN hi hx r1 (fun s2 I2 => ⟨_, _, F, _, I2, R2, Same.refl _, h⟩) hf
/-- x[k] = e -/
def wPutD (i : Nat) (wi w : WE) : WS := fun env k => w env (fun env1 r => ∃ d, r = .val d ∧ scD d ∧ isDct env1 i ∧ wi env1 (fun env2 r2 => ∃ ks kvs, r2 = .val (.tuple (ks.map .int)) ∧ env2[i]? = some (Sl.dct kvs) ∧ kvs.length < sizeLine ∧ k.nx (env2.set i (.dct (putD kvs ks d)))) k.ex) k.ex
theorem ds_putD (i : Nat) (hu : X.A.units + 65 < cLine) (he : DE B W X e w) (hi : DE B W X a wi) (hN : X.N[i]? = some x := by rfl) (hv : Vis X.env.scope x := by first | exact Or.inl rfl | exact Or.inr (Or.inl rfl) | exact Or.inr (Or.inr rfl)) (hd : (x == ("__debug__" : Str)) = false := by decide) (hcd : (x == ("__classdict__" : Str)) = false := by decide)
    (ha : ∀ v, assign (.Subscript (.Name x p) a spos) X.env v = (do
      let ov ← holding [v] (eval (.Name x p) X.env)
      let iv ← holding [v, ov] (eval a X.env)
      standAt spos
      holding [v, ov, iv] (setItem ov iv v)
      release [v, ov, iv] []) := by intro _; rfl)
    (hs : swapsWithSole [.Subscript (.Name x p) a spos] e pos.line X.env = pure false := by rfl) (hw : swappedStores [.Subscript (.Name x p) a spos] e X.env = pure none := by rfl)
    (h1 : (assignEach [.Subscript (.Name x p) a spos] X.env).map (·.2) = [assign (.Subscript (.Name x p) a spos) X.env] := by rfl) : DS B W X (.Assign [.Subscript (.Name x p) a spos] e pos) (wPutD i wi w) := by
  refine ⟨fun pins s σ F H env k I R h hx => ?_⟩
  refine wpAny_Assign_stores (thn (he.run pins s σ F H env _ k.ex I R h hx) fun v s1 ⟨y, env1, r, F1, H1, I1, r1, R1, f1, q1, n1, d, er, sd, ⟨kv0, e0⟩, k1⟩ => ?_) hs hw
  subst er
  have rp : Rp X.K F1 y d := q1
  obtain rfl := rp.scD sd
  obtain ⟨ad, g1, g2, g3⟩ := R1.dctSl e0
  rw [h1]
  have pg := pg_sub (pe_var (pos := p) hN hv hd hcd) hi.pe (set_dict (X := X) (by omega)) ha
  refine thn (pg.run pins s1 σ H1 (vOf d) v (fun σ' H' => σ' = σ ∧ ∃ env' F', Rl X.K B F' H' env' σ ∧ Same F F' ∧ k.nx env') I1 r1 ?_) fun _ s2 ⟨σ', H', I', e2, env', F', h2, sm, h3⟩ => by
    subst e2
    exact ⟨σ', env', F', H', I', h2, sm, h3⟩
  refine ⟨.ref ad, g1, F1, env1, _, k.ex, R1, k1, hx, fun v' env2 r2 F3 H3 R3 f3 q3 n3 ⟨ks, kvs, e3, e4, hl, k2⟩ => ?_⟩
  subst e3
  have q3' : Rp X.K F3 v' (.tuple (ks.map .int)) := q3
  cases q3' with
  | @tup b xs _ t1 t2 =>
    have e5 := t2.ints
    subst e5
    obtain ⟨ad', m1, m2, m3⟩ := R3.dctSl e4
    rw [g1] at m1
    cases m1
    obtain ⟨R4, f4⟩ := R3.mutD (kv' := putD kvs ks d) e4 g1
    refine ⟨ad, _, rfl, DPut.t (k := ks.map Sum.inl) m2 ?_ ?_, rfl, env2.set i (.dct (putD kvs ks d)), F3, ?_, f1.sub.trans f3.sub, k2⟩
    · rw [ints_key]
      exact R3.sub b _ t1
    · unfold kvO
      rw [List.length_map]
      exact hl
    · rw [← kvO_put]
      exact R4
/-- len(x) -/
def wLenD (i : Nat) : WE := fun env Ke _ => ∃ kvs, env[i]? = some (Sl.dct kvs) ∧ Ke env (.val (.int kvs.length))
/-- list(x): the keys, as they came -/
def wListD (i : Nat) : WE := fun env Ke _ => ∃ kvs, env[i]? = some (Sl.dct kvs) ∧ Ke env (.tmp (kvs.map fun p => .tuple (p.1.map .int)))
end
end Dl
end L2

/-! The D layer, 30: sorted(set(t)), t a tuple of ints. -/
namespace L2
namespace Dl
open PySem PySem.Spec PyProof.Rows
def oSortSetI (xs : List PyData) (K : Rs → Prop) : Prop := ∃ zs : List Int, xs = zs.map .int ∧ zs.length < 64 ∧ ∀ ns : List Int, ns.Pairwise (· < ·) → (∀ k, k ∈ ns ↔ k ∈ zs) → K (.tmp (ns.map .int))
def wSortSetI (w : WE) : WE := fun env Ke Kx => w env (fun env1 r => ∃ xs, r = .val (.tuple xs) ∧ oSortSetI xs (Ke env1)) Kx
section
variable {B : Bs} {W : WX} {X : Cx} {e : Expr} {w : WE} {p p2 q pos : Pos}
end
end Dl
end L2

/-! The D layer, 31: min of a list of things that can be compared. -/
namespace L2
namespace Dl
open PySem PySem.Spec PyProof.Rows
def oMinL : OpN := fun ds K => match ds with
  | [.list (x :: xs)] => PySem.W.AlikeAll (x :: xs) ∧ (∀ d ∈ x :: xs, SeqAt.shaped d = true) ∧ K (.val (PySem.W.minD x xs))
  | _ => False
section
variable {X : Cx}
theorem readsAll_of {pins : List (Addr × Obj)} {σ : St} {F H : Hp} {s : Shared} (I : Inv X pins σ H s) (sm : Same F H) : ∀ {vs : List V} {us : List Value} {ds : List PyData}, Vals vs us → RpAll X.K F vs ds → (∀ d ∈ ds, SeqAt.shaped d = true) → ∃ as, ReadsAll s.heap us ds as
  | _, _, _, .nil, h, _ => by cases h; exact ⟨_, .nil⟩
  | _, _, _, .cons r t, h, hs => by
    cases h with
    | cons a b =>
      obtain ⟨bs, h2⟩ := readsAll_of I sm t b fun d hd => hs d (List.mem_cons_of_mem _ hd)
      obtain ⟨as, h1⟩ := Dp.reads I _ _ _ (Rt.dp sm (.inl a) (hs _ List.mem_cons_self)) r
      exact ⟨_, .cons h1 h2⟩
theorem vals_back : ∀ {xs : List V} {us : List Value} {i : Nat} {u : Value}, Vals xs us → us[i]? = some u → ∃ x, xs[i]? = some x ∧ RelV x u
  | _, _, _, _, .nil, e => by simp at e
  | _, _, 0, _, .cons r _, e => by simp at e; subst e; exact ⟨_, rfl, r⟩
  | _, _, i + 1, _, .cons _ t, e => by
    obtain ⟨x, h1, h2⟩ := vals_back (i := i) t (by simpa using e)
    exact ⟨x, by simpa using h1, h2⟩
theorem depthAll_le {n : Nat} : ∀ {ds : List PyData}, (∀ d ∈ ds, d.depth ≤ n) → PyData.depthAll ds ≤ n
  | [], _ => Nat.zero_le _
  | d :: ds, h => Nat.max_le.mpr ⟨h d List.mem_cons_self, depthAll_le fun e he => h e (List.mem_cons_of_mem _ he)⟩
theorem dcl_minL (hc : X.calm = true) (hu : X.A.units + 67 < cLine) : DCl X (.builtin "min") oMinL := by
  refine ⟨fun B F env pins s σ H xs us ds Kr I rx R hx q => ?_⟩
  unfold oMinL at q
  split at q
  · rename_i x0 ds0
    obtain ⟨q1, q2, q3⟩ := q
    obtain ⟨v, rfl, hv⟩ := hx.one
    obtain ⟨a, vs, rfl, hs, ha⟩ := hv.list R.sub
    obtain ⟨its, rv, pl, hz⟩ := I.list hs
    rw [Vals.ref1 rx]
    obtain ⟨as, hr⟩ := readsAll_of I R.sub rv ha q2
    have e2 := ha.length
    have e1 := rv.length
    rw [List.length_cons] at e2
    have hd : PyData.depthAll (x0 :: ds0) ≤ 64 := depthAll_le fun d hd => SeqAt.depth_of_shaped (q2 d hd)
    refine call_min_walkH (PySem.W.iter_listW (A := X.A.in1) (I.ok.hd hc) pl.isList fun s₂ e W st hfp hw hk => ?_)
    refine ⟨_, _, _, _, _, _, _, s.heap, _, rfl, W, st, hfp, by rw [List.size_toArray]; omega, hw, hk, PySem.W.cmpIn_lt (A := X.A.in1) (xs := x0 :: ds0) (as := as) (by simpa using hr) q1 (by show X.A.units + 1 + _ < _; omega), fun u s' hP m => ?_⟩
    obtain ⟨h', tk, rfl, hk'⟩ := PySem.W.moved_old e rfl m
    have e3 := (PySem.W.argBest_fold PySem.W.dataLt PyData.none x0 ds0 ds0.length (Nat.le_refl _)).2
    rw [List.take_length] at e3
    have e4 : its.toArray.size - 1 = ds0.length := by rw [List.size_toArray]; omega
    rw [e4] at hP
    generalize argBest (fun i j => PySem.W.dataLt ((x0 :: ds0).getD i PyData.none) ((x0 :: ds0).getD j PyData.none)) ds0.length = j at e3 hP
    have hP2 : its[j]? = some u := by simpa using hP
    obtain ⟨y, hy, ry⟩ := vals_back rv hP2
    obtain ⟨d, hd2, rp⟩ := ha.get2 hy
    have e5 : d = PySem.W.minD x0 ds0 := by
      rw [List.getD_eq_getElem?_getD, hd2] at e3
      exact e3
    subst e5
    exact ⟨y, .val (PySem.W.minD x0 ds0), F, H, I.kept (t' := tk) hk', ry, R, Fm.refl, rp, trivial, q3⟩
  · exact q.elim
end
end Dl
end L2

/-! The D layer, 32: len(set(xs)), xs tuples of ints. -/
namespace L2
namespace Dl
open PySem PySem.Spec PyProof.Rows
def oLenSet (xs : List PyData) (K : Rs → Prop) : Prop := ∃ (L : List (List Int)), xs = L.map tupI ∧ L.length < 64 ∧ ∀ M : List (List Int), M.Nodup → (∀ l, l ∈ M ↔ l ∈ L) → K (.val (.int M.length))
def wLenSet (w : WE) : WE := fun env Ke Kx => w env (fun env1 r => ∃ xs, (rd env1 r = some (.list xs) ∨ rd env1 r = some (.tuple xs)) ∧ oLenSet xs (Ke env1)) Kx
section
variable {B : Bs} {W : WX} {X : Cx} {e : Expr} {w : WE} {p p2 q pos : Pos}
end
end Dl
end L2

/-! The D layer, 33: list(zip(xs, t)), xs a list, t a tuple. -/
namespace L2
namespace Dl
open PySem PySem.Spec PyProof.Rows RZ PySem.Calls
open PySem.Sem (wp)
section
variable {prog : Program} {w : World} {A : Around} {E : Value → Shared → Prop} {s : Shared}
/-- the zip at its k-th turn, its first tuple out or none yet -/
def ZSt (h : Heap) (S z TI TO i1 i2 l1 l2 : Addr) (k : Nat) : Prop := IsPair h TI (.ref i1) (.ref i2) ∧ h.IsListIter i1 l1 k ∧ h.IsTupleIter i2 l2 k ∧
  ((IsZip h z TI TO .none ∧ ∃ a b, IsPair h TO a b) ∨ ∃ T f oT, IsZipHeld h z TI TO T f ∧ h.get? T = some oT ∧ T ≠ z ∧ T ≠ i1 ∧ T ≠ i2 ∧ T ≠ S)
end
theorem ZSt.keep {h h' : Heap} {S z TI TO i1 i2 l1 l2 : Addr} {k : Nat} (x : ZSt h S z TI TO i1 i2 l1 l2 k) (up : ∀ b o, b ≠ S → h.get? b = some o → h'.get? b = some o) (nz : z ≠ S) (nTI : TI ≠ S) (nTO : TO ≠ S) (n1 : i1 ≠ S) (n2 : i2 ≠ S) : ZSt h' S z TI TO i1 i2 l1 l2 k := by
  obtain ⟨hTI, g1, g2, q⟩ := x
  refine ⟨up _ _ nTI hTI, g1.at fun o e => up _ o n1 e, g2.at fun o e => up _ o n2 e, ?_⟩
  rcases q with ⟨hz, a, b, hTO⟩ | ⟨T, f, oT, hz, hT, tz, t1, t2, t3⟩
  · exact .inl ⟨up _ _ nz hz, a, b, up _ _ nTO hTO⟩
  · exact .inr ⟨T, f, oT, up _ _ nz hz, up _ _ t3 hT, tz, t1, t2, t3⟩
/-- the pairs that were made -/
structure MadeZ (xs ys : Array Value) (lo : Addr) (h : Heap) (as : List Addr) : Prop where
  rise : as.Pairwise (· < ·)
  above : ∀ a ∈ as, lo < a
  pairs : ∀ (j : Nat) (a : Addr), as[j]? = some a → ∃ x y, xs[j]? = some x ∧ ys[j]? = some y ∧ IsPair h a x y
theorem MadeZ.there {xs ys : Array Value} {lo : Addr} {h : Heap} {as : List Addr} (g : MadeZ xs ys lo h as) {a : Addr} (ha : a ∈ as) : a < h.objs.size := by
  obtain ⟨j, hj⟩ := List.mem_iff_getElem?.mp ha
  obtain ⟨_, _, _, _, e⟩ := g.pairs j a hj
  exact Heap.lt_size e
section
variable {prog : Program} {w : World} {A : Around} {s : Shared} {R : Result → Shared → Prop} {xs ys : Array Value}
end
section
variable {prog : Program} {w : World} {A : Around} {E : Value → Shared → Prop} {s : Shared} {xs ys : Array Value}
end
end Dl
end L2

/-! The D layer, 34: list(zip(xs, t)) by value. -/
namespace L2
namespace Dl
open PySem PySem.Spec PyProof.Rows RZ
section
variable {K : PySem.W.Frag} {B : Bs} {H : Hp} {env : Ev} {σ : St}
end
def wLstZ (wf : WF) : WE := fun env Ke Kx => wf env (fun env' ds => ∃ xs ys, ds = [.list xs, .tuple ys] ∧ xs.length ≤ sizeLine ∧ Ke env' (.tmp (zipD xs ys))) Kx
section
variable {B : Bs} {W : WX} {X : Cx} {e e2 : Expr} {wf : WF} {p p2 q pos : Pos}
end
end Dl
end L2

/-! The D layer, 35: xs.insert(i, y) of a list of one's own. -/
namespace L2
namespace Dl
open PySem PySem.Spec PyProof.Rows
def wIns (i : Nat) (w1 w2 : WE) : WE := fun env Ke Kx => isOwn env i ∧ w1 env (fun env1 r1 => ∃ n, r1 = .val (.int n) ∧ 0 ≤ n ∧ n < 2 ^ 63 ∧ wFz w2 env1 (fun env2 d => ∃ l ds, env2[i]? = some (Sl.own l ds) ∧ ds.length < sizeLine ∧ Ke (env2.set i (.own l (ds.take n.toNat ++ [d] ++ ds.drop n.toNat))) (.val .none)) Kx) Kx
section
variable {B : Bs} {W : WX} {X : Cx} {x : Str} {e e2 : Expr} {w1 w2 : WE} {p apos cpos : Pos}
end
end Dl
end L2

/-! The D layer, 36: a function as the first argument of a def. -/
namespace L2
namespace Dl
open PySem PySem.Spec PyProof.Rows

/-- a def whose first argument is the module's function g -/
def lowF (K : PySem.W.Frag) (mg : Str → Option Value) (g : Str) (n : Nat) (S : Spc) : Sp := fun vs H Q E => ∃ (ga : Addr) (vs' : List V) (F : Hp) (avs : List AV) (Kr : List (List PyData) → Rv → Prop) (Kx : List (List PyData) → XD → Prop), mg g = some (.ref ga) ∧ vs = .ref ga :: vs' ∧ Same F H ∧ ArgsR K F H vs' avs ∧ lentAs vs' avs = [] ∧ avs.length = n ∧ S avs Kr Kx ∧
  (∀ outs r F' H' v, Aft K F H [] F' H' outs → RvR K H F' H' v r → Kr outs r → Q v H') ∧
  (∀ outs x cls d F' H', Aft K F H [] F' H' outs → XRm K mg F' H' x cls d → Kx outs x → E cls d H')
/-- such a def by its name in the module -/
def CalF (P : Program) (w : World) (K : PySem.W.Frag) (mg : Str → Option Value) (base : Heap) (k : Nat) (x : Str) (n : Nat) (g : Str) (S : Spc) : Prop :=
  ∃ f fd ps, ps.length = n + 1 ∧ mg x = some (.ref f) ∧ PySem.W.keepIn K (.ref f) = true ∧ Binds K fd ps [] ∧ FnOk P w K mg base (L2N.CX P w) k f fd ps (lowF K mg g n S)
/-- the slot i holds the module's function g -/
def FnAt (X : Cx) (B : Bs) (i : Nat) (g : Str) : Prop := ∃ ga : Addr, X.mg g = some (.ref ga) ∧ (i, ga) ∈ B.all
section
variable {K : PySem.W.Frag} {B : Bs} {F H : Hp} {env : Ev} {σ : St}
/-- one more slot, ahead, that holds a function -/
theorem Rl.push {mg : Str → Option Value} {F0 H0 : Hp} {ga : Addr} (R : Rl K { H0 := H0, F0 := F0, lent := [], mg := mg } F H env σ) : Rl K { H0 := H0, F0 := F0, lent := [], mg := mg, fns := [(0, ga)] } F H (.un :: env) (some (.ref ga) :: σ) := by
  refine ⟨by rw [List.length_cons, List.length_cons, R.len], R.sub, fun j => ?_, fun i j l m ds es a h1 h2 h3 h4 => ?_, R.sub0, R.new, R.frm, R.dom, fun i ds a h1 h2 => ?_, fun i ds a h1 h2 => ?_, fun p hp => ?_, fun i j kv kw a h1 h2 h3 h4 => ?_, fun i kv a h1 h2 => ?_⟩
  · cases j with
    | zero => trivial
    | succ j => exact R.sl j
  · cases i with
    | zero => cases h1
    | succ i =>
      cases j with
      | zero => cases h2
      | succ j => exact congrArg Nat.succ (R.dist i j l m ds es a h1 h2 h3 h4)
  · cases i with
    | zero => cases h1
    | succ i => exact R.own0 i ds a h1 h2
  · cases i with
    | zero => cases h1
    | succ i => exact R.own1 i ds a h1 h2
  · have hp' : p ∈ [(0, ga)] := hp
    rw [List.mem_singleton] at hp'
    subst hp'
    rfl
  · cases i with
    | zero => cases h1
    | succ i =>
      cases j with
      | zero => cases h2
      | succ j => exact congrArg Nat.succ (R.dd i j kv kw a h1 h2 h3 h4)
  · cases i with
    | zero => cases h1
    | succ i => exact R.d0 i kv a h1 h2
end
section
variable {P : Program} {w : World} {K : PySem.W.Frag} {mg : Str → Option Value} {base : Heap}
theorem CalF.mono {j k n : Nat} {x g : Str} {S : Spc} (c : CalF P w K mg base j x n g S) (h : j ≤ k) : CalF P w K mg base k x n g S := by
  obtain ⟨f, fd, ps, h0, h1, h2, h3, h4⟩ := c
  exact ⟨f, fd, ps, h0, h1, h2, h3, h4.mono h⟩
end
theorem FnAt.eq {X : Cx} {B B' : Bs} {i : Nat} {g : Str} (h : FnAt X B i g) (e : B'.all = B.all) : FnAt X B' i g := by
  obtain ⟨ga, h1, h2⟩ := h
  exact ⟨ga, h1, by rw [e]; exact h2⟩
/-- f(g, e, ..): nothing is lent -/
def wCallF (n : Nat) (S : Spc) (wm : WM) : WE := fun env Ke Kx => wm env (fun env' as => lnsOf as = [] ∧ ∃ avs, avsOf env' as = some avs ∧ avs.length = n ∧ S avs (fun _ r => Ke env' (rsOf r)) (fun _ x => Kx env' x)) Kx
section
variable {B : Bs} {W : WX} {X : Cx} {k n i : Nat} {x g : Str} {S : Spc} {e : Expr} {es : List Expr} {wm : WM} {p p0 pos : Pos}
end
end Dl
end L2

/-! The D layer, 37: a list of lists of one's own, each made longer in its place. -/
namespace L2
namespace Dl
open PySem PySem.Spec PyProof.Rows L2H

/-- slots that hold nothing that can change -/
def plainE (env : Ev) : Prop := ∀ (j : Nat) (s : Sl), env[j]? = some s → s = .un ∨ ∃ d, s = .val d ∧ tupD d = true
theorem plainE.own {env : Ev} (h : plainE env) {j : Nat} {l : Bool} {ds : List PyData} (e : env[j]? = some (Sl.own l ds)) : False := by
  rcases h j _ e with z | ⟨d, z, _⟩ <;> cases z
theorem plainE.dct {env : Ev} (h : plainE env) {j : Nat} {kv : List (List Int × PyData)} (e : env[j]? = some (Sl.dct kv)) : False := by
  rcases h j _ e with z | ⟨d, z, _⟩ <;> cases z
theorem plainE.no {env : Ev} (h : plainE env) {σ : St} {b : Addr} (o : ownAt env σ b) : False := by
  rcases o with ⟨j, l, ds, h1, _⟩ | ⟨j, kv, h1, _⟩
  · exact h.own h1
  · exact h.dct h1
/-- the list a of the lists qs: known to none; dss is what they hold -/
structure Nest (K : PySem.W.Frag) (B : Bs) (F H : Hp) (a : Addr) (qs : List Addr) (dss : List (List PyData)) : Prop where
  len : qs.length = dss.length
  out : H a = some (.lst (qs.map V.ref))
  fa : F a = none
  ba : B.H0 a = none
  na : a ∉ qs
  nd : qs.Nodup
  inn : ∀ (j : Nat) (q : Addr) (ds : List PyData), qs[j]? = some q → dss[j]? = some ds → F q = none ∧ B.H0 q = none ∧ ∃ ws, H q = some (.lst ws) ∧ RpAll K F ws ds
section
variable {K : PySem.W.Frag} {B : Bs} {F F' H H' : Hp} {env env' : Ev} {σ : St} {a : Addr} {qs : List Addr} {dss : List (List PyData)}
theorem Nest.at (N : Nest K B F H a qs dss) {q : Addr} (h : q ∈ qs) : F q = none ∧ B.H0 q = none ∧ ∃ ws, H q = some (.lst ws) := by
  obtain ⟨j, hj, rfl⟩ := List.mem_iff_getElem.mp h
  obtain ⟨h1, h2, ws, h3, _⟩ := N.inn j _ (dss[j]'(by rw [← N.len]; exact hj)) (List.getElem?_eq_getElem hj) (List.getElem?_eq_getElem _)
  exact ⟨h1, h2, ws, h3⟩
theorem Nest.in1 (N : Nest K B F H a qs dss) {b : Addr} (h : b = a ∨ b ∈ qs) : F b = none ∧ B.H0 b = none ∧ ∃ ws, H b = some (.lst ws) := by
  rcases h with rfl | h
  · exact ⟨N.fa, N.ba, _, N.out⟩
  · exact N.at h
/-- what is done beside it leaves it -/
theorem Nest.step (N : Nest K B F H a qs dss) (k : ∀ b x, H b = some x → H' b = some x) (s : Same F F') (f : ∀ b ws, F b = none → H b = some (.lst ws) → F' b = none) : Nest K B F' H' a qs dss :=
  ⟨N.len, k _ _ N.out, f _ _ N.fa N.out, N.ba, N.na, N.nd, fun j q ds h1 h2 => by
    obtain ⟨g1, g2, ws, g3, g4⟩ := N.inn j q ds h1 h2
    exact ⟨f _ _ g1 g3, g2, ws, k _ _ g3, RpAll.mono s _ _ g4⟩⟩
/-- all of it looked at as if it stood still -/
def nestF (F H : Hp) (a : Addr) (qs : List Addr) : Hp := fun b => if b = a ∨ b ∈ qs then H b else F b
theorem nestF_in {b : Addr} (h : b = a ∨ b ∈ qs) : nestF F H a qs b = H b := if_pos h
theorem nestF_out {b : Addr} (h : ¬ (b = a ∨ b ∈ qs)) : nestF F H a qs b = F b := if_neg h
theorem Nest.up (N : Nest K B F H a qs dss) : Same F (nestF F H a qs) := fun b x e => by
  rw [nestF_out fun z => by rw [(N.in1 z).1] at e; cases e]
  exact e
theorem Nest.rp (N : Nest K B F H a qs dss) : Rp K (nestF F H a qs) (.ref a) (.list (dss.map .list)) := by
  refine .lst (xs := qs.map V.ref) (SqL.of (by rw [nestF_in (.inl rfl)]; exact N.out)) ?_
  have gen : ∀ (qs' : List Addr) (dss' : List (List PyData)), qs'.length = dss'.length → (∀ (j : Nat) q ds, qs'[j]? = some q → dss'[j]? = some ds → q ∈ qs ∧ ∃ ws, H q = some (.lst ws) ∧ RpAll K F ws ds) → RpAll K (nestF F H a qs) (qs'.map V.ref) (dss'.map .list) := by
    intro qs'
    induction qs' with
    | nil =>
      intro dss' hl _
      cases dss' with
      | nil => exact .nil
      | cons _ _ => cases hl
    | cons q qs' ih =>
      intro dss' hl h
      cases dss' with
      | nil => cases hl
      | cons ds dss' =>
        obtain ⟨h1, ws, h2, h3⟩ := h 0 q ds rfl rfl
        refine .cons (.lst (SqL.of (by rw [nestF_in (.inr h1)]; exact h2)) (RpAll.mono N.up _ _ h3)) (ih dss' (by simpa using hl) fun j q ds e1 e2 => h (j + 1) q ds (by simpa using e1) (by simpa using e2))
  refine gen qs dss N.len fun j q ds e1 e2 => ?_
  obtain ⟨_, _, ws, g3, g4⟩ := N.inn j q ds e1 e2
  exact ⟨List.mem_of_getElem? e1, ws, g3, g4⟩
/-- the ground of a run that may change nothing that stands -/
abbrev still (F H : Hp) (i : Nat) (a : Addr) (mg : Str → Option Value) : Bs := { H0 := H, F0 := F, lent := [], mg := mg, fns := [(i, a)] }
/-- few things are to be shown where the slots are plain -/
theorem rl_plain (hl : B.lent = []) (len : env.length = σ.length) (hp : plainE env) (sub : Same F H) (sl : ∀ i : Nat, slR K F H env[i]? σ[i]?) (sub0 : Same B.F0 F) (new : ∀ b x, F b = some x → B.F0 b = some x ∨ Nw0 B.H0 b x)
    (frm : ∀ b x, B.H0 b = some x → H b = some x) (lsl : ∀ p ∈ B.all, σ[p.1]? = some (some (.ref p.2))) : Rl K B F H env σ :=
  ⟨len, sub, sl, fun _ _ _ _ _ _ _ h => (hp.own h).elim, sub0, new, fun b x e _ => frm b x e, fun b e => by
    cases q : B.H0 b with
    | none => exact absurd q e
    | some x => rw [frm b x q]; simp, fun _ _ _ h => (hp.own h).elim, fun _ _ _ h => (hp.own h).elim, lsl, fun _ _ _ _ _ h => (hp.dct h).elim, fun _ _ _ h => (hp.dct h).elim⟩
theorem Rl.frm0 (R : Rl K B F H env σ) (hl : B.lent = []) {b : Addr} {x : HO} (h : B.H0 b = some x) : H b = some x := R.frm b x h fun p hp => by rw [hl] at hp; cases hp
/-- the frozen look, over a ground that may change nothing -/
theorem Nest.frozen {i : Nat} (N : Nest K B F H a qs dss) (R : Rl K B F H env σ) (hp : plainE env) (hi : σ[i]? = some (some (.ref a))) : Rl K (still (nestF F H a qs) H i a B.mg) (nestF F H a qs) H (env.set i (.val (.list (dss.map .list)))) σ := by
  have il : i < env.length := by rw [R.len]; exact (List.getElem?_eq_some_iff.mp hi).1
  have no : ∀ {j : Nat} {l : Bool} {ds : List PyData}, (env.set i (.val (.list (dss.map .list))))[j]? = some (Sl.own l ds) → False := fun {j l ds} e => by
    by_cases z : i = j
    · subst z
      rw [List.getElem?_set_self il] at e
      cases e
    · rw [List.getElem?_set_ne z] at e
      exact hp.own e
  have nd : ∀ {j : Nat} {kv : List (List Int × PyData)}, (env.set i (.val (.list (dss.map .list))))[j]? = some (Sl.dct kv) → False := fun {j kv} e => by
    by_cases z : i = j
    · subst z
      rw [List.getElem?_set_self il] at e
      cases e
    · rw [List.getElem?_set_ne z] at e
      exact hp.dct e
  refine ⟨by rw [List.length_set]; exact R.len, fun b x e => ?_, fun j => ?_, fun _ _ _ _ _ _ _ h => (no h).elim, Same.refl _, fun _ _ h => .inl h, fun _ _ h _ => h, fun _ h => h, fun _ _ _ h => (no h).elim, fun _ _ _ h => (no h).elim, fun p hq => ?_, fun _ _ _ _ _ h => (nd h).elim, fun _ _ _ h => (nd h).elim⟩
  · by_cases z : b = a ∨ b ∈ qs
    · rw [nestF_in z] at e
      exact e
    · rw [nestF_out z] at e
      exact R.sub b x e
  · by_cases z : i = j
    · subst z
      rw [List.getElem?_set_self il]
      exact ⟨_, hi, N.rp⟩
    · rw [List.getElem?_set_ne z]
      have s := R.sl j
      cases q : env[j]? with
      | none => trivial
      | some y =>
        rw [q] at s
        cases y with
        | un => trivial
        | val d =>
          obtain ⟨v, h1, h2⟩ := s
          exact ⟨v, h1, Rp.mono N.up _ _ h2⟩
        | own l ds => exact (hp.own q).elim
        | dct kv => exact (hp.dct q).elim
  · have hq' : p ∈ [(i, a)] := hq
    rw [List.mem_singleton] at hq'
    subst hq'
    exact hi
/-- one of the lists is made longer; the look is thawed -/
theorem Nest.longer {i m : Nat} {F3 H3 : Hp} {env3 : Ev} {σ3 : St} {q : Addr} {ws zs : List V} {ds es : List PyData} (N : Nest K B F H a qs dss) (R : Rl K B F H env σ) (hp : plainE env) (hl : B.lent = []) (hall : B.all = [(i, a)])
    (R3 : Rl K (still (nestF F H a qs) H i a B.mg) F3 H3 env3 σ3) (le : env3.length = env.length) (same : ∀ (j : Nat) (d : PyData), env[j]? = some (.val d) → env3[j]? = some (.val d))
    (hq : qs[m]? = some q) (hd : dss[m]? = some ds) (hw : H q = some (.lst ws)) (rz : RpAll K F3 zs es) (te : tupDs es = true) :
    ∃ F4, Rl K B F4 (upd H3 q (.lst (ws ++ zs))) env σ3 ∧ Same F F4 ∧ Nest K B F4 (upd H3 q (.lst (ws ++ zs))) a qs (dss.set m (ds ++ es)) ∧ σ3[i]? = some (some (.ref a)) := by
  have mem : q ∈ qs := List.mem_of_getElem? hq
  have keep : ∀ {b x}, H b = some x → H3 b = some x := fun {b x} h => R3.frm0 rfl h
  have f13 : Same (nestF F H a qs) F3 := R3.sub0
  -- the thawed look
  let F4 : Hp := fun b => if b = a ∨ b ∈ qs then none else F3 b
  have f4n : ∀ {b}, (b = a ∨ b ∈ qs) → F4 b = none := fun {b} h => if_pos h
  have f4o : ∀ {b}, ¬ (b = a ∨ b ∈ qs) → F4 b = F3 b := fun {b} h => if_neg h
  have lst3 : ∀ b, (b = a ∨ b ∈ qs) → ∃ vs, F3 b = some (.lst vs) := fun b h => by
    obtain ⟨_, _, vs, g⟩ := N.in1 h
    exact ⟨vs, f13 b _ (by rw [nestF_in h]; exact g)⟩
  have tw := @thaw K F3 F4 (fun b => b = a ∨ b ∈ qs) (fun b h => f4o h) lst3
  have sF : Same F F4 := fun b x e => by
    have nb : ¬ (b = a ∨ b ∈ qs) := fun z => by rw [(N.in1 z).1] at e; cases e
    rw [f4o nb]
    exact f13 b x (N.up b x e)
  have s43 : ∀ {b x}, F4 b = some x → ¬ (b = a ∨ b ∈ qs) ∧ F3 b = some x := fun {b x} e => by
    by_cases h : b = a ∨ b ∈ qs
    · rw [f4n h] at e; cases e
    · rw [f4o h] at e; exact ⟨h, e⟩
  have nq : ∀ {b}, ¬ (b = a ∨ b ∈ qs) → b ≠ q := fun {b} h z => h (.inr (z ▸ mem))
  have aq : a ≠ q := fun z => N.na (z ▸ mem)
  have hi := R3.lsl (i, a) (List.mem_singleton.mpr rfl)
  have len3 : env.length = σ3.length := le.symm.trans R3.len
  refine ⟨F4, rl_plain hl len3 hp (fun b x e => ?_) (fun j => ?_) (R.sub0.trans sF) (fun b x e => ?_) (fun b x e => ?_) (fun pr hpr => ?_), sF, ⟨?_, ?_, f4n (.inl rfl), N.ba, N.na, N.nd, fun j r es' e1 e2 => ?_⟩, hi⟩
  · obtain ⟨h1, h2⟩ := s43 e
    rw [upd_ne (nq h1)]
    exact R3.sub b x h2
  · cases z : env[j]? with
    | none => trivial
    | some s =>
      rcases hp j s z with rfl | ⟨d, rfl, td⟩
      · trivial
      · have s3 := R3.sl j
        rw [same j d z] at s3
        obtain ⟨v, h1, h2⟩ := s3
        exact ⟨v, h1, tw d v td h2⟩
  · obtain ⟨h1, h2⟩ := s43 e
    rcases R3.new b x h2 with y | y | y
    · have y : nestF F H a qs b = some x := y
      rw [nestF_out h1] at y
      exact R.new b x y
    · exact .inr (.inl (R.free0 y))
    · exact .inr (.inr y)
  · have h1 := keep (R.frm0 hl e)
    rw [upd_ne fun z => by rw [z, (N.at mem).2.1] at e; cases e]
    exact h1
  · rw [hall, List.mem_singleton] at hpr
    subst hpr
    exact hi
  · rw [List.length_set]
    exact N.len
  · rw [upd_ne aq]
    exact keep N.out
  · have hm : m < dss.length := (List.getElem?_eq_some_iff.mp hd).1
    by_cases z : m = j
    · subst z
      rw [hq] at e1
      cases e1
      rw [List.getElem?_set_self hm] at e2
      cases e2
      obtain ⟨_, g2, ws', g3, g4⟩ := N.inn m q ds hq hd
      rw [hw] at g3
      cases g3
      exact ⟨f4n (.inr mem), g2, _, upd_same, (RpAll.mono sF _ _ g4).append (thawAll (fun b h => f4o h) lst3 es zs te rz)⟩
    · rw [List.getElem?_set_ne z] at e2
      obtain ⟨g1, g2, ws', g3, g4⟩ := N.inn j r es' e1 e2
      have rq : r ≠ q := fun y => z ((List.getElem?_inj (List.getElem?_eq_some_iff.mp hq).1 N.nd).mp (hq.trans (by rw [e1, y])))
      exact ⟨f4n (.inr (List.mem_of_getElem? e1)), g2, ws', by rw [upd_ne rq]; exact keep g3, RpAll.mono sF _ _ g4⟩
end
end Dl
end L2

/-! The D layer, 38: found = [[e]] + [[] for ..]; for ..: for ..: y = ..; found[j + 1].extend(..). -/
namespace L2
namespace Dl
open PySem PySem.Spec PyProof.Rows L2H

/-- the slots: what is walked, the list of lists, the walked one, the number, the new ones, the block's name -/
abbrev env6 (cd : PyData) (f : Sl) (c : Sl) (j : Sl) (m : Sl) : Ev := [.val cd, f, c, j, m, .un]
abbrev lls (dss : List (List PyData)) : PyData := .list (dss.map .list)
abbrev kn0 (N : Ev → Prop) : Ken := { nx := N, rt := fun _ _ => False, bk := fun _ => False, ct := fun _ => False, ex := NoX }
section
variable {X : Cx} {W : WX} {B : Bs} {a : Addr}
end
end Dl
end L2

/-! The D layer, 39: the two loops over it. -/
namespace L2
namespace Dl
open PySem PySem.Spec PyProof.Rows L2H

abbrev tSlot (x : Sl) : Prop := x = .un ∨ ∃ d, x = .val d ∧ tupD d = true
abbrev envN (cd : PyData) (x2 x3 : Sl) : Ev := [.val cd, .un, x2, x3, .un, .un]
section
variable {X : Cx} {W : WX}
end
section
variable {K : PySem.W.Frag} {B B1 : Bs} {F H : Hp} {σ : St} {a : Addr} {qs : List Addr} {dss : List (List PyData)}
/-- at the end it is a list of one's own of lists that stand still -/
theorem Nest.done {cd : PyData} {x2 x3 : Sl} (hB : B1 = { B with fns := [(1, a)] }) (hall : B.all = []) (N : Nest K B1 F H a qs dss) (R : Rl K B1 F H (envN cd x2 x3) σ) (ha : σ[1]? = some (some (.ref a))) :
    ∃ F', Rl K B F' H [.val cd, .own false (dss.map .list), .un, .un, .un, .un] σ ∧ Same F F' := by
  subst hB
  have hl : B.lent = [] := (List.append_eq_nil_iff.mp hall).1
  let F' : Hp := fun b => if b ∈ qs then H b else F b
  have fi : ∀ {b}, b ∈ qs → F' b = H b := fun h => if_pos h
  have fo : ∀ {b}, b ∉ qs → F' b = F b := fun h => if_neg h
  have sF : Same F F' := fun b x e => by
    rw [fo fun z => by rw [(N.at z).1] at e; cases e]
    exact e
  have own1 : ∀ {i : Nat} {l : Bool} {ds : List PyData}, ([.val cd, .own false (dss.map .list), .un, .un, .un, .un] : Ev)[i]? = some (Sl.own l ds) → i = 1 ∧ l = false := fun {i l ds} e => by
    match i, e with
    | 0, e => cases e
    | 1, e => cases e; exact ⟨rfl, rfl⟩
    | 2, e => cases e
    | 3, e => cases e
    | 4, e => cases e
    | 5, e => cases e
    | i + 6, e => cases e
  have nod : ∀ {i : Nat} {kv : List (List Int × PyData)}, ([.val cd, .own false (dss.map .list), .un, .un, .un, .un] : Ev)[i]? = some (Sl.dct kv) → False := fun {i kv} e => by
    match i, e with
    | 0, e => cases e
    | 1, e => cases e
    | 2, e => cases e
    | 3, e => cases e
    | 4, e => cases e
    | 5, e => cases e
    | i + 6, e => cases e
  refine ⟨F', ⟨R.len, fun b x e => ?_, fun i => ?_, fun i j l m ds es b h1 h2 _ _ => (own1 h1).1.trans (own1 h2).1.symm, R.sub0.trans sF, fun b x e => ?_, R.frm, R.dom, fun i ds b h1 h2 => ?_, fun i ds b h1 h2 => ?_, fun p hp => ?_, fun i j kv kw b h1 => (nod h1).elim, fun i kv b h1 => (nod h1).elim⟩, sF⟩
  · by_cases z : b ∈ qs
    · rw [fi z] at e; exact e
    · rw [fo z] at e; exact R.sub b x e
  · match i with
    | 0 =>
      obtain ⟨v, h1, h2⟩ := R.sl 0
      exact ⟨v, h1, Rp.mono sF _ _ h2⟩
    | 1 =>
      refine ⟨a, qs.map V.ref, ha, N.out, by rw [fo N.na]; exact N.fa, ?_⟩
      have gen : ∀ (qs' : List Addr) (dss' : List (List PyData)), qs'.length = dss'.length → (∀ (j : Nat) q ds, qs'[j]? = some q → dss'[j]? = some ds → q ∈ qs ∧ ∃ ws, H q = some (.lst ws) ∧ RpAll K F ws ds) → RpAll K F' (qs'.map V.ref) (dss'.map .list) := by
        intro qs'
        induction qs' with
        | nil =>
          intro dss' hl _
          cases dss' with
          | nil => exact .nil
          | cons _ _ => cases hl
        | cons q qs' ih =>
          intro dss' hl h
          cases dss' with
          | nil => cases hl
          | cons ds dss' =>
            obtain ⟨h1, ws, h2, h3⟩ := h 0 q ds rfl rfl
            exact .cons (.lst (SqL.of (by rw [fi h1]; exact h2)) (RpAll.mono sF _ _ h3)) (ih dss' (by simpa using hl) fun j q ds e1 e2 => h (j + 1) q ds (by simpa using e1) (by simpa using e2))
      refine gen qs dss N.len fun j q ds e1 e2 => ?_
      obtain ⟨_, _, ws, g3, g4⟩ := N.inn j q ds e1 e2
      exact ⟨List.mem_of_getElem? e1, ws, g3, g4⟩
    | 2 => trivial
    | 3 => trivial
    | 4 => trivial
    | 5 => trivial
    | i + 6 => trivial
  · by_cases z : b ∈ qs
    · exact .inr (.inl (N.at z).2.1)
    · rw [fo z] at e; exact R.new b x e
  · obtain ⟨e, _⟩ := own1 h1
    subst e
    rw [ha] at h2
    cases h2
    exact N.ba
  · cases (own1 h1).2
  · rw [hall] at hp
    cases hp
end
end Dl
end L2

/-! The D layer, 40: the list of lists is made; the whole. -/
namespace L2
namespace Dl
open PySem PySem.Spec PyProof.Rows L2H

section
variable {X : Cx} {W : WX}
end
end Dl
end L2

/-! The D layer, 41: x.get(k, e), list(x.items()), x a dict of one's own. -/
namespace L2
namespace Dl
open PySem PySem.Spec PyProof.Rows

/-- what stands at a key -/
def lkD (kvs : List (List Int × PyData)) (k : List Int) : Option PyData := (kvs.find? fun p => decide (p.1 = k)).map (·.2)
theorem lk_val : ∀ (kvs : List (List Int × PyData)) (k : List Int), valV (kvO kvs) (k.map Sum.inl) = (lkD kvs k).map vOf
  | [], _ => rfl
  | p :: kvs, k => by
    have ih := lk_val kvs k
    unfold lkD valV kvO at ih ⊢
    rw [List.map_cons, List.find?_cons, List.find?_cons]
    have e : decide ((p.1.map Sum.inl, vOf p.2).1 = (k.map Sum.inl : List Key)) = decide (p.1 = k) := decide_eq_decide.mpr (inl_inj _ _)
    rw [e]
    cases decide (p.1 = k) with
    | true => rfl
    | false => exact ih
theorem scD_rp {K : PySem.W.Frag} {F : Hp} {d : PyData} (h : scD d) : Rp K F (vOf d) d := by
  cases d with
  | none => exact .non
  | bool b => exact .bl b
  | int i => exact .int i
  | str x => exact .str x
  | _ => exact h.elim
section
variable {B : Bs} {W : WX} {X : Cx} {x : Str} {e f : Expr} {we wf : WE} {p apos cpos pos : Pos}
/-- x.get(e, f) -/
def wGetD (i : Nat) (we wf : WE) : WE := fun env Ke Kx => isDct env i ∧ we env (fun env1 r1 => wf env1 (fun env2 r2 => ∃ ks kvs d, r1 = .val (.tuple (ks.map .int)) ∧ env2[i]? = some (.dct kvs) ∧ r2 = .val d ∧ scD d ∧ scD ((lkD kvs ks).getD d) ∧ Ke env2 (.val ((lkD kvs ks).getD d))) Kx) Kx
theorem de_getD (i : Nat) (hu : X.A.units + 65 < cLine) (he : DE B W X e we) (hf : DE B W X f wf) (m : M2 X (.Name x p) "get" apos e f cpos) (hN : X.N[i]? = some x := by rfl) (hv : Vis X.env.scope x := by first | exact Or.inl rfl | exact Or.inr (Or.inl rfl) | exact Or.inr (Or.inr rfl))
    (hd : (x == ("__debug__" : Str)) = false := by decide) (hcd : (x == ("__classdict__" : Str)) = false := by decide) : DE B W X (.Call (.Attribute (.Name x p) "get" apos) [e, f] [] cpos) (wGetD i we wf) := by
  refine ⟨fun pins s σ F H env Ke Kx I R ⟨⟨kv0, e0⟩, h⟩ hx => ?_⟩
  obtain ⟨ad, g1, g2, g3⟩ := R.dctSl e0
  refine thn ((pe_dget2 (by omega) (pe_var (pos := p) hN hv hd hcd) he.pe hf.pe m).run pins s σ H (fun v H' => ∃ env' r F', Rl X.K B F' H' env' σ ∧ Fm env σ F H env' F' H' ∧ Res X.K B F' H' env' σ v r ∧ Nw H v r ∧ Ke env' r) I ?_) fun u s1 ⟨v, H', I', rv, env', r, F', h1, h2, h3, h4, h5⟩ => ⟨v, env', r, F', H', I', rv, h1, h2, h3, h4, h5⟩
  refine ⟨.ref ad, g1, ad, rfl, .inr ⟨_, .inl g2⟩, F, env, _, Kx, R, h, hx, fun v1 env1 r1 F1 H1 R1 f1 q1 n1 h1 => ⟨F1, env1, _, Kx, R1, h1, hx, fun v2 env2 r2 F2 H2 R2 f2 q2 n2 ⟨ks, kvs, d, e1, e2, e3, s1, s2, k⟩ => ?_⟩⟩
  subst e1 e3
  have q2' : Rp X.K F2 v2 d := q2
  obtain rfl := q2'.scD s1
  have q1' : Rp X.K F1 v1 (.tuple (ks.map .int)) := q1
  cases q1' with
  | @tup b xs _ t1 t2 =>
    have e5 := t2.ints
    subst e5
    obtain ⟨ad', m1, m2, m3⟩ := R2.dctSl e2
    rw [g1] at m1
    cases m1
    refine ⟨_, DGet.t (k := ks.map Sum.inl) m2 ?_, env2, .val ((lkD kvs ks).getD d), F2, R2, f1.trans f2, ?_, trivial, k⟩
    · rw [ints_key]
      exact R2.sub b _ (f2.sub _ _ t1)
    · rw [lk_val]
      show Rp X.K F2 (((lkD kvs ks).map vOf).getD (vOf d)) ((lkD kvs ks).getD d)
      have e6 : ((lkD kvs ks).map vOf).getD (vOf d) = vOf ((lkD kvs ks).getD d) := by cases lkD kvs ks <;> rfl
      rw [e6]
      exact scD_rp s2
end

/-! ### list(x.items()) -/
def putL : Hp → List (Addr × List V) → Hp
  | H, [] => H
  | H, t :: L => putL (upd H t.1 (.tup t.2)) L
theorem putL_off {b : Addr} : ∀ (L : List (Addr × List V)) (H : Hp), b ∉ L.map (·.1) → putL H L b = H b
  | [], _, _ => rfl
  | t :: L, H, h => by
    rw [List.map_cons, List.mem_cons, not_or] at h
    show putL (upd H t.1 (.tup t.2)) L b = H b
    rw [putL_off L _ h.2, upd_ne h.1]
theorem putL_at : ∀ (L : List (Addr × List V)) (H : Hp), (L.map (·.1)).Nodup → ∀ t ∈ L, putL H L t.1 = some (.tup t.2)
  | [], _, _, t, h => by cases h
  | u :: L, H, hn, t, h => by
    rw [List.map_cons, List.nodup_cons] at hn
    show putL (upd H u.1 (.tup u.2)) L t.1 = some (.tup t.2)
    rcases List.mem_cons.mp h with rfl | h
    · rw [putL_off L _ hn.1, upd_same]
    · exact putL_at L _ hn.2 t h
section
variable {K : PySem.W.Frag} {B : Bs} {env : Ev} {σ : St}
theorem Rl.putL : ∀ (L : List (Addr × List V)) (F H : Hp), Rl K B F H env σ → (L.map (·.1)).Nodup → (∀ t ∈ L, H t.1 = none) →
    Rl K B (L2.Dl.putL F L) (L2.Dl.putL H L) env σ ∧ Fm env σ F H env (L2.Dl.putL F L) (L2.Dl.putL H L)
  | [], F, H, R, _, _ => ⟨R, Fm.refl⟩
  | t :: L, F, H, R, hn, h0 => by
    rw [List.map_cons, List.nodup_cons] at hn
    have ht := h0 t List.mem_cons_self
    obtain ⟨R2, f2⟩ := Rl.putL L (upd F t.1 (.tup t.2)) (upd H t.1 (.tup t.2)) (R.layF ht) hn.2 fun u hu => by
      rw [upd_ne (fun z => hn.1 (by rw [← z]; exact List.mem_map.mpr ⟨u, hu, rfl⟩))]
      exact h0 u (List.mem_cons_of_mem _ hu)
    exact ⟨R2, (R.fmLayF ht).trans f2⟩
end
/-- the pairs of places and values -/
def prV : List Addr → List (List Key × V) → List (List V)
  | b :: bs, p :: kvs => [V.ref b, p.2] :: prV bs kvs
  | _, _ => []
def rItT : V → Hp → VK → Prop := fun x H Q => ∃ (d : Addr) (kvs : List (List Key × V)), x = .ref d ∧ H d = some (.dT kvs) ∧
  ∀ (p : Addr) (ts bs : List Addr), H p = none → (∀ t ∈ ts, H t = none) → ts.Nodup → p ∉ ts → IsKeys H kvs bs → ts.length = kvs.length → Q (.ref p) (putL (upd H p (.lst (ts.map V.ref))) (ts.zip (prV bs kvs)))
def tItT (te : TE) : TE := fun σ H Q => te σ H fun x H1 => rItT x H1 Q
theorem prV_at : ∀ {bs : List Addr} {kvs : List (List Key × V)} {j : Nat} {b : Addr} {p : List Key × V}, bs[j]? = some b → kvs[j]? = some p → (prV bs kvs)[j]? = some [V.ref b, p.2]
  | _ :: bs, _ :: kvs, 0, _, _, h1, h2 => by cases h1; cases h2; rfl
  | _ :: bs, _ :: kvs, j + 1, _, _, h1, h2 => prV_at (bs := bs) (kvs := kvs) (j := j) h1 h2
  | [], _, _, _, _, h1, _ => by simp at h1
  | _ :: _, [], _, _, _, _, h2 => by simp at h2
theorem prV_len : ∀ {bs : List Addr} {kvs : List (List Key × V)}, bs.length = kvs.length → (prV bs kvs).length = kvs.length
  | [], [], _ => rfl
  | [], _ :: _, h => by cases h
  | _ :: _, [], h => by cases h
  | _ :: bs, _ :: kvs, h => by
    show (prV bs kvs).length + 1 = kvs.length + 1
    rw [prV_len (by simpa using h)]
theorem pIx {α β : Type} {G : α → β → Prop} : ∀ {xs : List α} {ys : List β}, Paired G xs ys → ∀ {j : Nat} {y : β}, ys[j]? = some y → ∃ x, xs[j]? = some x ∧ G x y
  | _, _, .nil, j, y, h => by simp at h
  | _, _, .cons r t, 0, y, h => ⟨_, rfl, by have := Option.some.inj h; subst this; exact r⟩
  | _, _, .cons r t, j + 1, y, h => pIx t (j := j) h
theorem isKeys_len {H : Hp} {kvs : List (List Key × V)} {bs : List Addr} (h : IsKeys H kvs bs) : bs.length = kvs.length := (Paired.length h).symm
section
variable {X : Cx} {e : Expr} {te : TE} {p apos cpos pos : Pos}
theorem pairs_in {pins : List (Addr × Obj)} {σ : L2.St} {H : Hp} {s : Shared} {h' : Heap} {tk : Nat} {kvs : List (List Key × V)} {ks : List (List Key × Addr × Value)} {es : Array DictEntry} {acc : Array Value} {c : Nat} {as : List Addr}
    (I : Inv X pins σ H s) (hz : kvs.length ≤ sizeLine) (kt : L2.KT H kvs ks) (he : es.toList = ks.map (entryOfKey (tupleKind (mixKind X.prog X.w))))
    (hk : ∀ b o, s.heap.get? b = some o → h'.get? b = some o) (hS : h'.get? s.heap.objs.size = some { cls := .type "list", dict := none, data := .seq acc c, slots := #[] }) (hl : as.length = es.size)
    (hG : PySem.W.DilG es s.heap.objs.size h' as) (hacc : acc.toList = as.map Value.ref) :
    Inv X pins σ (putL (upd H s.heap.objs.size (.lst (as.map V.ref))) (as.zip (prV (ks.map fun q => q.2.1) kvs))) { s with heap := h', toks := tk } ∧ H s.heap.objs.size = none ∧ (∀ t ∈ as, H t = none) ∧ as.Nodup ∧ s.heap.objs.size ∉ as := by
  have l1 : kvs.length = ks.length := Paired.length kt
  have l2 : es.size = ks.length := size_of_entries he
  have lp : (prV (ks.map fun q => q.2.1) kvs).length = kvs.length := prV_len (by rw [List.length_map]; exact l1.symm)
  have hSn : s.heap.objs.size ∉ as := fun z => Nat.lt_irrefl _ (hG.above _ z)
  have nd : as.Nodup := hG.rise.imp fun {a b} h => Nat.ne_of_lt h
  have new : ∀ t ∈ as, H t = none := fun t ht => I.hok.fresh (Nat.le_of_lt (hG.above t ht))
  have newS : H s.heap.objs.size = none := I.hok.fresh (Nat.le_refl _)
  have fsts : (as.zip (prV (ks.map fun q => q.2.1) kvs)).map (·.1) = as := List.map_fst_zip (by omega)
  generalize hL : as.zip (prV (ks.map fun q => q.2.1) kvs) = L at *
  have off : ∀ b, b ∉ as → b ≠ s.heap.objs.size → putL (upd H s.heap.objs.size (.lst (as.map V.ref))) L b = H b := fun b h1 h2 => by rw [putL_off L _ (by rw [fsts]; exact h1), upd_ne h2]
  have low : ∀ b o, s.heap.get? b = some o → b ∉ as ∧ b ≠ s.heap.objs.size := fun b o e => ⟨fun z => absurd (Heap.lt_size e) (Nat.not_lt.mpr (Nat.le_of_lt (hG.above b z))), Nat.ne_of_lt (Heap.lt_size e)⟩
  have kp : ∀ b u, H b = some u → putL (upd H s.heap.objs.size (.lst (as.map V.ref))) L b = some u := fun b u q => by
    rw [off b (fun z => by rw [new b z] at q; cases q) (fun z => by rw [z, newS] at q; cases q)]
    exact q
  have eS : putL (upd H s.heap.objs.size (.lst (as.map V.ref))) L s.heap.objs.size = some (.lst (as.map V.ref)) := by rw [putL_off L _ (by rw [fsts]; exact hSn), upd_same]
  refine ⟨I.call' (ch := []) rfl ⟨fun b o q _ _ _ => hk b o q, fun b o q _ _ _ => ⟨o.slots, hk b o q⟩, fun b o q n _ => ?_, fun b o q _ => ⟨o, hk b o q⟩, fun b xs q => kp b _ q, fun b o u q => kp b _ q, fun b ps q => ⟨#[], by rw [kp b _ q]; simp⟩⟩ (fun b u q => ?_) I.bare fun b z => by simp at z, newS, new, nd, hSn⟩
  · obtain ⟨z1, z2⟩ := low b o q
    rw [off b z1 z2]
    exact n
  · by_cases hb : b ∈ as
    · obtain ⟨j, ej⟩ := List.mem_iff_getElem?.mp hb
      obtain ⟨hj, ob⟩ := hG.pairs j b ej
      have hjk : j < ks.length := by omega
      have ek : ks[j]? = some ks[j] := List.getElem?_eq_getElem hjk
      obtain ⟨pk, e1, e2, e3, e4⟩ := pIx kt ek
      have ee := entry_at he j
      rw [ek, show es[j]? = some es[j] by simp [hj]] at ee
      have ee : es[j] = entryOfKey (tupleKind (mixKind X.prog X.w)) ks[j] := Option.some.inj ee
      have pe : (prV (ks.map fun q => q.2.1) kvs)[j]? = some [V.ref ks[j].2.1, pk.2] := prV_at (by rw [List.getElem?_map, ek]; rfl) e1
      have mL : (b, [V.ref ks[j].2.1, pk.2]) ∈ L := by
        rw [← hL]
        refine List.mem_iff_getElem?.mpr ⟨j, ?_⟩
        rw [List.getElem?_zip_eq_some]
        exact ⟨ej, pe⟩
      rw [putL_at L _ (by rw [fsts]; exact nd) _ mL] at q
      cases q
      rw [ee] at ob
      exact ⟨by show 2 ≤ sizeLine; decide, [.ref ks[j].2.1, ks[j].2.2], .cons rfl (.cons e4 .nil), ⟨_, ob, rfl, _, rfl⟩⟩
    · by_cases hb2 : b = s.heap.objs.size
      · rw [hb2] at q ⊢
        rw [eS] at q
        cases q
        refine ⟨by rw [List.length_map]; omega, acc.toList, c, ?_, ?_⟩
        · rw [hacc]
          exact vals_refs as
        · rw [Array.toArray_toList]
          exact hS
      · rw [off b hb hb2] at q
        exact (I.hok b u q).stay (fun d v _ y => hk d v y) (fun d y => kp d _ y) fun d xs y => kp d _ y
theorem pe_itT (hc : X.calm = true) (he : PE X e te) (hg : Gl X "list") (hm : X.mg "list" = none) (hbase : attributeBase e "items" X.env (eval e X.env) = eval e X.env := by rfl) (hline : (apos.endLine == cpos.line) = true := by rfl)
    (hs : starEach [.Call (.Attribute e "items" apos) [] [] cpos] X.env = (false, eval (.Call (.Attribute e "items" apos) [] [] cpos) X.env) :: starEach [] X.env := by rfl) :
    PE X (.Call (.Name "list" p) [.Call (.Attribute e "items" apos) [] [] cpos] [] pos) (tItT te) := by
  refine ⟨fun pins s σ H Q I hq => ?_⟩
  have hbl : bootBuiltins "list" = some (.type "list") := by decide +kernel
  refine wpAny_Call_Name_kw (ld_blt I hg hm hbl (PyProof.Rows.callWith_type1 ?_ hs rfl))
  rw [hs]
  show wpAny _ _ (spliced ((false, eval (.Call (.Attribute e "items" apos) [] [] cpos) X.env) :: _)) _ _ s
  refine Calls.spliced_cons ?_
  refine wpAny_Call_method (T := "dict") (id := "dict.items") hbase rfl hline F.plainAttrs_dict F.slot_dict_items F.type_dict_items (thn (he.run pins s σ H _ I hq) fun u s1 ⟨x, H1, I1, rx, d, kvs, ex, hd, q⟩ => ?_)
  subst ex
  obtain rfl : u = Value.ref d := rx
  obtain ⟨hz, hs0, ks, kt, o, es, ep, ho, hx, hdt, hes, hnd⟩ := I1.hok d _ hd
  have tyD : s1.TypeIs (.ref d) "dict" := ⟨o, ho, hx.1⟩
  have I2 : Inv X pins σ H1 { s1 with heap := s1.heap.push { cls := .type "dict_items", data := .fields #[.ref d] } } := I1.kept (t' := s1.toks) fun b ob q => Heap.get?_push_of_some _ q
  refine ⟨tyD, fun b eb => by cases eb; exact ⟨o, ho, hx.2.1⟩, ?_⟩
  show wpAny _ _ (callWith cpos (.builtin "dict.items") [.ref d] [] []) _ X.xe s1
  refine method_meetsIn F.slot_dict_items F.entry_dict_items rfl (PySem.evalArgs_none ⟨rfl, tyD, F.args_dict_items_1 _, _, DT.meetsItems (es := es) (ep := ep) hs0, ⟨⟨o, ho, hx, hdt⟩, ?_⟩⟩)
  refine Calls.spliced_nil ?_
  refine PySem.W.dil_call (es := es) (ep := ep) (d := d) (I1.ok.hd hc) ⟨_, Heap.get?_push_size _ rfl, rfl, rfl⟩ ⟨o, Heap.get?_push_of_some _ ho, hx, hdt⟩ (by rw [size_of_entries hes, ← Paired.length kt]; exact hz) fun h' tk acc c as hk hS hl hG hacc => ?_
  obtain ⟨J, n1, n2, n3, n4⟩ := pairs_in (tk := tk) I2 hz kt hes hk hS hl hG hacc
  exact ⟨.ref _, _, J, rfl, q _ as (ks.map fun q => q.2.1) n1 n2 n3 n4 (isKeys_of kt) (by rw [hl, size_of_entries hes, Paired.length kt])⟩
end
section
variable {B : Bs} {W : WX} {X : Cx} {x : Str} {p0 p apos cpos pos : Pos}
/-- list(x.items()) -/
def wItemsD (i : Nat) : WE := fun env Ke _ => ∃ kvs, env[i]? = some (Sl.dct kvs) ∧ (∀ p ∈ kvs, scD p.2) ∧ Ke env (.tmp (kvs.map fun p => .tuple [.tuple (p.1.map .int), p.2]))
theorem prs_rp {K : PySem.W.Frag} {F : Hp} : ∀ {kvs : List (List Int × PyData)} {bs ts : List Addr}, ts.length = kvs.length → (∀ p ∈ kvs, scD p.2) → RpAll K F (bs.map V.ref) (kvs.map fun p => .tuple (p.1.map .int)) →
    (∀ t ∈ ts.zip (prV bs (kvO kvs)), F t.1 = some (.tup t.2)) → RpAll K F (ts.map V.ref) (kvs.map fun p => .tuple [.tuple (p.1.map .int), p.2])
  | [], _, [], _, _, _, _ => .nil
  | [], _, _ :: _, h, _, _, _ => by cases h
  | _ :: _, _, [], h, _, _, _ => by cases h
  | p :: kvs, [], _ :: _, _, _, r, _ => by cases r
  | p :: kvs, b :: bs, t :: ts, hl, hs, r, hF => by
    cases r with
    | cons r1 r2 =>
      refine .cons (.tup (hF (t, [V.ref b, vOf p.2]) ?_) (.cons r1 (.cons (scD_rp (hs p List.mem_cons_self)) .nil))) (prs_rp (bs := bs) (by simpa using hl) (fun q h => hs q (List.mem_cons_of_mem _ h)) r2 fun u hu => hF u ?_)
      · show _ ∈ (t, [V.ref b, vOf p.2]) :: ts.zip (prV bs (kvO kvs))
        exact List.mem_cons_self
      · show _ ∈ (t, [V.ref b, vOf p.2]) :: ts.zip (prV bs (kvO kvs))
        exact List.mem_cons_of_mem _ hu
theorem de_itemsD (i : Nat) (hc : X.calm = true) (hg : Gl X "list") (hm : X.mg "list" = none) (hN : X.N[i]? = some x := by rfl) (hv : Vis X.env.scope x := by first | exact Or.inl rfl | exact Or.inr (Or.inl rfl) | exact Or.inr (Or.inr rfl)) (hd : (x == ("__debug__" : Str)) = false := by decide) (hcd : (x == ("__classdict__" : Str)) = false := by decide)
    (hbase : attributeBase (.Name x p0) "items" X.env (eval (.Name x p0) X.env) = eval (.Name x p0) X.env := by rfl) (hline : (apos.endLine == cpos.line) = true := by rfl)
    (hs : starEach [.Call (.Attribute (.Name x p0) "items" apos) [] [] cpos] X.env = (false, eval (.Call (.Attribute (.Name x p0) "items" apos) [] [] cpos) X.env) :: starEach [] X.env := by rfl) :
    DE B W X (.Call (.Name "list" p) [.Call (.Attribute (.Name x p0) "items" apos) [] [] cpos] [] pos) (wItemsD i) := by
  refine ⟨fun pins s σ F H env Ke Kx I R ⟨kvs, e0, sc, h⟩ hx => ?_⟩
  obtain ⟨ad, g1, g2, g3⟩ := R.dctSl e0
  have pe := pe_itT (p := p) (pos := pos) hc (pe_var (pos := p0) hN hv hd hcd) hg hm hbase hline hs
  refine thn (pe.run pins s σ H (fun v H' => ∃ q ts bs, v = .ref q ∧ H' = putL (upd H q (.lst (ts.map V.ref))) (ts.zip (prV bs (kvO kvs))) ∧ H q = none ∧ (∀ t ∈ ts, H t = none) ∧ ts.Nodup ∧ q ∉ ts ∧ IsKeys H (kvO kvs) bs ∧ ts.length = (kvO kvs).length) I
    ⟨.ref ad, g1, ad, kvO kvs, rfl, g2, fun q ts bs h1 h2 h3 h4 h5 h6 => ⟨q, ts, bs, rfl, rfl, h1, h2, h3, h4, h5, h6⟩⟩) fun u s1 ⟨v, H', I', rv, q, ts, bs, e1, e2, h1, h2, h3, h4, h5, h6⟩ => ?_
  subst e1 e2
  obtain ⟨F1, R1, f1, r1⟩ := Rl.keys kvs bs F R h5
  have hlk : (kvO kvs).length = kvs.length := List.length_map _
  have lz : ts.length ≤ (prV bs (kvO kvs)).length := by rw [prV_len (isKeys_len h5)]; omega
  have fsts : (ts.zip (prV bs (kvO kvs))).map (·.1) = ts := List.map_fst_zip lz
  obtain ⟨R3, f3⟩ := Rl.putL (ts.zip (prV bs (kvO kvs))) F1 (upd H q (.lst (ts.map V.ref))) (R1.lay (o := .lst (ts.map V.ref)) h1) (by rw [fsts]; exact h3) fun t ht => by
    have mt : t.1 ∈ ts := by rw [← fsts]; exact List.mem_map.mpr ⟨t, ht, rfl⟩
    rw [upd_ne (fun z => h4 (by rw [← z]; exact mt))]
    exact h2 _ mt
  have qn : q ∉ (ts.zip (prV bs (kvO kvs))).map (·.1) := by rw [fsts]; exact h4
  refine ⟨_, env, .tmp _, _, _, I', rv, R3, (f1.trans (fm_lay h1)).trans f3, ⟨q, _, rfl, by rw [putL_off _ _ qn, upd_same], by rw [putL_off _ _ qn]; exact R1.freeF h1, R.free0 h1, R.notOwn h1, ?_⟩, (fun q' eq => by cases eq; exact h1), h⟩
  exact prs_rp (by rw [h6, hlk]) sc (RpAll.mono f3.sub _ _ r1) (putL_at _ _ (by rw [fsts]; exact h3))
end
end Dl
end L2

/-! The D layer, 42: [e for k in x], x a dict of one's own; x[k] in it. -/
namespace L2
namespace Dl
open PySem PySem.Spec PyProof.Rows

/-- o stands at a, which the slot i holds, as long as B is the ground -/
def pinD (B : Bs) (i : Nat) (a : Addr) (o : HO) : Bs := { B with H0 := upd B.H0 a o, fns := (i, a) :: B.fns }
section
variable {K : PySem.W.Frag} {B : Bs} {F F' H H' : Hp} {env env' : Ev} {σ : St} {i : Nat} {a : Addr} {kvs : List (List Int × PyData)}
theorem set_un_own {j : Nat} {s : Sl} {x : Sl} (h : (env.set i s)[j]? = some x) (hs : s ≠ x) : j ≠ i ∧ env[j]? = some x := by
  by_cases hj : i = j
  · subst hj
    by_cases hi : i < env.length
    · rw [List.getElem?_set_self hi] at h
      exact absurd (Option.some.inj h) hs
    · rw [List.getElem?_eq_none (by rw [List.length_set]; omega)] at h
      cases h
  · rw [List.getElem?_set_ne hj] at h
    exact ⟨fun z => hj z.symm, h⟩
theorem Rl.pin (R : Rl K B F H env σ) (hB : B.all = []) (e : env[i]? = some (Sl.dct kvs)) (ea : σ[i]? = some (some (.ref a))) {od : Obj} :
    Rl K (pinD B i a (.frz od (.dT (kvO kvs)))) F (upd H a (.frz od (.dT (kvO kvs)))) (env.set i .un) σ := by
  obtain ⟨a', e1, e2, e3⟩ := R.dctSl e
  rw [ea] at e1
  cases e1
  have h0 := R.d0 i kvs a e ea
  have hl : B.lent = [] := (List.append_eq_nil_iff.mp hB).1
  have hf : B.fns = [] := (List.append_eq_nil_iff.mp hB).2
  refine ⟨by rw [List.length_set]; exact R.len, fun b x q => ?_, fun j => ?_, fun j k m n es fs b h5 h6 h7 h8 => R.dist j k m n es fs b (set_un_own h5 (by simp)).2 (set_un_own h6 (by simp)).2 h7 h8, R.sub0, fun b x q => ?_, fun b x q n => ?_, fun b q => ?_, fun j es b h5 h6 => ?_, fun j es b h5 h6 => ?_, fun p hp => ?_, fun j k kv kw b h5 h6 h7 h8 => R.dd j k kv kw b (set_un_own h5 (by simp)).2 (set_un_own h6 (by simp)).2 h7 h8, fun j kv b h5 h6 => ?_⟩
  · rw [upd_ne]
    · exact R.sub b x q
    · rintro rfl
      rw [e3] at q
      cases q
  · by_cases hj : i = j
    · subst hj
      rw [List.getElem?_set_self (List.getElem?_eq_some_iff.mp e).1]
      trivial
    · rw [List.getElem?_set_ne hj]
      have s := R.sl j
      cases q : env[j]? with
      | none => trivial
      | some z =>
        rw [q] at s
        cases z with
        | un => trivial
        | val d => exact s
        | own m es =>
          obtain ⟨c, ws, g1, g2, g3, g4⟩ := s
          refine ⟨c, ws, g1, ?_, g3, g4⟩
          rw [upd_ne]
          · exact g2
          · rintro rfl
            rw [e2] at g2
            cases g2
        | dct kw =>
          obtain ⟨c, g1, g2, g3⟩ := s
          refine ⟨c, g1, ?_, g3⟩
          rw [upd_ne]
          · exact g2
          · rintro rfl
            exact hj (R.dd i j kvs kw c e q ea g1)
  · by_cases hb : b = a
    · subst hb
      rw [e3] at q
      cases q
    · rcases R.new b x q with z | z | z
      · exact .inl z
      · exact .inr (.inl (by show upd B.H0 a _ b = none; rw [upd_ne hb]; exact z))
      · exact .inr (.inr z)
  · have q : upd B.H0 a (.frz od (.dT (kvO kvs))) b = some x := q
    by_cases hb : b = a
    · subst hb
      rw [upd_same] at q ⊢
      exact q
    · rw [upd_ne hb] at q ⊢
      exact R.frm b x q (by rw [hl]; intro p hp; cases hp)
  · have q : upd B.H0 a (.frz od (.dT (kvO kvs))) b ≠ none := q
    by_cases hb : b = a
    · subst hb
      rw [upd_same]
      simp
    · rw [upd_ne hb] at q ⊢
      exact R.dom b q
  · obtain ⟨hj, h9⟩ := set_un_own h5 (by simp)
    show upd B.H0 a _ b = none
    rw [upd_ne]
    · exact R.own0 j es b h9 h6
    · rintro rfl
      have s := R.sl j
      rw [h9] at s
      obtain ⟨c, ws, g1, g2, g3, g4⟩ := s
      rw [h6] at g1
      cases g1
      rw [e2] at g2
      cases g2
  · exact R.own1 j es b (set_un_own h5 (by simp)).2 h6
  · have hp : p ∈ B.lent ++ (i, a) :: B.fns := hp
    rw [hl, hf, List.nil_append, List.mem_singleton] at hp
    subst hp
    exact ea
  · obtain ⟨hj, h9⟩ := set_un_own h5 (by simp)
    show upd B.H0 a _ b = none
    rw [upd_ne]
    · exact R.d0 j kv b h9 h6
    · rintro rfl
      exact hj (R.dd j i kv kvs b h9 e h6 ea)
theorem Rl.pinned (R : Rl K B F H env σ) (hB : B.all = []) (e : env[i]? = some (Sl.dct kvs)) (ea : σ[i]? = some (some (.ref a))) {od : Obj}
    (R' : Rl K (pinD B i a (.frz od (.dT (kvO kvs)))) F' H' env' σ) (f : Fm (env.set i .un) σ F (upd H a (.frz od (.dT (kvO kvs)))) env' F' H') :
    H' a = some (.frz od (.dT (kvO kvs))) ∧ Rl K B F' (upd H' a (.dT (kvO kvs))) (env'.set i (.dct kvs)) σ ∧ Fm env σ F H (env'.set i (.dct kvs)) F' (upd H' a (.dT (kvO kvs))) := by
  obtain ⟨a', e1, e2, e3⟩ := R.dctSl e
  rw [ea] at e1
  cases e1
  have h0 := R.d0 i kvs a e ea
  have hl : B.lent = [] := (List.append_eq_nil_iff.mp hB).1
  have nl : ∀ b, ∀ p ∈ (pinD B i a (.frz od (.dT (kvO kvs)))).lent, p.2 ≠ b := fun b p hp => by
    have hp : p ∈ B.lent := hp
    rw [hl] at hp
    cases hp
  have ha : H' a = some (.frz od (.dT (kvO kvs))) := R'.frm a _ (by show upd B.H0 a _ a = _; rw [upd_same]) (nl a)
  have fa : F' a = none := by
    cases q : F' a with
    | none => rfl
    | some x =>
      have := R'.sub a x q
      rw [ha] at this
      cases this
      rcases R'.new a _ q with z | z | ⟨ys, z⟩
      · rw [R.sub0 a _ z] at e3
        cases e3
      · have z : upd B.H0 a _ a = none := z
        rw [upd_same] at z
        cases z
      · cases z
  have il : i < env'.length := by rw [R'.len, ← R.len]; exact (List.getElem?_eq_some_iff.mp e).1
  have H0n : ∀ b, (pinD B i a (.frz od (.dT (kvO kvs)))).H0 b = none → B.H0 b = none := fun b q => by
    have q : upd B.H0 a _ b = none := q
    by_cases hb : b = a
    · subst hb; exact h0
    · rwa [upd_ne hb] at q
  have own_a : ownAt env σ a := .inr ⟨i, kvs, e, ea⟩
  have ownU : ∀ {b}, ownAt (env.set i .un) σ b → ownAt env σ b := fun {b} q => by
    rcases q with ⟨j, l, ds, h1, h2⟩ | ⟨j, kv, h1, h2⟩
    · exact .inl ⟨j, l, ds, (set_un_own h1 (by simp)).2, h2⟩
    · exact .inr ⟨j, kv, (set_un_own h1 (by simp)).2, h2⟩
  have dctN : ∀ {j : Nat} {kv : List (List Int × PyData)}, env'[j]? = some (Sl.dct kv) → σ[j]? = some (some (.ref a)) → False := fun {j kv} h1 h2 => by
    have s := R'.sl j
    rw [h1] at s
    obtain ⟨c, g1, g2, g3⟩ := s
    rw [h2] at g1
    cases g1
    rw [ha] at g2
    cases g2
  refine ⟨ha, ⟨by rw [List.length_set]; exact R'.len, fun b x q => ?_, fun j => ?_, fun j k m n es fs b h5 h6 h7 h8 => R'.dist j k m n es fs b (set_un_own h5 (by simp)).2 (set_un_own h6 (by simp)).2 h7 h8, R'.sub0, fun b x q => ?_, fun b x q n => ?_, fun b q => ?_, fun j es b h5 h6 => H0n b (R'.own0 j es b (set_un_own h5 (by simp)).2 h6), fun j es b h5 h6 => R'.own1 j es b (set_un_own h5 (by simp)).2 h6, fun p hp => ?_, fun j k kv kw b h5 h6 h7 h8 => ?_, fun j kv b h5 h6 => ?_⟩, ⟨fun b x q n => ?_, f.sub, fun b x q => ?_, fun j l ds q => ?_, fun b q => ?_, fun j kv q => ?_⟩⟩
  · rw [upd_ne]
    · exact R'.sub b x q
    · rintro rfl
      rw [fa] at q
      cases q
  · by_cases hj : i = j
    · subst hj
      rw [List.getElem?_set_self il]
      exact ⟨a, ea, upd_same, fa⟩
    · rw [List.getElem?_set_ne hj]
      have s := R'.sl j
      cases q : env'[j]? with
      | none => trivial
      | some z =>
        rw [q] at s
        cases z with
        | un => trivial
        | val d => exact s
        | own m es =>
          obtain ⟨c, ws, g1, g2, g3, g4⟩ := s
          refine ⟨c, ws, g1, ?_, g3, g4⟩
          rw [upd_ne]
          · exact g2
          · rintro rfl
            rw [ha] at g2
            cases g2
        | dct kw =>
          obtain ⟨c, g1, g2, g3⟩ := s
          refine ⟨c, g1, ?_, g3⟩
          rw [upd_ne]
          · exact g2
          · rintro rfl
            rw [ha] at g2
            cases g2
  · rcases R'.new b x q with z | z | z
    · exact .inl z
    · exact .inr (.inl (H0n b z))
    · exact .inr (.inr z)
  · have hb : b ≠ a := fun z => by rw [z, h0] at q; cases q
    rw [upd_ne hb]
    exact R'.frm b x (by show upd B.H0 a _ b = _; rw [upd_ne hb]; exact q) (nl b)
  · by_cases hb : b = a
    · subst hb
      rw [upd_same]
      simp
    · rw [upd_ne hb]
      exact R'.dom b (by show upd B.H0 a _ b ≠ none; rw [upd_ne hb]; exact q)
  · rw [hB] at hp
    cases hp
  · by_cases hj : j = i
    · by_cases hk : k = i
      · rw [hj, hk]
      · subst hj
        rw [ea] at h7
        cases h7
        rw [List.getElem?_set_ne (fun z => hk z.symm)] at h6
        exact (dctN h6 h8).elim
    · by_cases hk : k = i
      · subst hk
        rw [ea] at h8
        cases h8
        rw [List.getElem?_set_ne (fun z => hj z.symm)] at h5
        exact (dctN h5 h7).elim
      · rw [List.getElem?_set_ne (fun z => hj z.symm)] at h5
        rw [List.getElem?_set_ne (fun z => hk z.symm)] at h6
        exact R'.dd j k kv kw b h5 h6 h7 h8
  · by_cases hj : j = i
    · subst hj
      exact R.d0 j kvs b e h6
    · rw [List.getElem?_set_ne (fun z => hj z.symm)] at h5
      exact H0n b (R'.d0 j kv b h5 h6)
  · have hb : b ≠ a := fun z => n (by rw [z]; exact own_a)
    rw [upd_ne hb]
    exact f.keep b x (by rw [upd_ne hb]; exact q) fun z => n (ownU z)
  · rcases f.new b x q with z | z | z
    · exact .inl z
    · have hb : b ≠ a := fun z2 => by
        subst z2
        rw [fa] at q
        cases q
      rcases z with z | ⟨z, ys⟩
      · rw [upd_ne hb] at z
        exact .inr (.inl (.inl z))
      · rw [upd_ne hb] at z
        exact .inr (.inl (.inr ⟨z, ys⟩))
    · exact .inr (.inr (ownU z))
  · obtain ⟨hj, h9⟩ := set_un_own q (by simp)
    obtain ⟨ds0, h8⟩ := f.own j l ds h9
    exact ⟨ds0, (set_un_own h8 (by simp)).2⟩
  · by_cases hb : b = a
    · subst hb
      rw [upd_same]
      simp
    · rw [upd_ne hb]
      exact f.dom b (by rw [upd_ne hb]; exact q)
  · by_cases hj : j = i
    · subst hj
      exact ⟨kvs, e⟩
    · rw [List.getElem?_set_ne (fun z => hj z.symm)] at q
      obtain ⟨kw, h8⟩ := f.od j kv q
      exact ⟨kw, (set_un_own h8 (by simp)).2⟩
/-- what stands at the pin -/
theorem Rl.atPin {o : HO} (hB : B.all = []) (R : Rl K (pinD B i a o) F H env σ) : σ[i]? = some (some (.ref a)) ∧ H a = some o := by
  have hl : B.lent = [] := (List.append_eq_nil_iff.mp hB).1
  refine ⟨R.lsl (i, a) (List.mem_append_right _ List.mem_cons_self), R.frm a o (by show upd B.H0 a o a = _; rw [upd_same]) fun p hp => ?_⟩
  have hp : p ∈ B.lent := hp
  rw [hl] at hp
  cases hp
end
section
variable {B : Bs} {W : WX} {X : Cx} {tg elt ek : Expr} {x : Str} {p pos spos : Pos} {a : Addr} {od : Obj} {kvs : List (List Int × PyData)} {wk : WE}
def wIKeys (kvs : List (List Int × PyData)) : WI := fun env Ki _ => Ki env (kvs.map fun p => .tuple (p.1.map .int))
theorem isKeys_one {H : Hp} {k : List Key} {v : V} {q : Addr} (h : H q = some (.tup (k.map kV))) : IsKeys H [(k, v)] [q] := .cons h .nil
theorem di_keysP (i : Nat) (hB : B.all = []) (hN : X.N[i]? = some x) (hv : Vis X.env.scope x) (hd : (x == ("__debug__" : Str)) = false) (hcd : (x == ("__classdict__" : Str)) = false) : DI (pinD B i a (.frz od (.dT (kvO kvs)))) W X tg (.Name x p) (wIKeys kvs) := by
  refine ⟨⟨fun pins s σ H R I ⟨F, env, Ki, Kx, R0, hw, hx, q⟩ => ?_⟩⟩
  obtain ⟨ea, ha⟩ := Rl.atPin hB R0
  refine (pi_keys (tg := tg) (pe_var (pos := p) hN hv hd hcd)).run pins s σ H R I ⟨_, ea, a, od, rfl, .inr ⟨kvO kvs, ha, q (Itkt a od (kvO kvs)) env F H _ R0 Fm.refl ?_ hw⟩⟩
  intro F2 H2 env2 σ2 j R2 s2
  obtain ⟨_, ha2⟩ := Rl.atPin hB R2
  have hlk : (kvO kvs).length = kvs.length := List.length_map _
  rw [List.length_map]
  refine ⟨fun hj => ⟨⟨ha2, by omega⟩, fun y H3 ⟨e1, k, v, qa, e2, e3, e4⟩ => ?_⟩, fun hj => ⟨ha2, by omega⟩⟩
  subst e1 e3
  obtain ⟨pk, e5⟩ : ∃ pk, kvs[j]? = some pk := ⟨_, List.getElem?_eq_getElem hj⟩
  have e6 : (kvO kvs)[j]? = some (pk.1.map Sum.inl, vOf pk.2) := by unfold kvO; rw [List.getElem?_map, e5]; rfl
  rw [e6] at e2
  cases e2
  obtain ⟨F4, R4, f4, r4⟩ := Rl.keys [pk] [qa] F2 R2 (isKeys_one e4)
  cases r4 with
  | cons r5 r6 => exact ⟨F4, _, R4, f4, by rw [List.getElem?_map, e5]; rfl, r5⟩
/-- x[e], x pinned -/
def wGetP (kvs : List (List Int × PyData)) (wk : WE) : WE := fun env Ke Kx => wk env (fun env1 r => ∃ ks d, r = .val (.tuple (ks.map .int)) ∧ lkD kvs ks = some d ∧ scD d ∧ Ke env1 (.val d)) Kx
theorem de_getP (i : Nat) (hB : B.all = []) (hu : X.A.units + 65 < cLine) (hk : DE (pinD B i a (.frz od (.dT (kvO kvs)))) W X ek wk) (hs : NoSl ek) (hN : X.N[i]? = some x := by rfl) (hv : Vis X.env.scope x := by first | exact Or.inl rfl | exact Or.inr (Or.inl rfl) | exact Or.inr (Or.inr rfl))
    (hd : (x == ("__debug__" : Str)) = false := by decide) (hcd : (x == ("__classdict__" : Str)) = false := by decide) : DE (pinD B i a (.frz od (.dT (kvO kvs)))) W X (.Subscript (.Name x p) ek pos) (wGetP kvs wk) := by
  refine ⟨fun pins s σ F H env Ke Kx I R h hx => ?_⟩
  obtain ⟨ea, ha⟩ := Rl.atPin hB R
  refine thn ((pe_dget (pos := pos) (by omega) (pe_var (pos := p) hN hv hd hcd) hk.pe hs).run pins s σ H (fun v H' => ∃ env' r F', Rl X.K (pinD B i a (.frz od (.dT (kvO kvs)))) F' H' env' σ ∧ Fm env σ F H env' F' H' ∧ Res X.K (pinD B i a (.frz od (.dT (kvO kvs)))) F' H' env' σ v r ∧ Nw H v r ∧ Ke env' r) I ?_) fun u s1 ⟨v, H', I', rv, env', r, F', h1, h2, h3, h4, h5⟩ => ⟨v, env', r, F', H', I', rv, h1, h2, h3, h4, h5⟩
  refine ⟨.ref a, ea, F, env, _, Kx, R, h, hx, fun v1 env1 r1 F1 H1 R1 f1 q1 n1 ⟨ks, d, e1, e2, s1, k⟩ => ?_⟩
  subst e1
  have q1' : Rp X.K F1 v1 (.tuple (ks.map .int)) := q1
  obtain ⟨_, ha1⟩ := Rl.atPin hB R1
  cases q1' with
  | @tup b xs _ t1 t2 =>
    have e5 := t2.ints
    subst e5
    refine ⟨a, vOf d, rfl, .inr ⟨kvO kvs, ks.map Sum.inl, b, .inr ⟨od, ha1⟩, rfl, ?_, ?_⟩, env1, .val d, F1, R1, f1, scD_rp s1, trivial, k⟩
    · rw [ints_key]
      exact R1.sub b _ t1
    · rw [lk_val, e2]
      rfl
/-- [elt for tg in x] -/
def wLcD (i : Nat) (vs : List Nat) (g : WG) (we : List (List Int × PyData) → WE) : WE := fun env Ke _ => ∃ kvs, env[i]? = some (Sl.dct kvs) ∧ wLc vs (wIKeys kvs) g wYes (we kvs) (env.set i .un) (fun e r => Ke (e.set i (.dct kvs)) r) NoX
theorem de_lcD (i : Nat) {scope : Scope} {own : List (Str × Nat)} {is : List Nat} {g : WG} {we : List (List Int × PyData) → WE} (hB : B.all = []) (ok : BlkOk X.N X.env.scope scope own) (his : ∀ j ∈ is, j ∈ own.map (·.2)) (hi : i ∉ own.map (·.2)) (hN : X.N.Nodup)
    (hg : ∀ (B : Bs), B.all.map (·.1) = [i] → ∀ (s : Shared) (H : Hp) (C : Addr) (cl : List (Str × Addr)) (fp : List Addr), DG B (X.blk s H scope (compEnvC scope cl C X.env) fp) tg is g)
    (he : ∀ (a : Addr) (od : Obj) (kvs : List (List Int × PyData)) (s : Shared) (H : Hp) (C : Addr) (cl : List (Str × Addr)) (fp : List Addr), DE (pinD B i a (.frz od (.dT (kvO kvs)))) W0 (X.blk s H scope (compEnvC scope cl C X.env) fp) elt (we kvs))
    (hNx : X.N[i]? = some x := by rfl) (hv : Vis X.env.scope x := by first | exact Or.inl rfl | exact Or.inr (Or.inl rfl) | exact Or.inr (Or.inr rfl)) (hd : (x == ("__debug__" : Str)) = false := by decide) (hcd : (x == ("__classdict__" : Str)) = false := by decide) (hc : X.calm = true := by rfl)
    (hs : ∀ y, foldedSetIterable (.Name x p) X.env y = pure y := by intro _; rfl) :
    DE B W X (.ListComp elt [⟨tg, .Name x p, [], 0⟩] scope pos) (wLcD i (own.map (·.2)) g we) := by
  refine ⟨fun pins s σ F H env Ke Kx I R ⟨kvs, e, h⟩ hx => ?_⟩
  obtain ⟨a, ea, e2, e3⟩ := R.dctSl e
  have mu : Mut (some (.dT (kvO kvs))) := True.intro
  obtain ⟨od, I1⟩ := I.lock e2 mu
  have R1 := R.pin hB e ea (od := od)
  have hl : B.lent = [] := (List.append_eq_nil_iff.mp hB).1
  have hf : B.fns = [] := (List.append_eq_nil_iff.mp hB).2
  have nl : ∀ p ∈ (pinD B i a (.frz od (.dT (kvO kvs)))).all, p.1 ∉ own.map (·.2) := fun p hp => by
    have hp : p ∈ B.lent ++ (i, a) :: B.fns := hp
    rw [hl, hf, List.nil_append, List.mem_singleton] at hp
    subst hp
    exact hi
  have de := de_lc (B := pinD B i a (.frz od (.dT (kvO kvs)))) (W := W) (X := X) (pos := pos) (ifs := []) (ct := wYes) (di_keysP (tg := tg) (p := p) i hB hNx hv hd hcd) ok his nl hN (fun s H C cl fp => hg _ (by show (B.lent ++ (i, a) :: B.fns).map (·.1) = [i]; rw [hl, hf]; rfl) s H C cl fp) (fun _ _ _ _ _ => dts_nil) (fun s H C cl fp => he a od kvs s H C cl fp) hc hs
  refine thn (de.run pins s σ F _ (env.set i .un) _ NoX I1 R1 h fun _ _ _ _ _ _ _ z => z.elim) fun u s1 ⟨v, env', r, F', H', I', rv, R', f', q', n', k'⟩ => ?_
  obtain ⟨g1, g2, g3⟩ := R.pinned hB e ea R' f'
  refine ⟨v, _, r, F', _, I'.unlock g1 (I.nofrz e2 mu), rv, g2, g3, ?_, ?_, k'⟩
  · cases r with
    | val d => exact q'
    | slot j => exact q'
    | tmp ds =>
      obtain ⟨q, vs, h1, h2, h3, h4, h5, h6⟩ := q'
      have qa : q ≠ a := fun z => by rw [z, g1] at h2; cases h2
      refine ⟨q, vs, h1, by rw [upd_ne qa]; exact h2, h3, ?_, fun z => ?_, h6⟩
      · have h4 : upd B.H0 a _ q = none := h4
        rwa [upd_ne qa] at h4
      · rcases z with ⟨j, l, es, z1, z2⟩ | ⟨j, kv, z1, z2⟩
        · exact h5 (.inl ⟨j, l, es, (set_un_own z1 (by simp)).2, z2⟩)
        · by_cases hj : j = i
          · subst hj
            rw [ea] at z2
            cases z2
            exact qa rfl
          · rw [List.getElem?_set_ne (fun z => hj z.symm)] at z1
            exact h5 (.inr ⟨j, kv, z1, z2⟩)
  · cases r with
    | val d => trivial
    | slot j => trivial
    | tmp ds =>
      intro q eq
      have := n' q eq
      by_cases hq : q = a
      · subst hq
        rw [upd_same] at this
        cases this
      · rwa [upd_ne hq] at this
end
end Dl
end L2

/-! The D layer, 43: range(i, j), i and j of any size. -/
namespace L2
namespace Dl
open PySem PySem.Spec PyProof.Rows
section
variable {X : Cx} {tg : Expr}
end
section
variable {B : Bs} {W : WX} {X : Cx} {tg a b : Expr} {wa wb : WE} {pos p : Pos}
end
end Dl
end L2

/-! The D layer, 44: f(e, ..), a new list lent. -/
namespace L2
namespace Dl
open PySem PySem.Spec PyProof.Rows
section
variable {K : PySem.W.Frag} {B : Bs} {F H F1 H1 F' H' : Hp} {env env1 : Ev} {σ : St} {p : Addr} {ws : List V} {outs : List (List PyData)}
theorem tmp_after (R : Rl K B F1 H1 env1 σ) (h1 : H1 p = some (.lst ws)) (h3 : B.H0 p = none) (h4 : ¬ ownAt env1 σ p) (a : Aft K F1 H1 [p] F' H' outs) : Rl K B F' H' env1 σ := by
  have np : ∀ {b : Addr}, b ≠ p → b ∉ [p] := fun {b} h z => h (List.mem_singleton.mp z)
  refine ⟨R.len, a.sub, fun j => ?_, R.dist, R.sub0.trans a.subF, fun b x q => ?_, fun b x q n => a.keep b x (R.frm b x q n) (np fun z => by rw [z, h3] at q; cases q), fun b q => a.dom b (R.dom b q), R.own0, R.own1, R.lsl, R.dd, R.d0⟩
  · have s := R.sl j
    cases q : env1[j]? with
    | none => trivial
    | some z =>
      rw [q] at s
      cases z with
      | un => trivial
      | val d =>
        obtain ⟨v, g1, g2⟩ := s
        exact ⟨v, g1, Rp.mono a.subF _ _ g2⟩
      | own m es =>
        obtain ⟨c, vs, g1, g2, g3, g4⟩ := s
        have k := a.keep c _ g2 (np fun z => h4 (.inl ⟨j, m, es, q, by rw [← z]; exact g1⟩))
        refine ⟨c, vs, g1, k, ?_, RpAll.mono a.subF _ _ g4⟩
        cases y : F' c with
        | none => rfl
        | some x =>
          rcases a.new c x y with z | z | ⟨ys, z⟩
          · rw [g3] at z; cases z
          · rw [g2] at z; cases z
          · have := a.sub c x y
            rw [k] at this
            cases this
            cases z
      | dct kv =>
        obtain ⟨c, g1, g2, g3⟩ := s
        have k := a.keep c _ g2 (np fun z => h4 (.inr ⟨j, kv, q, by rw [← z]; exact g1⟩))
        refine ⟨c, g1, k, ?_⟩
        cases y : F' c with
        | none => rfl
        | some x =>
          rcases a.new c x y with z | z | ⟨ys, z⟩
          · rw [g3] at z; cases z
          · rw [g2] at z; cases z
          · have := a.sub c x y
            rw [k] at this
            cases this
            cases z
  · rcases a.new b x q with z | z | z
    · exact R.new b x z
    · exact .inr (.inl (R.free0 z))
    · exact .inr (.inr z)
theorem fm_after (f : Fm env σ F H env1 F1 H1) (hp : H p = none) (a : Aft K F1 H1 [p] F' H' outs) : Fm env σ F H env1 F' H' := by
  have np : ∀ {b : Addr} {x : HO}, H b = some x → b ∉ [p] := fun {b x} h z => by
    rw [List.mem_singleton.mp z, hp] at h
    cases h
  refine ⟨fun b x q n => a.keep b x (f.keep b x q n) (np q), f.sub.trans a.subF, fun b x q => ?_, f.own, fun b q => a.dom b (f.dom b q), f.od⟩
  rcases a.new b x q with z | z | ⟨ys, z⟩
  · exact f.new b x z
  · cases y : H b with
    | none => exact .inr (.inl (.inl y))
    | some o => exact absurd z (f.dom b (by rw [y]; simp))
  · cases y : H b with
    | none => exact .inr (.inl (.inl y))
    | some o =>
      by_cases ow : ownAt env σ b
      · exact .inr (.inr ow)
      · have k := a.keep b o (f.keep b o y ow) (np y)
        rw [a.sub b x q] at k
        cases k
        exact .inr (.inl (.inr ⟨y, ys, z⟩))
theorem no_lent : ∀ {as : List Ar} {avs : List AV} {env : Ev} {vs : List V}, lnsOf as = [] → avsOf env as = some avs → lentAs vs avs = []
  | [], avs, env, vs, _, h => by
    cases h
    cases vs with
    | nil => rfl
    | cons v vs => cases v <;> rfl
  | .fz d :: as, avs, env, vs, hl, h => by
    simp only [avsOf, Option.map_eq_some_iff] at h
    obtain ⟨av, h1, rfl⟩ := h
    cases vs with
    | nil => rfl
    | cons v vs =>
      have := no_lent (as := as) (vs := vs) hl h1
      cases v <;> exact this
  | .ln i :: as, avs, env, vs, hl, h => by cases hl
end
/-- f(e, ..), e a new list, lent -/
def wCallA (n : Nat) (S : Spc) (w : WE) (wm : WM) : WE := fun env Ke Kx => w env (fun env1 r => ∃ ds, r = .tmp ds ∧ wm env1 (fun env2 as => lnsOf as = [] ∧ ∃ avs, avsOf env2 as = some avs ∧ avs.length + 1 = n ∧ S (.own ds :: avs) (fun _ rv => Ke env2 (rsOf rv)) (fun _ x => Kx env2 x)) Kx) Kx
section
variable {B : Bs} {W : WX} {X : Cx} {k n : Nat} {x : Str} {S : Spc} {e : Expr} {es : List Expr} {w : WE} {wm : WM} {p pos : Pos}
theorem de_callA (C : Cal X.prog X.w X.K X.mg X.base k x n S) (hr : Room k X.A) (hB : B.mg = X.mg) (tk : L2N.Takes X W) (he0 : DE B W X e w) (ha : DM B W X es wm) (hg : Gl X x := by rfl) (hdb : (x == ("__debug__" : Str)) = false := by decide)
    (he : starEach (e :: es) X.env = (false, eval e X.env) :: starEach es X.env := by rfl) (hpl : (backTo pos (starEach es X.env)).any (·.1) = false := by rfl) : DE B W X (.Call (.Name x p) (e :: es) [] pos) (wCallA n S w wm) := by
  obtain ⟨f, fd, ps, hpn, hm, hk, hb, Fk⟩ := C
  refine ⟨fun pins s σ F H env Ke Kx I R h hx => ?_⟩
  have args : wpAny (model X.prog X.w) X.A (spliced (backTo pos (starEach (e :: es) X.env))) (fun us s' => ∃ q ws ds vs env2 as F2 H2, Inv X pins σ H2 s' ∧ Vals (V.ref q :: vs) us ∧ Rl X.K B F2 H2 env2 σ ∧ Fm env σ F H env2 F2 H2 ∧ H2 q = some (.lst ws) ∧ F2 q = none ∧ B.H0 q = none ∧ ¬ ownAt env2 σ q ∧ RpAll X.K F2 ws ds ∧ H q = none ∧ Paired (fun v a => ArR X.K F2 σ v a) vs as ∧
      lnsOf as = [] ∧ ∃ avs, avsOf env2 as = some avs ∧ avs.length + 1 = n ∧ S (.own ds :: avs) (fun _ rv => Ke env2 (rsOf rv)) (fun _ y => Kx env2 y)) X.xe s := by
    rw [he]
    show wpAny _ _ (spliced ((false, eval e X.env) :: backTo pos (starEach es X.env))) _ _ s
    refine Calls.spliced_cons (thn (he0.run pins s σ F H env _ Kx I R h hx) fun u s1 ⟨y, env1, r1, F1, H1, I1, rx, R1, f1, q1, n1, ds, e1, h1⟩ => ?_)
    subst e1
    obtain ⟨q, ws, rfl, g2, g3, g4, g5, g6⟩ := id q1
    have hq : H q = none := n1 q rfl
    exact thn (ha.run pos pins s1 σ F1 H1 env1 _ Kx I1 R1 h1 hx) fun us s2 ⟨vs, env2, as, F3, H3, I3, rv, R3, f3, q3, l0, avs, a1, a2, a3⟩ => by
      obtain ⟨q', ws', z1, z2, z3, z4, z5, z6⟩ := Res.step (r := .tmp ds) f3 q1
      cases z1
      exact ⟨q, ws', ds, vs, env2, as, F3, H3, I3, .cons rx rv, R3, f1.trans f3, z2, z3, z4, z5, z6, hq, q3, l0, avs, a1, a2, a3⟩
  refine wpAny_Call_Name_kw (ld_glob I hg hm ?_ hdb)
  refine PySem.W.callWith_K (h₀ := X.base) I.ok.mod.kin hk (thn args fun us s1 ⟨q, ws, ds, vs, env1, as, F1, H1, I1, rv, R1, f1, g2, g3, g4, g5, g6, hq, q1, l0, avs, e1, hlen, hS⟩ => ⟨I1.kIn, ?_⟩) he hpl
  obtain ⟨k1, k2⟩ := argsR_of R1 as vs avs q1 e1
  have ln : lentAs (V.ref q :: vs) (.own ds :: avs) = [q] := by
    show q :: lentAs vs avs = [q]
    rw [no_lent l0 e1]
  refine thn (run_fnSD (E := fun σ cls d H' => W cls d σ H') (dvs := []) Fk hr hb .nil (fun pins H s e s' I hc => tk e s' (L2N.XE.of_call (W := W) I (fun cls d H' q => q) hc)) I1 rv (Q := fun v H' => ∃ outs r F', Aft X.K F1 H1 [q] F' H' outs ∧ RvR X.K H1 F' H' v r ∧ Ke env1 (rsOf r)) ?_) fun u s2 ⟨v, H', I', rv', outs, r, F', a, k3, k4⟩ => ?_
  · rw [List.append_nil]
    refine ⟨F1, .own ds :: avs, _, _, R1.sub, .own g2 g3 g6 k1, by rw [ln]; simp, hlen, hS, fun outs r F' H' v a hv hk => ?_, fun outs y cls d F' H' a hy hk => ?_⟩
    · rw [ln] at a
      exact ⟨outs, r, F', a, hv, hk⟩
    · rw [ln] at a
      refine hx σ _ y cls d F' H' hk (tmp_after R1 g2 g4 g5 a) ?_
      obtain ⟨z1, z2⟩ := hy
      exact ⟨by rw [hB]; exact z1, z2⟩
  · have R2 := tmp_after R1 g2 g4 g5 a
    refine ⟨v, env1, rsOf r, F', H', I', rv', R2, fm_after f1 hq a, ?_, ?_, k4⟩
    · cases r with
      | val d => exact k3
      | own es' =>
        obtain ⟨b, bs, e3, e4, e5, e6, e7⟩ := k3
        exact ⟨b, bs, e3, e4, e5, R1.free0 e6, R1.notOwn e6, e7⟩
    · cases r with
      | val d => trivial
      | own es' =>
        obtain ⟨b, bs, e3, e4, e5, e6, e7⟩ := k3
        intro c hc
        rw [e3] at hc
        cases hc
        cases y : H b with
        | none => rfl
        | some o => exact absurd e6 (f1.dom b (by rw [y]; simp))
end
end Dl
end L2

/-! The D layer, 45: x = {}; for k in ..: x[e] = True; len(x), the keys being tuples of tuples. -/
namespace L2
namespace Dl
open PySem PySem.Spec PyProof.Rows

/-! ### the dict at a -/
def NOk (P : Program) (w : World) (a : Addr) (xs : List (NestedKey × Addr × Value)) (h : Heap) : Prop :=
  (a == sysModules) = false ∧ ∃ o es ep, h.get? a = some o ∧ o.ExactDict ∧ o.data = .dict es ep ∧ es.toList = xs.map (entryOfKey (nestedKind P w))
/-- the keys stand still, each once, all values True -/
structure KeysN (K : PySem.W.Frag) (F : Hp) (xs : List (NestedKey × Addr × Value)) : Prop where
  rp : ∀ x ∈ xs, Rp K F (.ref x.2.1) x.1.data ∧ x.1.depth ≤ 8 ∧ x.2.2 = .bool true
  nd : (xs.map (·.1)).Nodup
theorem KeysN.mono {K : PySem.W.Frag} {F F' : Hp} {xs : List (NestedKey × Addr × Value)} (h : KeysN K F xs) (s : Same F F') : KeysN K F' xs := ⟨fun x hx => ⟨Rp.mono s _ _ (h.rp x hx).1, (h.rp x hx).2⟩, h.nd⟩
section
variable {K : PySem.W.Frag} {F H : Hp} {h : Heap} {P : Program} {w : World}
mutual
theorem nkIs (ok : HOk P w H h) (s : Same F H) : ∀ (κ : NestedKey) (v : V) (u : Value), Rp K F v κ.data → RelV v u → NestedIs h κ u
  | .none, _, u, r, e => by
    simp only [NestedKey.data] at r
    cases r
    obtain rfl : u = Value.none := e
    exact .none
  | .num i, _, _, r, e => by
    simp only [NestedKey.data] at r
    cases r
    obtain ⟨t, rfl⟩ := e
    exact .int i t
  | .text x, _, _, r, e => by
    simp only [NestedKey.data] at r
    cases r
    obtain ⟨t, rfl⟩ := e
    exact .text x t
  | .tup ks, _, u, r, e => by
    simp only [NestedKey.data] at r
    cases r with
    | @tup a xs _ t1 t2 =>
      obtain rfl : u = Value.ref a := e
      obtain ⟨_, its, rv, o, g1, g2, n, g3⟩ := ok a _ (s _ _ t1)
      exact .tup g1 g2 g3 (by rw [List.toList_toArray]; exact nkAll ok s ks xs its t2 rv)
theorem nkAll (ok : HOk P w H h) (s : Same F H) : ∀ (ks : List NestedKey) (vs : List V) (us : List Value), RpAll K F vs (NestedKey.datas ks) → Vals vs us → NestedAll h ks us
  | [], _, _, r, e => by
    simp only [NestedKey.datas] at r
    cases r
    cases e
    exact .nil
  | k :: ks, _, _, r, e => by
    simp only [NestedKey.datas] at r
    cases r with
    | cons r1 r2 =>
      cases e with
      | cons e1 e2 => exact .cons (nkIs ok s k _ _ r1 e1) (nkAll ok s ks _ _ r2 e2)
end
theorem KeysN.dict (ok : HOk P w H h) (s : Same F H) {a : Addr} {xs : List (NestedKey × Addr × Value)} (k : KeysN K F xs) (x : NOk P w a xs h) : h.DictOfH (nestedKind P w) a xs := by
  obtain ⟨_, o, es, ep, e1, e2, e3, e4⟩ := x
  exact ⟨o, es, ep, e1, e2, e3, e4, fun y hy => ⟨nkIs ok s _ _ _ (k.rp y hy).1 rfl, (k.rp y hy).2.1⟩, k.nd⟩
end
/-- the keys, one more -/
def stN (xs : List (NestedKey × Addr × Value)) (κ : NestedKey) (b : Addr) : List (NestedKey × Addr × Value) := if κ ∈ xs.map (·.1) then xs else xs ++ [(κ, b, .bool true)]
def insN (ks : List NestedKey) (κ : NestedKey) : List NestedKey := if κ ∈ ks then ks else ks ++ [κ]
theorem stN_keys (xs : List (NestedKey × Addr × Value)) (κ : NestedKey) (b : Addr) : (stN xs κ b).map (·.1) = insN (xs.map (·.1)) κ := by
  unfold stN insN
  split
  · rfl
  · rw [List.map_append]
    rfl
theorem KeysN.st {K : PySem.W.Frag} {F : Hp} {xs : List (NestedKey × Addr × Value)} (h : KeysN K F xs) {κ : NestedKey} {b : Addr} (r : Rp K F (.ref b) κ.data) (d : κ.depth ≤ 8) : KeysN K F (stN xs κ b) := by
  refine ⟨fun x hx => ?_, ?_⟩
  · unfold stN at hx
    split at hx
    · exact h.rp x hx
    · rcases List.mem_append.mp hx with hx | hx
      · exact h.rp x hx
      · rw [List.mem_singleton] at hx
        subst hx
        exact ⟨r, d, rfl⟩
  · rw [stN_keys]
    unfold insN
    split
    · exact h.nd
    · rename_i c
      exact List.nodup_append.mpr ⟨h.nd, List.nodup_cons.mpr ⟨by simp, List.nodup_nil⟩, fun x hx y hy e => by
        rw [List.mem_singleton] at hy
        subst hy e
        exact c hx⟩
section
variable {X : Cx}
end

/-! ### the ground, the dict lent or pinned -/
section
variable {K : PySem.W.Frag} {B : Bs} {F H : Hp} {env : Ev} {σ : St} {i : Nat} {a : Addr}
end
section
variable {B : Bs} {W : WX} {X : Cx} {x : Str} {ek : Expr} {wk : WE} {xp dp q1 q2 q3 q4 p1 p2 tp : Pos} {jj : Tok} {i ti : Nat}
end
section
variable {X : Cx}
end
section
variable {B : Bs} {W : WX} {X : Cx} {x : Str} {p p2 pos : Pos}
end
end Dl
end L2

/-! The D layer, 46: the rule for x = {}; for k in ..: x[e] = True; and the rest. -/
namespace L2
namespace Dl
open PySem PySem.Spec PyProof.Rows
section
variable {K : PySem.W.Frag} {B : Bs} {F H F' H' : Hp} {env env' : Ev} {σ : St} {a : Addr} {φ : Heap → Prop}
end
section
variable {B : Bs} {W : WX} {X : Cx} {x tg : Str} {ek it : Expr} {wk : WE} {wi : WI} {u : Nat → WS} {xp dp q1 q2 q3 q4 p1 p2 tp : Pos} {jj : Tok} {i ti : Nat} {rest : List Stmt} {body : Stmt}
end
end Dl
end L2

/-! The D layer, 47: texts. -/
namespace L2
namespace Dl
open PySem PySem.Spec PyProof.Rows
section
variable {X : Cx}
end
section
variable {B : Bs} {W : WX} {X : Cx} {x : Str} {o e : Expr} {wo we : WE} {p apos pos : Pos}
end
end Dl
end L2

/-! The D layer, 48: o.replace("..", "..") in a display that begins with a written text (which draws the token that the rule wants). -/
namespace L2
namespace Dl
open PySem PySem.Spec PyProof.Rows
section
variable {B : Bs} {W : WX} {X : Cx} {o e : Expr} {es : List Expr} {wo we : WE} {wf : WF} {y z : Str} {j k : Nat} {c0 c1 pos apos : Pos}
/-- as DE, once a token has been drawn -/
structure DET (B : Bs) (W : WX) (X : Cx) (e : Expr) (w : WE) : Prop where
  run : ∀ (pins : List (Addr × Obj)) (s : Shared) (σ : St) (F H : Hp) (env : Ev) (Ke : KE) (Kx : KXc), 1 ≤ s.toks → Inv X pins σ H s → Rl X.K B F H env σ → w env Ke Kx → XC X.K B W Kx →
    wpAny (model X.prog X.w) X.A (eval e X.env) (DP X B pins σ F H env Ke) X.xe s
/-- as DF, once a token has been drawn -/
structure DFT (B : Bs) (W : WX) (X : Cx) (es : List Expr) (w : WF) : Prop where
  run : ∀ (pos : Pos) (pins : List (Addr × Obj)) (s : Shared) (σ : St) (F H : Hp) (env : Ev) (Ka : Ev → List PyData → Prop) (Kx : KXc), 1 ≤ s.toks → Inv X pins σ H s → Rl X.K B F H env σ → w env Ka Kx → XC X.K B W Kx →
    wpAny (model X.prog X.w) X.A (spliced (backTo pos (starEach es X.env))) (fun us s' => ∃ vs env' ds F' H', Inv X pins σ H' s' ∧ Vals vs us ∧ Rl X.K B F' H' env' σ ∧ Fm env σ F H env' F' H' ∧ RpAll X.K F' vs ds ∧ Ka env' ds) X.xe s
end
end Dl
end L2

/-! The D layer, 49: a number or None in a range. -/
namespace L2
namespace Dl
open PySem PySem.Spec PyProof.Rows
section
variable {prog : Program} {w : World} {A : Around} {E : Value → Shared → Prop} {s : Shared}
end
section
variable {B : Bs} {W : WX} {X : Cx} {pos q pos2 : Pos} {a b c : Expr} {wa wb wc : WE}
end
end Dl
end L2

/-! The D layer, 50: sorted(set(xs)), xs a list of ints. -/
namespace L2
namespace Dl
open PySem PySem.Spec PyProof.Rows PySem.MeetsSeq
theorem set_listJ {P : Program} {w : World} {A : Around} {E : Value → Shared → Prop} {s : Shared} {l : Addr} {items : Array Value} (zs : List Int) {Q : Value → Shared → Prop} (hh : A.handled = none) (hl : s.heap.IsList l items) (hit : IntsAre items.toList zs) (hfew : zs.length < 64)
    (h : ∀ (h' : Heap) (tk m : Nat), SetR w h' s.heap.objs.size (fun j => decide (j ∈ zs)) m → m ≤ zs.length → (∀ b o, s.heap.get? b = some o → h'.get? b = some o) → Q (.ref s.heap.objs.size) { s with heap := h', toks := tk }) :
    wpAny (model P w) A (call (.type "set") [.ref l]) Q E s := by
  have hisz : items.size = zs.length := by rw [← Array.length_toList]; exact IntsAre.length hit
  obtain ⟨c, tl, hmro⟩ := F.called_set.mro
  have hmade := F.called_set.made
  have hsub := F.called_set.sub
  refine wpAny_call (codeAny_of_tree ?_)
  show wpAny _ _ (callAny (.type "set") _) _ _ _
  refine wpAny_pure ⟨Code.quiet_builtin _ (by decide +kernel), codeAny_builtin F.entry_type_call ?_⟩
  rw [Around.under_plain (weight_type_call_type "set" [.ref l] []) rfl]
  have h1 := F.called_set.notType
  have h2 := F.called_set.canCreate
  have hct := F.typeCall_set_1 (.ref l)
  repeat (any_goals (first | assumption | wp_step))
  refine codeAny_mono (code_set_led1 (.ref l) (E := E) (Q₁ := fun obj s₁ => obj = .ref s.heap.objs.size ∧ s₁ = { s with heap := s.heap.push (sO w) }) ⟨rfl, rfl⟩) fun r s₁ hr => ?_
  cases r with
  | error e => exact hr
  | ok fl =>
    cases fl with
    | ret obj =>
      obtain ⟨rfl, rfl⟩ := hr
      have hS : (s.heap.push (sO w)).get? s.heap.objs.size = some (sO w) := Heap.get?_push_size _ rfl
      have hT : Shared.TypeIs { s with heap := s.heap.push (sO w) } (.ref s.heap.objs.size) "set" := ⟨_, hS, rfl⟩
      have hli := F.called_set.init.lookup
      have hbi := F.called_set.init.bind (.ref s.heap.objs.size)
      repeat (any_goals (first | assumption | wp_step))
      refine codeAny_mono (codeAny_call_builtin (R := wants (fun r s₂ => r = .none ∧ ∃ h' tk m, s₂ = { s with heap := h', toks := tk } ∧ SetR w h' s.heap.objs.size (fun j => decide (j ∈ zs)) m ∧ m ≤ zs.length ∧
          (∀ b o, s.heap.get? b = some o → h'.get? b = some o)) E) F.called_set.init.plain F.entry_set_init (check_set_init_1 hT ?_)) fun r₂ s₂ hr₂ => ?_
      · obtain ⟨ol, hol, hcl, nl, hdl⟩ := hl
        obtain ⟨ocls, odict, odata, oslots⟩ := ol
        simp only at hcl hdl
        subst hcl; subst hdl
        have hol' : (s.heap.push (sO w)).get? l = some { cls := .type "list", dict := odict, data := .seq items nl, slots := oslots } := Heap.get?_push_of_some _ hol
        have hsls := F.sub_list_set
        have hslf := F.sub_list_frozenset
        have hne : (Value.type "list" == Value.type "dict") = false := by decide
        have hl1 : (s.heap.push (sO w)).IsList l items := ⟨_, hol', rfl, nl, rfl⟩
        unfold Builtin.«set.__init__» noKeywords Builtin.Frozenset.updateFrom
        generalize hPI : pyIter = PI
        wp_walk
        subst hPI
        refine wpAny_pyIter_list hl1 ?_
        refine wpAny_bind (wpAny_runValue ?_)
        have hlS : l < s.heap.objs.size := Heap.lt_size hol
        have hh3 : A.in1.in1.in1.handled = none := by simp [hh]
        have hz1 : (s.heap.push (sO w)).objs.size = s.heap.objs.size + 1 := Heap.size_push ..
        have hneI : l ≠ (s.heap.push (sO w)).objs.size := by rw [Heap.size_push]; exact Nat.ne_of_lt (Nat.lt_succ_of_lt hlS)
        have hSf : s.heap.objs.size ∉ [(s.heap.push (sO w)).objs.size, l] := by
          rw [Heap.size_push]; simp only [List.mem_cons, List.mem_singleton, List.not_mem_nil, or_false, not_or]
          exact ⟨Nat.ne_of_lt (Nat.lt_succ_self _), Nat.ne_of_gt hlS⟩
        have hval : ∀ (i : Nat) (v : Value), items[i]? = some v → ∃ z t, zs[i]? = some z ∧ v = .int z t := fun i v hv => by
          have hi : i < zs.length := by rw [← hisz]; exact (Array.getElem?_eq_some_iff.mp hv).1
          obtain ⟨t, e⟩ := PyProof.Rows.IntsAre.int_at hit i v (by rw [Array.getElem?_toList]; exact hv)
          exact ⟨zs[i], t, List.getElem?_eq_getElem hi, by rw [e, List.getD_eq_getElem?_getD, List.getElem?_eq_getElem hi]; rfl⟩
        refine set_update_ints ((Walks.list hh3 _ l hneI items).toS) s.heap.objs.size hSf zs hisz (by unfold scanBound; omega) hval (items.size - 0) 0 _ (by omega) (Nat.zero_le _)
          ⟨⟨_, Heap.get?_push_size _ rfl, rfl, rfl⟩, (hl1.push _)⟩ ?hS0 ?hR
        case hS0 => exact ⟨0, Nat.le_refl 0, setR_new_at (Heap.get?_push_of_some _ hS)⟩
        case hR =>
          intro s' m hm g' hS'
          obtain ⟨h', g2, d', tk', os'⟩ := s'
          have eg : g2 = s.gens := hm.gens
          have ed : d' = s.drawn := hm.drawn
          have eo : os' = s.os := hm.os
          subst eg; subst ed; subst eo
          show wpAny _ _ _ _ _ _
          refine wpAny_pure ?_
          show wpAny _ _ (ret Value.none) _ _ _
          rw [hisz] at g'
          refine wpAny_pure ⟨rfl, h', tk', m, rfl, hS', g', fun b o e => ?_⟩
          have below : b < s.heap.objs.size := Heap.lt_size e
          have e2 := Heap.get?_push_of_some (sO w) e
          exact hm.heap b o (by
            rw [Heap.size_push]
            simp only [List.mem_cons, List.mem_singleton, List.not_mem_nil, or_false, not_or]
            exact ⟨Nat.ne_of_lt below, Nat.ne_of_lt (Nat.lt_succ_of_lt below)⟩) (Heap.get?_push_of_some _ e2)
      · cases r₂ with
        | error e => exact hr₂
        | ok fl₂ =>
          cases fl₂ with
          | ret r =>
            obtain ⟨rfl, h', tk, m, rfl, hS', g', hk'⟩ := hr₂
            repeat (any_goals (first | assumption | wp_step))
            exact h _ _ _ hS' g' hk'
          | _ => exact hr₂.elim
    | _ => exact hr.elim
def rSetLJ (K : PySem.W.Frag) (w : World) : List V → Hp → VK → Prop := fun xs H Q => ∃ (l : Addr) (zs : List Int), xs = [V.ref l] ∧ SqL K H l (zs.map V.int) ∧ zs.length < 64 ∧
  ∀ a n, n ≤ zs.length → H a = none → Q (.ref a) (upd H a (SetO w a (fun j => decide (j ∈ zs)) n))
theorem cr_setLJ {X : Cx} (hc : X.calm = true) : CallR X (.type "set") (rSetLJ X.K X.w) := by
  intro pins s σ H xs us Q I r h
  obtain ⟨l, zs, rfl, hl, hf, q⟩ := h
  rw [Vals.ref1 r]
  obtain ⟨its, rv, pl, hz⟩ := I.list hl
  have hn : H s.heap.objs.size = none := I.hok.fresh (Nat.le_refl _)
  refine set_listJ zs (I.ok.hd hc) pl.isList (by simpa using ints_of_vals rv) hf fun h' tk c R hcn k => ?_
  exact ⟨.ref s.heap.objs.size, upd H s.heap.objs.size (SetO X.w s.heap.objs.size (fun j => decide (j ∈ zs)) c), I.laid (t' := tk) k (Nat.le_refl _) (setO_new R), rfl, q _ c hcn hn⟩
/-- sorted(set(xs)), xs a list that is lent -/
def wSortSetJ (w : WE) : WE := fun env Ke Kx => w env (fun env1 r => ∃ xs, r = .val (.list xs) ∧ oSortSetI xs (Ke env1)) Kx
section
variable {B : Bs} {W : WX} {X : Cx} {e : Expr} {w : WE} {p p2 q pos : Pos}
theorem de_sortSetJ (hc : X.calm = true) (hg : Gl X "sorted") (hm : X.mg "sorted" = none) (hg2 : Gl X "set") (hm2 : X.mg "set" = none) (ha : DE B W X e w)
    (na : starEach [e] X.env = (false, eval e X.env) :: starEach [] X.env := by rfl) : DE B W X (.Call (.Name "sorted" p) [.Call (.Name "set" p2) [e] [] q] [] pos) (wSortSetJ w) := by
  refine ⟨fun pins s σ F H env Ke Kx I R h hx => ?_⟩
  refine Call_ (ld_blt I hg hm bt_sorted ?_)
  refine PyProof.Rows.callWith_builtin1 (PyProof.Rows.args_cons ?_ rfl) rfl rfl
  refine Call_ (ld_blt I hg2 hm2 bt_set ?_)
  refine PyProof.Rows.callWith_type1 (PyProof.Rows.args_cons (thn (ha.run pins s σ F H env _ Kx I R h hx) fun u s1 ⟨v, env1, r, F1, H1, I1, rv, R1, f1, q1, n1, xs, e1, zs, exs, hlen, k⟩ => PyProof.Rows.args_nil ?_) na) na rfl
  subst e1 exs
  have q1' : Rp X.K F1 v (.list (zs.map .int)) := q1
  cases q1' with
  | @lst a vs _ t1 t2 =>
    have e5 := t2.ints
    subst e5
    refine thn (cr_setLJ hc pins s1 σ H1 [.ref a] [u] (fun (y : V) (H2 : Hp) => ∃ (b : Addr) (n : Nat), n ≤ zs.length ∧ H1 b = none ∧ y = V.ref b ∧ H2 = upd H1 b (SetO X.w b (fun j => decide (j ∈ zs)) n)) I1 (.cons rv .nil)
      ⟨a, zs, rfl, R1.sub.seq t1, hlen, fun b n hn nb => ⟨b, n, hn, nb, rfl, rfl⟩⟩) fun w s2 ⟨y, H2, I2, ry, b, n, hn, nb, ey, eH⟩ => PyProof.Rows.args_nil ?_
    subst ey eH
    have R2 : Rl X.K B F1 (upd H1 b (SetO X.w b (fun j => decide (j ∈ zs)) n)) env1 σ := R1.lay nb
    have f2 : Fm env σ F H env1 F1 (upd H1 b (SetO X.w b (fun j => decide (j ∈ zs)) n)) := f1.trans (fm_lay nb)
    refine thn (cr_sortedSet hc pins s2 σ _ [.ref b] [w] (fun v H' => ∃ r F', Rl X.K B F' H' env1 σ ∧ Fm env1 σ F1 (upd H1 b (SetO X.w b (fun j => decide (j ∈ zs)) n)) env1 F' H' ∧ Res X.K B F' H' env1 σ v r ∧ Nw (upd H1 b (SetO X.w b (fun j => decide (j ∈ zs)) n)) v r ∧ Ke env1 r) I2 (.cons ry .nil)
      ⟨b, _, n, rfl, upd_same, by omega, fun ns c pw mem hl np => ?_⟩) fun w s3 ⟨v, H3, I3, rv3, r, F3, g1, g2, g3, g4, g5⟩ => ?_
    · exact new_lst R2 np (RpAll.of_ints ns) (k ns pw fun j => by rw [mem j]; exact decide_eq_true_iff)
    · exact DP.up f2 ⟨v, env1, r, F3, H3, I3, rv3, g1, g2, g3, g4, g5⟩
end
end Dl
end L2

/-! The D layer, 51: max(t), t a tuple of ints. -/
namespace L2
namespace Dl
open PySem PySem.Spec PyProof.Rows
section
variable {prog : Program} {w : World} {A : Around} {E : Value → Shared → Prop} {s : Shared} {l : Addr} {its : List Value} {ns : List Int} {Q : Value → Shared → Prop}
theorem max_tupJ (hh : A.handled = none) (ht : s.heap.IsTuple l its.toArray) (hi : IntsAre its ns) (h1 : 0 < ns.length)
    (h : ∀ h' tk m t', (∀ b o, s.heap.get? b = some o → h'.get? b = some o) → m ∈ ns → (∀ n ∈ ns, n ≤ m) → Q (.int m t') { s with heap := h', toks := tk }) : wpAny (model prog w) A (call (.builtin "max") [.ref l]) Q E s := by
  obtain ⟨xs, e⟩ := hi.allInts.items
  have hn : numsOf (intItems xs).toList = ns := by rw [← e]; exact hi.numsOf
  rw [nums_intItems] at hn
  subst hn
  rw [e] at ht
  have many : 0 < xs.size := by simpa using h1
  obtain ⟨o, ho, _⟩ := id ht
  have below : l < s.heap.objs.size := Heap.lt_size ho
  refine call_max_walk (wpAny_pyIter_tuple ht ?_)
  refine ⟨_, _, _, _, _, _, _, rfl, Walks.tuple (A := A.in1) hh _ l (Nat.ne_of_lt below) (intItems xs), ⟨⟨_, Heap.get?_push_size _ rfl, rfl, rfl⟩, ht.push _⟩, fun b hb => ?_, by simpa [intItems] using many, CmpOf.ints_gt (numAt xs) (fun _ _ => intItems_at), fun v h' tk hP hk => ?_⟩
  · rw [Heap.size_push]
    rcases List.mem_cons.mp hb with z | hb
    · rw [z]; exact Nat.lt_succ_self _
    · rw [List.mem_singleton.mp hb]; exact Nat.lt_succ_of_lt below
  · have hv : (intItems xs)[argBest (fun i j => decide (numAt xs i > numAt xs j)) (xs.size - 1)]? = some v := by simpa [intItems] using hP
    obtain ⟨t, rfl⟩ := intItems_at hv
    obtain ⟨b1, b2⟩ := argBest_gt (numAt xs) (xs.size - 1)
    refine h h' tk _ t (fun b o e2 => ?_) ?_ fun a ha => ?_
    · exact hk b o (fun z => by
        rw [List.mem_singleton.mp z] at e2
        exact Nat.lt_irrefl _ (Heap.lt_size e2)) (Heap.get?_push_of_some _ e2)
    · rw [numAt_eq]
      exact PySem.getD_mem (by rw [List.length_map, Array.length_toList]; omega)
    · obtain ⟨j, hj, rfl⟩ := mem_getD ha
      rw [List.length_map, Array.length_toList] at hj
      rw [← numAt_eq]
      exact b2 j (by omega)
end
def rMaxT (K : PySem.W.Frag) : List V → Hp → VK → Prop := fun vs H Q => ∃ (a : Addr) (ns : List Int), vs = [V.ref a] ∧ SqT K H a (ns.map V.int) ∧ 0 < ns.length ∧ ∀ m, m ∈ ns → (∀ n ∈ ns, n ≤ m) → Q (.int m) H
theorem cr_maxT {X : Cx} (hc : X.calm = true) : CallR X (.builtin "max") (rMaxT X.K) := by
  intro pins s σ H vs us Q I r h
  obtain ⟨a, ns, rfl, hs, h0, q⟩ := h
  obtain ⟨its, rv, pl, _⟩ := I.tuple hs
  rw [Vals.ref1 r]
  exact max_tupJ (I.ok.hd hc) (show s.heap.IsTuple a its.toArray from pl) rv.ints h0 fun h' tk m t' hk h1 h2 => ⟨.int _, H, I.kept hk, ⟨_, rfl⟩, q m h1 h2⟩
def oMaxT : OpN := fun ds K => match ds with
  | [.tuple xs] => ∃ ns : List Int, xs = ns.map .int ∧ 0 < ns.length ∧ ∀ m, m ∈ ns → (∀ n ∈ ns, n ≤ m) → K (.val (.int m))
  | _ => False
theorem dcl_maxT {X : Cx} (hc : X.calm = true) : DCl X (.builtin "max") oMaxT := by
  refine ⟨fun B F env pins s σ H xs us ds Kr I rx R hx q => ?_⟩
  unfold oMaxT at q
  split at q
  · obtain ⟨v, rfl, h⟩ := hx.one
    obtain ⟨ns, rfl, hl, q⟩ := q
    obtain ⟨a, vs, rfl, h1, h2⟩ := h.tuple R.sub
    have e := h2.ints
    subst e
    exact clr_run (cr_maxT hc) I rx ⟨a, ns, rfl, h1, hl, fun m hm hle => same_res R (.int _) (q m hm hle)⟩
  · exact q.elim
end Dl
end L2

/-! The plain half, 0: w terms are evaluated from the outside, slot by slot. -/
namespace L2
namespace Dl
open PySem PySem.Spec PyProof.Rows
def getS : Ev → Nat → (Sl → Prop) → Prop
  | s :: _, 0, K => K s
  | _ :: e, n + 1, K => getS e n K
  | [], _, _ => False
theorem getS_0 (s : Sl) (e : Ev) (K : Sl → Prop) : getS (s :: e) 0 K = K s := rfl
theorem getS_s (s : Sl) (e : Ev) (n : Nat) (K : Sl → Prop) : getS (s :: e) (n + 1) K = getS e n K := rfl
theorem getS_ex : ∀ (e : Ev) (i : Nat) (K : Sl → Prop), getS e i K = ∃ s, e[i]? = some s ∧ K s
  | [], i, K => by simp [getS]
  | s :: e, 0, K => by simp [getS]
  | s :: e, n + 1, K => by rw [getS_s, getS_ex e n K]; simp
theorem getS_at {e : Ev} {i : Nat} {s : Sl} (h : e[i]? = some s) (K : Sl → Prop) : getS e i K = K s := by
  rw [getS_ex, h]; simp
def setS : Ev → Nat → Sl → (Ev → Prop) → Prop
  | _ :: e, 0, x, K => K (x :: e)
  | s :: e, n + 1, x, K => setS e n x fun e' => K (s :: e')
  | [], _, _, K => K []
theorem setS_0 (s x : Sl) (e : Ev) (K : Ev → Prop) : setS (s :: e) 0 x K = K (x :: e) := rfl
theorem setS_s (s x : Sl) (e : Ev) (n : Nat) (K : Ev → Prop) : setS (s :: e) (n + 1) x K = setS e n x fun e' => K (s :: e') := rfl
theorem setS_eq : ∀ (e : Ev) (i : Nat) (x : Sl) (K : Ev → Prop), setS e i x K = K (e.set i x)
  | [], _, _, _ => rfl
  | _ :: _, 0, _, _ => rfl
  | s :: e, n + 1, x, K => by rw [setS_s, setS_eq e n x]; rfl
/-! names, results -/
def varK (i : Nat) (env : Ev) (Ke : KE) : Sl → Prop
  | .val d => Ke env (.val d)
  | .own _ _ => Ke env (.slot i)
  | _ => False
theorem varK_v (i : Nat) (env : Ev) (Ke : KE) (d : PyData) : varK i env Ke (.val d) = Ke env (.val d) := rfl
theorem varK_o (i : Nat) (env : Ev) (Ke : KE) (l : Bool) (ds : List PyData) : varK i env Ke (.own l ds) = Ke env (.slot i) := rfl
theorem varK_u (i : Nat) (env : Ev) (Ke : KE) : varK i env Ke .un = False := rfl
theorem e_var (i : Nat) (env : Ev) (Ke : KE) (Kx : KXc) : wVar i env Ke Kx = getS env i (varK i env Ke) := by
  rw [getS_ex]
  unfold wVar
  cases h : env[i]? with
  | none => simp
  | some s => cases s <;> simp [varK]
def rdS (k : PyData → Prop) : Sl → Prop
  | .val d => k d
  | .own _ ds => k (.list ds)
  | _ => False
theorem rdS_v (k : PyData → Prop) (d : PyData) : rdS k (.val d) = k d := rfl
theorem rdS_o (k : PyData → Prop) (l : Bool) (ds : List PyData) : rdS k (.own l ds) = k (.list ds) := rfl
theorem rdS_u (k : PyData → Prop) : rdS k .un = False := rfl
theorem rdK_v (env : Ev) (d : PyData) (k : PyData → Prop) : rdK env (.val d) k = k d := by simp [rdK, rd]
theorem rdK_t (env : Ev) (ds : List PyData) (k : PyData → Prop) : rdK env (.tmp ds) k = k (.list ds) := by simp [rdK, rd]
theorem rdK_s (env : Ev) (i : Nat) (k : PyData → Prop) : rdK env (.slot i) k = getS env i (rdS k) := by
  rw [getS_ex]
  unfold rdK rd
  cases h : env[i]? with
  | none => simp [h]
  | some s => cases s <;> simp [rdS, h]
def fzS (i : Nat) (env : Ev) (Kd : Ev → PyData → Prop) : Sl → Prop
  | .val d => Kd env d
  | .own false ds => setS env i (.val (.list ds)) fun e => Kd e (.list ds)
  | _ => False
theorem fzS_v (i : Nat) (env : Ev) (Kd : Ev → PyData → Prop) (d : PyData) : fzS i env Kd (.val d) = Kd env d := rfl
theorem fzS_o (i : Nat) (env : Ev) (Kd : Ev → PyData → Prop) (ds : List PyData) : fzS i env Kd (.own false ds) = setS env i (.val (.list ds)) fun e => Kd e (.list ds) := rfl
theorem fzS_l (i : Nat) (env : Ev) (Kd : Ev → PyData → Prop) (ds : List PyData) : fzS i env Kd (.own true ds) = False := rfl
theorem fzS_u (i : Nat) (env : Ev) (Kd : Ev → PyData → Prop) : fzS i env Kd .un = False := rfl
def fzK (env : Ev) (r : Rs) (Kd : Ev → PyData → Prop) : Prop := ∃ p, fz env r = some p ∧ Kd p.1 p.2
theorem fzK_v (env : Ev) (d : PyData) (Kd : Ev → PyData → Prop) : fzK env (.val d) Kd = Kd env d := by simp [fzK, fz]
theorem fzK_t (env : Ev) (ds : List PyData) (Kd : Ev → PyData → Prop) : fzK env (.tmp ds) Kd = Kd env (.list ds) := by simp [fzK, fz]
theorem fzK_s (env : Ev) (i : Nat) (Kd : Ev → PyData → Prop) : fzK env (.slot i) Kd = getS env i (fzS i env Kd) := by
  rw [getS_ex]
  unfold fzK fz
  cases h : env[i]? with
  | none => simp [h]
  | some s =>
    cases s with
    | un => simp [fzS, h]
    | val d => simp [fzS, h]
    | own l ds => cases l <;> simp [fzS, setS_eq, h]
    | dct kv => simp [fzS, h]
theorem e_fz (w : WE) (env : Ev) (Kd : Ev → PyData → Prop) (Kx : KXc) : wFz w env Kd Kx = w env (fun e r => fzK e r Kd) Kx := rfl
theorem asg_v (i : Nat) (env : Ev) (d : PyData) (K : Ev → Prop) : asg i env (.val d) K = setS env i (.val d) K := (setS_eq _ _ _ _).symm
theorem asg_t (i : Nat) (env : Ev) (ds : List PyData) (K : Ev → Prop) : asg i env (.tmp ds) K = setS env i (.own false ds) K := (setS_eq _ _ _ _).symm
theorem asg_s (i j : Nat) (env : Ev) (K : Ev → Prop) : asg i env (.slot j) K = fzK env (.slot j) fun e d => setS e i (.val d) K := by
  unfold asg fzK
  simp only [setS_eq]
def tbK (r : Rs) (K : Bool → Prop) : Prop := ∃ b, r = .val (.bool b) ∧ K b
theorem tbK_b (b : Bool) (K : Bool → Prop) : tbK (.val (.bool b)) K = K b := by simp [tbK]
theorem e_tb (w : WE) (env : Ev) (Kt : KT) (Kx : KXc) : wTB w env Kt Kx = w env (fun e r => tbK r (Kt e)) Kx := rfl
theorem e_notV (w : WE) (env : Ev) (Ke : KE) (Kx : KXc) : wNotV w env Ke Kx = w env (fun e r => tbK r fun c => Ke e (.val (.bool (!c)))) Kx := rfl
theorem e_andV (wa wb : WE) (env : Ev) (Ke : KE) (Kx : KXc) : wAndV wa wb env Ke Kx = wa env (fun e r => tbK r fun c => if c = true then wb e Ke Kx else Ke e (.val (.bool false))) Kx := rfl
theorem e_orV (wa wb : WE) (env : Ev) (Ke : KE) (Kx : KXc) : wOrV wa wb env Ke Kx = wa env (fun e r => tbK r fun c => if c = true then Ke e (.val (.bool true)) else wb e Ke Kx) Kx := rfl
def intK (r : Rs) (K : Int → Prop) : Prop := ∃ i, r = .val (.int i) ∧ K i
theorem intK_i (i : Int) (K : Int → Prop) : intK (.val (.int i)) K = K i := by simp [intK]
theorem e_neg (w : WE) (env : Ev) (Ke : KE) (Kx : KXc) : wNeg w env Ke Kx = w env (fun e r => intK r fun i => Ke e (.val (.int (-i)))) Kx := rfl
theorem e_oso (w : WE) (env : Ev) (Ko : Ev → Option Int → Prop) (Kx : KXc) : wOSo w env Ko Kx = w env (fun e r => intK r fun i => Ko e (some i)) Kx := rfl
theorem e_rng1 (w : WE) (env : Ev) (Ki : Ev → List PyData → Prop) (Kx : KXc) : wIRng1 w env Ki Kx = w env (fun e r => intK r fun j => -(2 ^ 62) ≤ j ∧ j < 2 ^ 62 ∧ Ki e ((List.range j.toNat).map fun (i : Nat) => PyData.int (i : Int))) Kx := rfl
theorem e_rng2 (wa wb : WE) (env : Ev) (Ki : Ev → List PyData → Prop) (Kx : KXc) : wIRng2 wa wb env Ki Kx = wa env (fun e1 r1 => wb e1 (fun e2 r2 => intK r1 fun i => intK r2 fun j => (-(2 ^ 62) ≤ i ∧ i < 2 ^ 62 ∧ -(2 ^ 62) ≤ j ∧ j < 2 ^ 62) ∧ Ki e2 ((List.range (j - i).toNat).map fun (m : Nat) => PyData.int (i + m))) Kx) Kx := by
  have : (fun (e2 : Ev) (r1 r2 : Rs) => intK r1 fun i => intK r2 fun j => (-(2 ^ 62) ≤ i ∧ i < 2 ^ 62 ∧ -(2 ^ 62) ≤ j ∧ j < 2 ^ 62) ∧ Ki e2 ((List.range (j - i).toNat).map fun (m : Nat) => PyData.int (i + m))) =
      fun e2 r1 r2 => ∃ i j, r1 = .val (.int i) ∧ r2 = .val (.int j) ∧ (-(2 ^ 62) ≤ i ∧ i < 2 ^ 62 ∧ -(2 ^ 62) ≤ j ∧ j < 2 ^ 62) ∧ Ki e2 ((List.range (j - i).toNat).map fun (m : Nat) => PyData.int (i + m)) := by
    funext e2 r1 r2
    unfold intK
    apply propext
    constructor
    · rintro ⟨i, h1, j, h2, h3⟩; exact ⟨i, j, h1, h2, h3⟩
    · rintro ⟨i, j, h1, h2, h3⟩; exact ⟨i, h1, j, h2, h3⟩
  unfold wIRng2
  congr 1
  funext e1 r1
  congr 1
  funext e2 r2
  exact (congrFun (congrFun (congrFun this e2) r1) r2).symm
/-! calls -/
def rdAllK (env : Ev) : List Rs → (List PyData → Prop) → Prop
  | [], K => K []
  | r :: rs, K => rdK env r fun d => rdAllK env rs fun ds => K (d :: ds)
theorem rdAllK_n (env : Ev) (K : List PyData → Prop) : rdAllK env [] K = K [] := rfl
theorem rdAllK_c (env : Ev) (r : Rs) (rs : List Rs) (K : List PyData → Prop) : rdAllK env (r :: rs) K = rdK env r fun d => rdAllK env rs fun ds => K (d :: ds) := rfl
theorem rdAllK_ex (env : Ev) : ∀ (rs : List Rs) (K : List PyData → Prop), rdAllK env rs K = ∃ ds, rdAll env rs = some ds ∧ K ds
  | [], K => by simp [rdAllK, rdAll]
  | r :: rs, K => by
    rw [rdAllK_c]
    unfold rdK rdAll
    cases h1 : rd env r with
    | none => simp
    | some d =>
      cases h2 : rdAll env rs with
      | none => simp [rdAllK_ex env rs, h2]
      | some ds => simp [rdAllK_ex env rs, h2]
theorem e_callB (o : OpN) (wa : WA) (env : Ev) (Ke : KE) (Kx : KXc) : wCallB o wa env Ke Kx = wa env (fun e rs => rdAllK e rs fun ds => o ds (Ke e)) Kx := by
  simp only [rdAllK_ex]
  rfl
def lnS (K : List PyData → Prop) : Sl → Prop
  | .own _ ds => K ds
  | _ => False
theorem lnS_o (K : List PyData → Prop) (l : Bool) (ds : List PyData) : lnS K (.own l ds) = K ds := rfl
theorem lnS_v (K : List PyData → Prop) (d : PyData) : lnS K (.val d) = False := rfl
theorem lnS_u (K : List PyData → Prop) : lnS K .un = False := rfl
def avsK (env : Ev) : List Ar → (List AV → Prop) → Prop
  | [], K => K []
  | .fz d :: as, K => avsK env as fun a => K (.val d :: a)
  | .ln i :: as, K => getS env i (lnS fun ds => avsK env as fun a => K (.own ds :: a))
theorem avsK_n (env : Ev) (K : List AV → Prop) : avsK env [] K = K [] := rfl
theorem avsK_f (env : Ev) (d : PyData) (as : List Ar) (K : List AV → Prop) : avsK env (.fz d :: as) K = avsK env as fun a => K (.val d :: a) := rfl
theorem avsK_l (env : Ev) (i : Nat) (as : List Ar) (K : List AV → Prop) : avsK env (.ln i :: as) K = getS env i (lnS fun ds => avsK env as fun a => K (.own ds :: a)) := rfl
theorem avsK_ex (env : Ev) : ∀ (as : List Ar) (K : List AV → Prop), avsK env as K = ∃ a, avsOf env as = some a ∧ K a
  | [], K => by simp [avsK, avsOf]
  | .fz d :: as, K => by
    rw [avsK_f, avsK_ex env as, show avsOf env (.fz d :: as) = (avsOf env as).map (.val d :: ·) from rfl]
    simp only [Option.map_eq_some_iff]
    apply propext
    constructor
    · rintro ⟨a, h1, h2⟩; exact ⟨_, ⟨a, h1, rfl⟩, h2⟩
    · rintro ⟨_, ⟨a, h1, rfl⟩, h2⟩; exact ⟨a, h1, h2⟩
  | .ln i :: as, K => by
    rw [avsK_l, getS_ex]
    unfold avsOf
    cases h : env[i]? with
    | none => simp
    | some s =>
      cases s with
      | un => simp [lnS]
      | dct kv => simp [lnS]
      | val d => simp [lnS]
      | own l ds =>
        simp only [Option.some.injEq, exists_eq_left', lnS_o, avsK_ex env as, Option.map_eq_some_iff]
        apply propext
        constructor
        · rintro ⟨a, h1, h2⟩; exact ⟨_, ⟨a, h1, rfl⟩, h2⟩
        · rintro ⟨_, ⟨a, h1, rfl⟩, h2⟩; exact ⟨a, h1, h2⟩
def poS (i : Nat) (env : Ev) (ds : List PyData) (K : Ev → Prop) : Sl → Prop
  | .own l _ => setS env i (.own l ds) K
  | _ => K env
theorem poS_o (i : Nat) (env : Ev) (ds es : List PyData) (l : Bool) (K : Ev → Prop) : poS i env ds K (.own l es) = setS env i (.own l ds) K := rfl
def poK (env : Ev) : List Nat → List (List PyData) → (Ev → Prop) → Prop
  | i :: is, ds :: outs, K => match env[i]? with
    | some s => poS i env ds (fun e => poK e is outs K) s
    | none => poK env is outs K
  | _, _, K => K env
theorem poK_n (env : Ev) (outs : List (List PyData)) (K : Ev → Prop) : poK env [] outs K = K env := rfl
theorem poK_eq : ∀ (is : List Nat) (outs : List (List PyData)) (env : Ev) (K : Ev → Prop), poK env is outs K = K (putOuts env is outs)
  | [], _, _, _ => rfl
  | _ :: _, [], _, _ => rfl
  | i :: is, ds :: outs, env, K => by
    unfold poK putOuts
    cases h : env[i]? with
    | none => exact poK_eq is outs env K
    | some s =>
      cases s with
      | un => exact poK_eq is outs env K
      | dct kv => exact poK_eq is outs env K
      | val d => exact poK_eq is outs env K
      | own l es =>
        show setS env i (.own l ds) (fun e => poK e is outs K) = _
        rw [setS_eq, poK_eq is outs]
theorem poK_c (i : Nat) (is : List Nat) (env : Ev) (ds : List PyData) (outs : List (List PyData)) (K : Ev → Prop) (h : ∃ s, env[i]? = some s) : poK env (i :: is) (ds :: outs) K = getS env i (poS i env ds fun e => poK e is outs K) := by
  obtain ⟨s, h⟩ := h
  rw [getS_at h]
  show (match env[i]? with
    | some s => poS i env ds (fun e => poK e is outs K) s
    | none => poK env is outs K) = _
  rw [h]
theorem inS_0 (s : Sl) (e : Ev) : (∃ t, (s :: e)[0]? = some t) = True := by simp
theorem inS_s (s : Sl) (e : Ev) (n : Nat) : (∃ t, (s :: e)[n + 1]? = some t) = (∃ t, e[n]? = some t) := by simp
def rsK (r : Rv) (K : Rs → Prop) : Prop := K (rsOf r)
theorem rsK_v (d : PyData) (K : Rs → Prop) : rsK (.val d) K = K (.val d) := rfl
theorem rsK_o (ds : List PyData) (K : Rs → Prop) : rsK (.own ds) K = K (.tmp ds) := rfl
theorem e_call (n : Nat) (S : Spc) (wm : WM) (env : Ev) (Ke : KE) (Kx : KXc) : wCall n S wm env Ke Kx = wm env (fun e as => (lnsOf as).Nodup ∧ avsK e as fun avs => avs.length = n ∧ S avs (fun outs r => poK e (lnsOf as) outs fun e' => rsK r (Ke e')) (fun outs x => poK e (lnsOf as) outs fun e' => Kx e' x)) Kx := by
  simp only [avsK_ex, poK_eq, rsK]
  rfl
theorem e_callF (n : Nat) (S : Spc) (wm : WM) (env : Ev) (Ke : KE) (Kx : KXc) : wCallF n S wm env Ke Kx = wm env (fun e as => lnsOf as = [] ∧ avsK e as fun avs => avs.length = n ∧ S avs (fun _ r => rsK r (Ke e)) (fun _ x => Kx e x)) Kx := by
  simp only [avsK_ex, rsK]
  rfl
/-! own lists -/
def ownB : Sl → Prop
  | .own _ _ => True
  | _ => False
theorem ownB_o (l : Bool) (ds : List PyData) : ownB (.own l ds) = True := rfl
theorem e_isOwn (env : Ev) (i : Nat) : isOwn env i = getS env i ownB := by
  rw [getS_ex]
  unfold isOwn
  apply propext
  constructor
  · rintro ⟨l, ds, h⟩; exact ⟨_, h, trivial⟩
  · rintro ⟨s, h, z⟩
    cases s with
    | own l ds => exact ⟨l, ds, h⟩
    | un => exact z.elim
    | dct kv => exact z.elim
    | val d => exact z.elim
theorem e_ld (i : Nat) (wm : WM) (env : Ev) (Ka : Ev → List Ar → Prop) (Kx : KXc) : wLd i wm env Ka Kx = (getS env i ownB ∧ wm env (fun e as => Ka e (.ln i :: as)) Kx) := by
  rw [← e_isOwn]
  unfold wLd isOwn wMLend
  apply propext
  constructor
  · rintro ⟨⟨ds, l, h⟩, z⟩; exact ⟨⟨l, ds, h⟩, z⟩
  · rintro ⟨⟨l, ds, h⟩, z⟩; exact ⟨⟨ds, l, h⟩, z⟩
def oS (K : Bool → List PyData → Prop) : Sl → Prop
  | .own l ds => K l ds
  | _ => False
theorem oS_o (K : Bool → List PyData → Prop) (l : Bool) (ds : List PyData) : oS K (.own l ds) = K l ds := rfl
theorem oS_v (K : Bool → List PyData → Prop) (d : PyData) : oS K (.val d) = False := rfl
theorem oS_u (K : Bool → List PyData → Prop) : oS K .un = False := rfl
theorem own_ex (env : Ev) (i : Nat) (K : Bool → List PyData → Prop) : getS env i (oS K) = ∃ l ds, env[i]? = some (Sl.own l ds) ∧ K l ds := by
  rw [getS_ex]
  apply propext
  constructor
  · rintro ⟨s, h, z⟩
    cases s with
    | own l ds => exact ⟨l, ds, h, z⟩
    | un => exact z.elim
    | dct kv => exact z.elim
    | val d => exact z.elim
  · rintro ⟨l, ds, h, z⟩; exact ⟨_, h, z⟩
theorem e_ownF (i : Nat) (w : WE) (m : Mu) (env : Ev) (Ke : KE) (Kx : KXc) : wOwnF i w m env Ke Kx = (getS env i ownB ∧ wFz w env (fun e d => getS e i (oS fun l ds => m ds d fun ds' d' => setS e i (.own l ds') fun e' => Ke e' (.val d'))) Kx) := by
  simp only [own_ex, setS_eq, ← e_isOwn]
  rfl
theorem e_own0 (i : Nat) (m : List PyData → (List PyData → PyData → Prop) → Prop) (env : Ev) (Ke : KE) (Kx : KXc) : wOwn0 i m env Ke Kx = getS env i (oS fun l ds => m ds fun ds' d' => setS env i (.own l ds') fun e' => Ke e' (.val d')) := by
  simp only [own_ex, setS_eq]
  rfl
theorem e_setIx (i : Nat) (wi w : WE) (env : Ev) (k : Ken) : wSetIx i wi w env k = wFz w env (fun e d => getS e i ownB ∧ wi e (fun e2 r => intK r fun j => getS e2 i (oS fun l ds => ∃ n, ixN ds.length j = some n ∧ setS e2 i (.own l (ds.set n d)) k.nx)) k.ex) k.ex := by
  have : ∀ (e2 : Ev) (r : Rs) (d : PyData), (intK r fun j => getS e2 i (oS fun l ds => ∃ n, ixN ds.length j = some n ∧ setS e2 i (.own l (ds.set n d)) k.nx)) = ∃ j l ds n, r = .val (.int j) ∧ e2[i]? = some (Sl.own l ds) ∧ ixN ds.length j = some n ∧ k.nx (e2.set i (.own l (ds.set n d))) := by
    intro e2 r d
    simp only [own_ex, setS_eq, intK]
    apply propext
    constructor
    · rintro ⟨j, h1, l, ds, h2, n, h3, h4⟩; exact ⟨j, l, ds, n, h1, h2, h3, h4⟩
    · rintro ⟨j, l, ds, n, h1, h2, h3, h4⟩; exact ⟨j, h1, l, ds, h2, n, h3, h4⟩
  simp only [this, ← e_isOwn]
  rfl
def agS (f : Int → Prop) : Sl → Prop
  | .val (.int n) => f n
  | _ => False
theorem agS_i (f : Int → Prop) (n : Int) : agS f (.val (.int n)) = f n := rfl
theorem e_aug (i : Nat) (f : Int → Int → Int) (w : WE) (env : Ev) (k : Ken) : wAug i f w env k = getS env i (agS fun n => w env (fun e r => intK r fun m => setS e i (.val (.int (f n m))) k.nx) k.ex) := by
  rw [getS_ex]
  simp only [setS_eq]
  unfold wAug intK
  apply propext
  constructor
  · rintro ⟨n, h, z⟩; exact ⟨_, h, z⟩
  · rintro ⟨s, h, z⟩
    cases s with
    | own l ds => exact z.elim
    | un => exact z.elim
    | dct kv => exact z.elim
    | val d =>
      cases d with
      | int n => exact ⟨n, h, z⟩
      | none => exact z.elim
      | bool _ => exact z.elim
      | str _ => exact z.elim
      | list _ => exact z.elim
      | tuple _ => exact z.elim
      | dict _ => exact z.elim
theorem e_par (i j : Nat) (wf : WF) (env : Ev) (k : Ken) : wPar i j wf env k = wf env (fun e ds => match ds with
  | [d1, d2] => setS e i (.val d1) fun e1 => setS e1 j (.val d2) k.nx
  | _ => False) k.ex := by
  simp only [setS_eq]
  rfl
theorem e_gN (i : Nat) (d : PyData) (env : Ev) (K : Ev → Prop) : gN i d env K = setS env i (.val d) K := (setS_eq _ _ _ _).symm
/-! the ends -/
def otS (K : List PyData → Prop) : Sl → Prop
  | .own true ds => K ds
  | _ => False
theorem otS_o (K : List PyData → Prop) (ds : List PyData) : otS K (.own true ds) = K ds := rfl
def outK (env : Ev) : List Nat → (List (List PyData) → Prop) → Prop
  | [], K => K []
  | i :: is, K => getS env i (otS fun ds => outK env is fun o => K (ds :: o))
theorem outK_n (env : Ev) (K : List (List PyData) → Prop) : outK env [] K = K [] := rfl
theorem outK_c (env : Ev) (i : Nat) (is : List Nat) (K : List (List PyData) → Prop) : outK env (i :: is) K = getS env i (otS fun ds => outK env is fun o => K (ds :: o)) := rfl
theorem outK_ex (env : Ev) : ∀ (is : List Nat) (K : List (List PyData) → Prop), outK env is K = ∃ o, outsOf env is = some o ∧ K o
  | [], K => by simp [outK, outsOf]
  | i :: is, K => by
    rw [outK_c, getS_ex]
    unfold outsOf
    cases h : env[i]? with
    | none => simp
    | some s =>
      cases s with
      | un => simp [otS]
      | dct kv => simp [otS]
      | val d => simp [otS]
      | own l ds =>
        cases l with
        | false => simp [otS]
        | true =>
          simp only [Option.some.injEq, exists_eq_left', otS_o, outK_ex env is, Option.map_eq_some_iff]
          apply propext
          constructor
          · rintro ⟨a, h1, h2⟩; exact ⟨_, ⟨a, h1, rfl⟩, h2⟩
          · rintro ⟨_, ⟨a, h1, rfl⟩, h2⟩; exact ⟨a, h1, h2⟩
def rvS (K : Rv → Prop) : Sl → Prop
  | .val d => K (.val d)
  | .own false ds => K (.own ds)
  | _ => False
theorem rvS_v (K : Rv → Prop) (d : PyData) : rvS K (.val d) = K (.val d) := rfl
theorem rvS_o (K : Rv → Prop) (ds : List PyData) : rvS K (.own false ds) = K (.own ds) := rfl
def rvK (env : Ev) (r : Rs) (K : Rv → Prop) : Prop := ∃ v, retV env r = some v ∧ K v
theorem rvK_v (env : Ev) (d : PyData) (K : Rv → Prop) : rvK env (.val d) K = K (.val d) := by simp [rvK, retV]
theorem rvK_t (env : Ev) (ds : List PyData) (K : Rv → Prop) : rvK env (.tmp ds) K = K (.own ds) := by simp [rvK, retV]
theorem rvK_s (env : Ev) (i : Nat) (K : Rv → Prop) : rvK env (.slot i) K = getS env i (rvS K) := by
  rw [getS_ex]
  unfold rvK retV
  cases h : env[i]? with
  | none => simp [h]
  | some s =>
    cases s with
    | un => simp [rvS, h]
    | val d => simp [rvS, h]
    | own l ds => cases l <;> simp [rvS, h]
    | dct kv => simp [rvS, h]
theorem kenD_nx {ls : List Nat} {Kr : List (List PyData) → Rv → Prop} {Kx : List (List PyData) → XD → Prop} {env : Ev} : (kenD ls Kr Kx).nx env = outK env ls fun o => Kr o (.val .none) := by rw [outK_ex]; rfl
theorem kenD_rt {ls : List Nat} {Kr : List (List PyData) → Rv → Prop} {Kx : List (List PyData) → XD → Prop} {env : Ev} {r : Rs} : (kenD ls Kr Kx).rt env r = outK env ls fun o => rvK env r (Kr o) := by
  rw [outK_ex]
  unfold rvK kenD
  apply propext
  constructor
  · rintro ⟨o, v, h1, h2, h3⟩; exact ⟨o, h1, v, h2, h3⟩
  · rintro ⟨o, h1, v, h2, h3⟩; exact ⟨o, v, h1, h2, h3⟩
theorem kenD_bk {ls : List Nat} {Kr : List (List PyData) → Rv → Prop} {Kx : List (List PyData) → XD → Prop} {env : Ev} : (kenD ls Kr Kx).bk env = False := rfl
theorem kenD_ct {ls : List Nat} {Kr : List (List PyData) → Rv → Prop} {Kx : List (List PyData) → XD → Prop} {env : Ev} : (kenD ls Kr Kx).ct env = False := rfl
theorem kenD_ex {ls : List Nat} {Kr : List (List PyData) → Rv → Prop} {Kx : List (List PyData) → XD → Prop} {env : Ev} {x : XD} : (kenD ls Kr Kx).ex env x = outK env ls fun o => Kx o x := by rw [outK_ex]; rfl
/-! operators on known data -/
section
variable (K : Rs → Prop) (i j : Int) (xs ys : List PyData)
theorem oAdd_i : oAdd (.int i) (.int j) K = K (.val (.int (i + j))) := rfl
theorem oAdd_l : oAdd (.list xs) (.list ys) K = (xs.length + ys.length ≤ sizeLine ∧ K (.tmp (xs ++ ys))) := rfl
theorem oAdd_t : oAdd (.tuple xs) (.tuple ys) K = (xs.length + ys.length ≤ sizeLine ∧ K (.val (.tuple (xs ++ ys)))) := rfl
theorem oAdd_s (x y : Str) : oAdd (.str x) (.str y) K = (x.length + y.length ≤ sizeLine ∧ K (.val (.str (x ++ y)))) := rfl
theorem oSub_i : oSub (.int i) (.int j) K = K (.val (.int (i - j))) := rfl
theorem oMul_i : oMul (.int i) (.int j) K = (CMulX i j ∧ K (.val (.int (i * j)))) := rfl
theorem oFdiv_i : oFdiv (.int i) (.int j) K = ((0 < j ∧ j.natAbs.log2 < 9000) ∧ K (.val (.int (i / j)))) := rfl
theorem oMod_i : oMod (.int i) (.int j) K = (0 < j ∧ K (.val (.int (i % j)))) := rfl
theorem oPow_i : oPow (.int i) (.int j) K = (CPow i j ∧ K (.val (.int (i ^ j.toNat)))) := rfl
theorem oShl_i : oShl (.int i) (.int j) K = (CShl i j ∧ K (.val (.int (i * 2 ^ j.toNat)))) := rfl
theorem oShr_i : oShr (.int i) (.int j) K = (0 ≤ j ∧ K (.val (.int (i / 2 ^ j.toNat)))) := rfl
theorem oOr_i : oOr (.int i) (.int j) K = (True ∧ K (.val (.int (Builtin.bitOr i j)))) := rfl
theorem oAndB_i : oAndB (.int i) (.int j) K = (True ∧ K (.val (.int (Builtin.bitAnd i j)))) := rfl
theorem oLt_i : oLt (.int i) (.int j) K = K (.val (.bool (decide (i < j)))) := rfl
theorem oLe_i : oLe (.int i) (.int j) K = K (.val (.bool (decide (i ≤ j)))) := rfl
theorem oGt_i : oGt (.int i) (.int j) K = K (.val (.bool (decide (j < i)))) := rfl
theorem oGe_i : oGe (.int i) (.int j) K = K (.val (.bool (decide (j ≤ i)))) := rfl
theorem oEq_i : oEq (.int i) (.int j) K = K (.val (.bool (decide (i = j)))) := by
  apply propext
  exact ⟨fun h => h.2.2, fun h => ⟨rfl, rfl, h⟩⟩
theorem oNe_i : oNe (.int i) (.int j) K = K (.val (.bool (!decide (i = j)))) := by
  apply propext
  exact ⟨fun h => h.2.2, fun h => ⟨rfl, rfl, h⟩⟩
theorem oIx_l : oIx (.list xs) (.int i) K = ∃ x, atI xs i = some x ∧ K (.val x) := rfl
theorem oIx_t : oIx (.tuple xs) (.int i) K = ∃ x, atI xs i = some x ∧ K (.val x) := rfl
theorem oLen_l : oLen [.list xs] K = K (.val (.int xs.length)) := rfl
theorem oLen_t : oLen [.tuple xs] K = K (.val (.int xs.length)) := rfl
theorem oInt_i : oInt [.int i] K = K (.val (.int i)) := rfl
theorem oInt_b (b : Bool) : oInt [.bool b] K = K (.val (.int (if b then 1 else 0))) := rfl
theorem oMax_i : oMax [.int i, .int j] K = K (.val (.int (if j > i then j else i))) := rfl
theorem oMin_i : oMin [.int i, .int j] K = K (.val (.int (if j < i then j else i))) := rfl
theorem oList_l : oList [.list xs] K = K (.tmp xs) := rfl
theorem oList_t : oList [.tuple xs] K = K (.tmp xs) := rfl
theorem oTuple_l : oTuple [.list xs] K = K (.val (.tuple xs)) := rfl
theorem oTuple_t : oTuple [.tuple xs] K = K (.val (.tuple xs)) := rfl
theorem oSorted_l : oSorted [.list xs] K = (Srts xs ∧ K (.tmp (xs.mergeSort dLe))) := rfl
theorem oSorted_t : oSorted [.tuple xs] K = (Srts xs ∧ K (.tmp (xs.mergeSort dLe))) := rfl
theorem oIs_n (d : PyData) : oIs d .none K = K (.val (.bool (isNone d))) := by cases d <;> rfl
theorem oIsN_n (d : PyData) : oIsNot d .none K = K (.val (.bool (!isNone d))) := by cases d <;> rfl
theorem oIs_b (a b : Bool) : oIs (.bool a) (.bool b) K = K (.val (.bool (decide (a = b)))) := rfl
theorem oIsN_b (a b : Bool) : oIsNot (.bool a) (.bool b) K = K (.val (.bool (!decide (a = b)))) := rfl
theorem isNone_n : isNone .none = true := rfl
theorem isNone_t : isNone (.tuple xs) = false := rfl
theorem isNone_l : isNone (.list xs) = false := rfl
theorem isNone_i : isNone (.int i) = false := rfl
theorem isNone_s (x : Str) : isNone (.str x) = false := rfl
theorem isNone_b (x : Bool) : isNone (.bool x) = false := rfl
theorem oSl_l (lo hi : Option Int) : oSl (.list xs) lo hi K = K (.tmp (cutD xs lo hi)) := rfl
theorem oSl_t (lo hi : Option Int) : oSl (.tuple xs) lo hi K = K (.val (.tuple (cutD xs lo hi))) := rfl
end
theorem gT_t (n : Nat) (gs : WGs) (ds : List PyData) (env : Ev) (K : Ev → Prop) : gT n gs (.tuple ds) env K = (ds.length = n ∧ gs ds env K) := rfl
theorem gC_c (g : WG) (gs : WGs) (d : PyData) (r : List PyData) (env : Ev) (K : Ev → Prop) : gCons' g gs (d :: r) env K = g d env fun e => gs r e K := rfl
def sqK (d : PyData) (K : List PyData → Prop) : Prop := ∃ ds, itemsOf d = some ds ∧ K ds
theorem sqK_l (ds : List PyData) (K : List PyData → Prop) : sqK (.list ds) K = K ds := by simp [sqK, itemsOf]
theorem sqK_t (ds : List PyData) (K : List PyData → Prop) : sqK (.tuple ds) K = K ds := by simp [sqK, itemsOf]
theorem sqK2_l (ds : List PyData) (K : List PyData → Prop) : (∃ es, seqOf (.list ds) = some es ∧ K es) = K ds := by simp [seqOf]
theorem sqK2_t (ds : List PyData) (K : List PyData → Prop) : (∃ es, seqOf (.tuple ds) = some es ∧ K es) = K ds := by simp [seqOf]
def sq2K (d : PyData) (K : List PyData → Prop) : Prop := ∃ ds, seqOf d = some ds ∧ K ds
theorem sq2K_l (ds : List PyData) (K : List PyData → Prop) : sq2K (.list ds) K = K ds := sqK2_l ds K
theorem sq2K_t (ds : List PyData) (K : List PyData → Prop) : sq2K (.tuple ds) K = K ds := sqK2_t ds K
theorem e_isq (w : WE) (env : Ev) (Ki : Ev → List PyData → Prop) (Kx : KXc) : wISq w env Ki Kx = wFz w env (fun e d => sq2K d (Ki e)) Kx := rfl
theorem e_iseq (w : WE) (env : Ev) (Ki : Ev → List PyData → Prop) (Kx : KXc) : wISeq w env Ki Kx = wFz w env (fun e d => sqK d (Ki e)) Kx := rfl
def ssK (d : PyData) (K : List PyData → Prop) : Prop := ∃ xs, (d = .list xs ∨ d = .tuple xs) ∧ K xs
theorem ssK_l (ds : List PyData) (K : List PyData → Prop) : ssK (.list ds) K = K ds := by simp [ssK]
theorem ssK_t (ds : List PyData) (K : List PyData → Prop) : ssK (.tuple ds) K = K ds := by simp [ssK]
theorem e_sset (w : WE) (env : Ev) (Ke : KE) (Kx : KXc) : wSortSet w env Ke Kx = w env (fun e r => rdK e r fun d => ssK d fun xs => oSortSet xs (Ke e)) Kx := by
  unfold wSortSet
  congr 1
  funext e r
  unfold rdK ssK
  apply propext
  constructor
  · rintro ⟨xs, h1 | h1, h2⟩
    · exact ⟨_, h1, xs, .inl rfl, h2⟩
    · exact ⟨_, h1, xs, .inr rfl, h2⟩
  · rintro ⟨d, h1, xs, rfl | rfl, h2⟩
    · exact ⟨xs, .inl h1, h2⟩
    · exact ⟨xs, .inr h1, h2⟩
theorem e_chain (o o' : Op2) (wa wb wc : WE) (env : Ev) (Ke : KE) (Kx : KXc) : wChain o o' wa wb wc env Ke Kx = wa env (fun e1 r1 => wb e1 (fun e2 r2 => rdK e2 r1 fun d1 => rdK e2 r2 fun d2 => o d1 d2 fun r3 => tbK r3 fun k =>
  if k = true then wc e2 (fun e4 r4 => rdK e4 r2 fun d3 => rdK e4 r4 fun d4 => o' d3 d4 (Ke e4)) Kx else Ke e2 (.val (.bool false))) Kx) Kx := rfl
theorem e_lr1 (b : Bool) (w : WE) (env : Ev) (Ke : KE) (Kx : KXc) : wLR1 b w env Ke Kx = w env (fun e r => intK r fun j => rgK 0 j fun ds => Ke e (if b = true then .val (.tuple ds) else .tmp ds)) Kx := rfl
theorem e_lr2 (b : Bool) (wa wb : WE) (env : Ev) (Ke : KE) (Kx : KXc) : wLR2 b wa wb env Ke Kx = wa env (fun e1 r1 => wb e1 (fun e2 r2 => intK r1 fun i => intK r2 fun j => rgK i j fun ds => Ke e2 (if b = true then .val (.tuple ds) else .tmp ds)) Kx) Kx := by
  unfold wLR2 intK
  rfl
theorem rvD_l (ds : List PyData) (K : Rs → Prop) : rvD (.list ds) K = K (.tmp ds.reverse) := rfl
theorem rvD_t (ds : List PyData) (K : Rs → Prop) : rvD (.tuple ds) K = K (.val (.tuple ds.reverse)) := rfl
theorem e_in1 (neg : Bool) (wa wb : WE) (env : Ev) (Ke : KE) (Kx : KXc) : wIn1 neg wa wb env Ke Kx = wa env (fun e1 r1 => wb e1 (fun e2 r2 => intK r1 fun i => intK r2 fun j => Ke e2 (.val (.bool (negB neg (decide (0 ≤ i ∧ i < j)))))) Kx) Kx := by
  unfold wIn1 intK
  rfl
theorem e_in2 (neg : Bool) (wa wb wc : WE) (env : Ev) (Ke : KE) (Kx : KXc) : wIn2 neg wa wb wc env Ke Kx = wa env (fun e1 r1 => wb e1 (fun e2 r2 => wc e2 (fun e3 r3 => intK r1 fun i => intK r2 fun j => intK r3 fun k => Ke e3 (.val (.bool (negB neg (decide (j ≤ i ∧ i < k)))))) Kx) Kx) Kx := by
  unfold wIn2 intK
  rfl
theorem negB_f (b : Bool) : negB false b = b := rfl
theorem negB_t (b : Bool) : negB true b = !b := rfl
theorem zpK_l (xs ys : List PyData) (K : List PyData → Prop) : zpK [.list xs, .list ys] K = K (zipD xs ys) := rfl
theorem zpK_m (xs ys : List PyData) (K : List PyData → Prop) : zpK [.list xs, .tuple ys] K = K (zipD xs ys) := rfl
theorem zpK_t (xs ys : List PyData) (K : List PyData → Prop) : zpK [.tuple xs, .tuple ys] K = K (zipD xs ys) := rfl
def extR (env : Ev) (i : Nat) (r : Rs) (K : List PyData → Prop) : Prop := ∃ es, (r = .tmp es ∨ ∃ j, j ≠ i ∧ r = .slot j ∧ ∃ m, env[j]? = some (Sl.own m es)) ∧ K es
theorem extR_t (env : Ev) (i : Nat) (es : List PyData) (K : List PyData → Prop) : extR env i (.tmp es) K = K es := by
  unfold extR
  apply propext
  constructor
  · rintro ⟨es', h | ⟨_, _, h, _⟩, k⟩
    · cases h; exact k
    · cases h
  · exact fun k => ⟨es, .inl rfl, k⟩
theorem e_extend (i : Nat) (w : WE) (env : Ev) (Ke : KE) (Kx : KXc) : wExtend i w env Ke Kx = (getS env i ownB ∧ w env (fun e r => getS e i (oS fun l ds => extR e i r fun es => ds.length + es.length ≤ sizeLine ∧ setS e i (.own l (ds ++ es)) fun e' => Ke e' (.val .none))) Kx) := by
  have : ∀ (e : Ev) (r : Rs), (getS e i (oS fun l ds => extR e i r fun es => ds.length + es.length ≤ sizeLine ∧ setS e i (.own l (ds ++ es)) fun e' => Ke e' (.val .none))) =
      ∃ l ds es, e[i]? = some (Sl.own l ds) ∧ (r = .tmp es ∨ ∃ j, j ≠ i ∧ r = .slot j ∧ ∃ m, e[j]? = some (Sl.own m es)) ∧ ds.length + es.length ≤ sizeLine ∧ Ke (e.set i (.own l (ds ++ es))) (.val .none) := by
    intro e r
    simp only [own_ex, setS_eq, extR]
    apply propext
    constructor
    · rintro ⟨l, ds, h1, es, h2, h3⟩; exact ⟨l, ds, es, h1, h2, h3⟩
    · rintro ⟨l, ds, es, h1, h2, h3⟩; exact ⟨l, ds, h1, es, h2, h3⟩
  simp only [this, ← e_isOwn]
  rfl
theorem eqv_ss (x y : Str) : PyData.eqv (.str x) (.str y) = decide (x = y) := by
  rw [PyData.eqv]
  by_cases h : x = y
  · subst h; simp
  · simp [h]
/-! exceptions -/
abbrev xGreat (a b : Int) : XD := ⟨"TooGreat", [("most", .int b), ("many", .int a)]⟩
abbrev xClocks (a : Int) : XD := ⟨"NoClocks", [("number", .int a)]⟩
abbrev xText (a : Int) : XD := ⟨"NoText", [("row", .int a)]⟩
abbrev xBare (n : Str) : XD := ⟨n, []⟩
def grK (ds : List PyData) (K : XD → Prop) : Prop := match ds with
  | [.int a, .int b] => K (xGreat a b)
  | _ => ds.length = 2 ∧ K ⟨"TooGreat", ((["many", "most"] : List Str).zip ds).reverse⟩
theorem grK_i (a b : Int) (K : XD → Prop) : grK [.int a, .int b] K = K (xGreat a b) := rfl
theorem e_raiseG (wf : WF) (env : Ev) (k : Ken) : wRaise "TooGreat" ["many", "most"] wf env k = wf env (fun e ds => grK ds (k.ex e)) k.ex := by
  have : ∀ (e : Ev) (ds : List PyData), grK ds (k.ex e) = (ds.length = (["many", "most"] : List Str).length ∧ k.ex e ⟨"TooGreat", ((["many", "most"] : List Str).zip ds).reverse⟩) := by
    intro e ds
    unfold grK
    split
    · rename_i a b
      apply propext
      exact ⟨fun h => ⟨rfl, h⟩, fun h => h.2⟩
    · rfl
  simp only [this]
  rfl
def onK (ds : List PyData) (f n : Str) (K : XD → Prop) : Prop := match ds with
  | [.int a] => K ⟨n, [(f, .int a)]⟩
  | _ => ds.length = 1 ∧ K ⟨n, (([f] : List Str).zip ds).reverse⟩
theorem onK_i (a : Int) (f n : Str) (K : XD → Prop) : onK [.int a] f n K = K ⟨n, [(f, .int a)]⟩ := rfl
theorem e_raise1 (f n : Str) (wf : WF) (env : Ev) (k : Ken) : wRaise n [f] wf env k = wf env (fun e ds => onK ds f n (k.ex e)) k.ex := by
  have : ∀ (e : Ev) (ds : List PyData), onK ds f n (k.ex e) = (ds.length = ([f] : List Str).length ∧ k.ex e ⟨n, (([f] : List Str).zip ds).reverse⟩) := by
    intro e ds
    unfold onK
    split
    · rename_i a
      apply propext
      exact ⟨fun h => ⟨rfl, h⟩, fun h => h.2⟩
    · rfl
  simp only [this]
  rfl
theorem e_callX (S : SpcE) (x : XD) (env : Ev) (Ke : KE) (Kx : KXc) : wCallX S x env Ke Kx = S x fun r => rsK r (Ke env) := rfl
theorem xa_1 : (("NoClock" : Str) ∈ xall) = True := eq_true (by decide +kernel)
theorem xa_2 : (("NoNumber" : Str) ∈ xall) = True := eq_true (by decide +kernel)
theorem xa_3 : (("NoPlace" : Str) ∈ xall) = True := eq_true (by decide +kernel)
theorem xa_4 : (("NoRow" : Str) ∈ xall) = True := eq_true (by decide +kernel)
theorem xa_5 : (("NoClocks" : Str) ∈ xall) = True := eq_true (by decide +kernel)
theorem xa_6 : (("NoText" : Str) ∈ xall) = True := eq_true (by decide +kernel)
theorem xa_7 : (("TooGreat" : Str) ∈ xall) = True := eq_true (by decide +kernel)
theorem e_many (a b : Int) (env : Ev) (Ke : KE) (Kx : KXc) : wXf ["TooGreat"] (xGreat a b) "many" env Ke Kx = Ke env (.val (.int a)) := by
  have : (xGreat a b).fs.lookup ("many" : Str) = some (.int a) := by rfl
  unfold wXf
  rw [this]
  simp
theorem e_most (a b : Int) (env : Ev) (Ke : KE) (Kx : KXc) : wXf ["TooGreat"] (xGreat a b) "most" env Ke Kx = Ke env (.val (.int b)) := by
  have : (xGreat a b).fs.lookup ("most" : Str) = some (.int b) := by rfl
  unfold wXf
  rw [this]
  simp
theorem e_number (a : Int) (env : Ev) (Ke : KE) (Kx : KXc) : wXf ["NoClocks"] (xClocks a) "number" env Ke Kx = Ke env (.val (.int a)) := by
  have : (xClocks a).fs.lookup ("number" : Str) = some (.int a) := by rfl
  unfold wXf
  rw [this]
  simp
theorem e_row (a : Int) (env : Ev) (Ke : KE) (Kx : KXc) : wXf ["NoText"] (xText a) "row" env Ke Kx = Ke env (.val (.int a)) := by
  have : (xText a).fs.lookup ("row" : Str) = some (.int a) := by rfl
  unfold wXf
  rw [this]
  simp
/-! reading methods, looking calls, repeated lists, enumerate -/
theorem isLst_l (ds : List PyData) : isLst (.list ds) = True := rfl
def lsK (d : PyData) (K : List PyData → Prop) : Prop := ∃ ds, d = .list ds ∧ K ds
theorem lsK_l (ds : List PyData) (K : List PyData → Prop) : lsK (.list ds) K = K ds := by simp [lsK]
theorem e_rd (w wa : WE) (m : Rd) (env : Ev) (Ke : KE) (Kx : KXc) : wRd w wa m env Ke Kx = w env (fun e1 r1 => rdK e1 r1 isLst ∧ wa e1 (fun e2 r2 => rdK e2 r1 fun d1 => rdK e2 r2 fun d2 => lsK d1 fun ds => m ds d2 fun d => Ke e2 (.val d)) Kx) Kx := rfl
def brS (f : Sl → Prop) : Sl → Prop
  | .own l ds => f (.own l ds)
  | .val d => f (.val d)
  | _ => False
theorem brS_o (f : Sl → Prop) (l : Bool) (ds : List PyData) : brS f (.own l ds) = f (.own l ds) := rfl
theorem brS_v (f : Sl → Prop) (d : PyData) : brS f (.val d) = f (.val d) := rfl
def arS (i : Nat) : Sl → Ar
  | .val d => .fz d
  | _ => .ln i
theorem arS_o (i : Nat) (l : Bool) (ds : List PyData) : arS i (.own l ds) = .ln i := rfl
theorem arS_v (i : Nat) (d : PyData) : arS i (.val d) = .fz d := rfl
theorem e_br (i : Nat) (wm : WM) (env : Ev) (Ka : Ev → List Ar → Prop) (Kx : KXc) : wBr i wm env Ka Kx = getS env i (brS fun s => wm env (fun e as => Ka e (arS i s :: as)) Kx) := by
  rw [getS_ex]
  unfold wBr
  apply propext
  constructor
  · rintro (⟨l, ds, h, z⟩ | ⟨d, h, z⟩)
    · exact ⟨_, h, z⟩
    · exact ⟨_, h, z⟩
  · rintro ⟨s, h, z⟩
    cases s with
    | un => exact z.elim
    | dct kv => exact z.elim
    | val d => exact .inr ⟨d, h, z⟩
    | own l ds => exact .inl ⟨l, ds, h, z⟩
def avbK (env : Ev) : List Ar → (List AV → Prop) → Prop
  | [], K => K []
  | .fz d :: as, K => avbK env as fun a => K (.val d :: a)
  | .ln i :: as, K => getS env i (lnS fun ds => avbK env as fun a => K (.val (.list ds) :: a))
theorem avbK_n (env : Ev) (K : List AV → Prop) : avbK env [] K = K [] := rfl
theorem avbK_f (env : Ev) (d : PyData) (as : List Ar) (K : List AV → Prop) : avbK env (.fz d :: as) K = avbK env as fun a => K (.val d :: a) := rfl
theorem avbK_l (env : Ev) (i : Nat) (as : List Ar) (K : List AV → Prop) : avbK env (.ln i :: as) K = getS env i (lnS fun ds => avbK env as fun a => K (.val (.list ds) :: a)) := rfl
theorem avbK_ex (env : Ev) : ∀ (as : List Ar) (K : List AV → Prop), avbK env as K = ∃ a, avsB env as = some a ∧ K a
  | [], K => by simp [avbK, avsB]
  | .fz d :: as, K => by
    rw [avbK_f, avbK_ex env as, show avsB env (.fz d :: as) = (avsB env as).map (.val d :: ·) from rfl]
    simp only [Option.map_eq_some_iff]
    apply propext
    constructor
    · rintro ⟨a, h1, h2⟩; exact ⟨_, ⟨a, h1, rfl⟩, h2⟩
    · rintro ⟨_, ⟨a, h1, rfl⟩, h2⟩; exact ⟨a, h1, h2⟩
  | .ln i :: as, K => by
    rw [avbK_l, getS_ex]
    unfold avsB
    cases h : env[i]? with
    | none => simp
    | some s =>
      cases s with
      | un => simp [lnS]
      | dct kv => simp [lnS]
      | val d => simp [lnS]
      | own l ds =>
        simp only [Option.some.injEq, exists_eq_left', lnS_o, avbK_ex env as, Option.map_eq_some_iff]
        apply propext
        constructor
        · rintro ⟨a, h1, h2⟩; exact ⟨_, ⟨a, h1, rfl⟩, h2⟩
        · rintro ⟨_, ⟨a, h1, rfl⟩, h2⟩; exact ⟨a, h1, h2⟩
def scK (r : Rv) (K : PyData → Prop) : Prop := ∃ d, r = .val d ∧ scal d = true ∧ K d
theorem scK_b (b : Bool) (K : PyData → Prop) : scK (.val (.bool b)) K = K (.bool b) := by simp [scK, scal]
theorem scK_i (b : Int) (K : PyData → Prop) : scK (.val (.int b)) K = K (.int b) := by simp [scK, scal]
theorem scK_n (K : PyData → Prop) : scK (.val .none) K = K .none := by simp [scK, scal]
theorem scK_s (b : Str) (K : PyData → Prop) : scK (.val (.str b)) K = K (.str b) := by simp [scK, scal]
theorem e_callS (n : Nat) (S : Spc) (wm : WM) (env : Ev) (Ke : KE) (Kx : KXc) : wCallS n S wm env Ke Kx = wm env (fun e as => avbK e as fun avs => avs.length = n ∧ S avs (fun _ r => scK r fun d => Ke e (.val d)) (fun _ _ => False)) Kx := by
  simp only [avbK_ex]
  rfl
def tmK (r : Rs) (K : List PyData → Prop) : Prop := ∃ ds, r = .tmp ds ∧ K ds
theorem tmK_t (ds : List PyData) (K : List PyData → Prop) : tmK (.tmp ds) K = K ds := by simp [tmK]
def tutK (r : Rs) (K : List PyData → Prop) : Prop := ∃ ds, r = .val (.tuple ds) ∧ K ds
theorem tutK_t (ds : List PyData) (K : List PyData → Prop) : tutK (.val (.tuple ds)) K = K ds := by simp [tutK]
theorem e_repT (wa wb : WE) (env : Ev) (Ke : KE) (Kx : KXc) : wRepT wa wb env Ke Kx = wa env (fun e1 r1 => tutK r1 fun ds => wb e1 (fun e2 r2 => intK r2 fun k => ds ≠ [] ∧ 2 ≤ k ∧ k ≤ 1000 ∧ ds.length ≤ 1000 ∧ Ke e2 (.val (.tuple (List.replicate k.toNat ds).flatten))) Kx) Kx := rfl
theorem e_rep (wa wb : WE) (env : Ev) (Ke : KE) (Kx : KXc) : wRep wa wb env Ke Kx = wa env (fun e1 r1 => tmK r1 fun ds => wb e1 (fun e2 r2 => intK r2 fun k => ds.length * k.toNat ≤ sizeLine ∧ k ≤ 16777216 ∧ -16777216 ≤ k ∧ Ke e2 (.tmp (List.replicate k.toNat ds).flatten)) Kx) Kx := rfl
def enK (ds : List PyData) (K : List PyData → Prop) : Prop := ∃ xs, ds = [.list xs] ∧ K (enD xs)
theorem enK_l (xs : List PyData) (K : List PyData → Prop) : enK [.list xs] K = K (enD xs) := by simp [enK]
theorem e_ienum (wf : WF) (env : Ev) (Ki : Ev → List PyData → Prop) (Kx : KXc) : wIEnum wf env Ki Kx = wf env (fun e ds => enK ds (Ki e)) Kx := rfl
/-! calls that look at lists and answer with tuples; enumerate of a tuple; range with a step -/
def tpK (r : Rv) (K : PyData → Prop) : Prop := ∃ d, r = .val d ∧ tupD d = true ∧ K d
theorem tpK_v (d : PyData) (K : PyData → Prop) : tpK (.val d) K = (tupD d = true ∧ K d) := by simp [tpK]
def txK (x : XD) (p : Prop) : Prop := (∀ q ∈ x.fs, tupD q.2 = true) ∧ p
theorem txK_1 (n f : Str) (a : Int) (p : Prop) : txK ⟨n, [(f, .int a)]⟩ p = p := by
  unfold txK
  apply propext
  constructor
  · exact fun h => h.2
  · intro h
    refine ⟨fun q hq => ?_, h⟩
    have e : q = (f, .int a) := by simpa using hq
    subst e
    rfl
theorem e_callT (n : Nat) (S : Spc) (wm : WM) (env : Ev) (Ke : KE) (Kx : KXc) : wCallT n S wm env Ke Kx = wm env (fun e as => avbK e as fun avs => avs.length = n ∧ S avs (fun _ r => tpK r fun d => Ke e (.val d)) (fun _ x => txK x (Kx e x))) Kx := by
  simp only [avbK_ex]
  rfl
def enTK (ds : List PyData) (K : List PyData → Prop) : Prop := ∃ xs, ds = [.tuple xs] ∧ K (enD xs)
theorem enTK_t (xs : List PyData) (K : List PyData → Prop) : enTK [.tuple xs] K = K (enD xs) := by simp [enTK]
theorem e_ienumT (wf : WF) (env : Ev) (Ki : Ev → List PyData → Prop) (Kx : KXc) : wIEnumT wf env Ki Kx = wf env (fun e ds => enTK ds (Ki e)) Kx := rfl
def r3K (ds : List PyData) (K : List PyData → Prop) : Prop := ∃ i j c n, ds = [.int i, .int j, .int c] ∧ RgC i j c n ∧ K (rg3 i c n)
theorem r3K_i (i j c : Int) (K : List PyData → Prop) : r3K [.int i, .int j, .int c] K = ∃ n, RgC i j c n ∧ K (rg3 i c n) := by
  unfold r3K
  apply propext
  constructor
  · rintro ⟨i', j', c', n, e, h⟩
    cases e
    exact ⟨n, h⟩
  · rintro ⟨n, h⟩
    exact ⟨i, j, c, n, rfl, h⟩
theorem e_rng3 (wf : WF) (env : Ev) (Ki : Ev → List PyData → Prop) (Kx : KXc) : wIRng3 wf env Ki Kx = wf env (fun e ds => r3K ds (Ki e)) Kx := rfl
/-! dicts -/
def dcS (K : List (List Int × PyData) → Prop) : Sl → Prop
  | .dct kv => K kv
  | _ => False
theorem dcS_d (K : List (List Int × PyData) → Prop) (kv : List (List Int × PyData)) : dcS K (.dct kv) = K kv := rfl
def dcB : Sl → Prop
  | .dct _ => True
  | _ => False
theorem dcB_d (kv : List (List Int × PyData)) : dcB (.dct kv) = True := rfl
theorem dct_ex (env : Ev) (i : Nat) (K : List (List Int × PyData) → Prop) : getS env i (dcS K) = ∃ kv, env[i]? = some (Sl.dct kv) ∧ K kv := by
  rw [getS_ex]
  apply propext
  constructor
  · rintro ⟨s, h, z⟩
    cases s with
    | dct kv => exact ⟨kv, h, z⟩
    | _ => exact z.elim
  · rintro ⟨kv, h, z⟩; exact ⟨_, h, z⟩
theorem e_isDct (env : Ev) (i : Nat) : isDct env i = getS env i dcB := by
  rw [getS_ex]
  unfold isDct
  apply propext
  constructor
  · rintro ⟨kv, h⟩; exact ⟨_, h, trivial⟩
  · rintro ⟨s, h, z⟩
    cases s with
    | dct kv => exact ⟨kv, h⟩
    | _ => exact z.elim
theorem e_newD (i : Nat) (env : Ev) (k : Ken) : wNewD i env k = setS env i (.dct []) k.nx := (setS_eq _ _ _ _).symm
def pvK (r : Rs) (K : PyData → Prop) : Prop := ∃ d, r = .val d ∧ scD d ∧ K d
theorem pvK_b (b : Bool) (K : PyData → Prop) : pvK (.val (.bool b)) K = K (.bool b) := by simp [pvK, scD]
theorem pvK_i (b : Int) (K : PyData → Prop) : pvK (.val (.int b)) K = K (.int b) := by simp [pvK, scD]
def tkK (r : Rs) (K : List Int → Prop) : Prop := ∃ ks : List Int, r = .val (.tuple (ks.map .int)) ∧ K ks
theorem tkK_m (ks : List Int) (K : List Int → Prop) : tkK (.val (.tuple (ks.map .int))) K = K ks := by
  unfold tkK
  apply propext
  constructor
  · rintro ⟨k2, e, h⟩
    rw [Rs.val.injEq, PyData.tuple.injEq] at e
    rw [(List.map_inj_right fun x y e => by cases e; rfl).mp e]
    exact h
  · exact fun h => ⟨ks, rfl, h⟩
theorem tkK_2 (a b : Int) (K : List Int → Prop) : tkK (.val (.tuple [.int a, .int b])) K = K [a, b] := tkK_m [a, b] K
theorem e_putD (i : Nat) (wi w : WE) (env : Ev) (k : Ken) : wPutD i wi w env k = w env (fun e r => pvK r fun d => getS e i dcB ∧ wi e (fun e2 r2 => tkK r2 fun ks => getS e2 i (dcS fun kvs => kvs.length < sizeLine ∧ setS e2 i (.dct (putD kvs ks d)) k.nx)) k.ex) k.ex := by
  have : ∀ (e2 : Ev) (r2 : Rs) (d : PyData), (tkK r2 fun ks => getS e2 i (dcS fun kvs => kvs.length < sizeLine ∧ setS e2 i (.dct (putD kvs ks d)) k.nx)) = ∃ ks kvs, r2 = .val (.tuple (ks.map .int)) ∧ e2[i]? = some (Sl.dct kvs) ∧ kvs.length < sizeLine ∧ k.nx (e2.set i (.dct (putD kvs ks d))) := by
    intro e2 r2 d
    simp only [dct_ex, setS_eq, tkK]
    apply propext
    constructor
    · rintro ⟨ks, h1, kvs, h2, h3⟩; exact ⟨ks, kvs, h1, h2, h3⟩
    · rintro ⟨ks, kvs, h1, h2, h3⟩; exact ⟨ks, h1, kvs, h2, h3⟩
  simp only [this, ← e_isDct]
  rfl
theorem e_lenD (i : Nat) (env : Ev) (Ke : KE) (Kx : KXc) : wLenD i env Ke Kx = getS env i (dcS fun kv => Ke env (.val (.int kv.length))) := by
  rw [dct_ex]
  rfl
theorem e_listD (i : Nat) (env : Ev) (Ke : KE) (Kx : KXc) : wListD i env Ke Kx = getS env i (dcS fun kv => Ke env (.tmp (kv.map fun p => .tuple (p.1.map .int)))) := by
  rw [dct_ex]
  rfl
theorem e_ssetI (w : WE) (env : Ev) (Ke : KE) (Kx : KXc) : wSortSetI w env Ke Kx = w env (fun e r => tutK r fun xs => oSortSetI xs (Ke e)) Kx := rfl
theorem oMinL_c (x : PyData) (xs : List PyData) (K : Rs → Prop) : oMinL [.list (x :: xs)] K = (PySem.W.AlikeAll (x :: xs) ∧ (∀ d ∈ x :: xs, SeqAt.shaped d = true) ∧ K (.val (PySem.W.minD x xs))) := rfl
theorem e_lset (w : WE) (env : Ev) (Ke : KE) (Kx : KXc) : wLenSet w env Ke Kx = w env (fun e r => rdK e r fun d => ssK d fun xs => oLenSet xs (Ke e)) Kx := by
  unfold wLenSet
  congr 1
  funext e r
  unfold rdK ssK
  apply propext
  constructor
  · rintro ⟨xs, h1 | h1, h2⟩
    · exact ⟨_, h1, xs, .inl rfl, h2⟩
    · exact ⟨_, h1, xs, .inr rfl, h2⟩
  · rintro ⟨d, h1, xs, rfl | rfl, h2⟩
    · exact ⟨xs, .inl h1, h2⟩
    · exact ⟨xs, .inr h1, h2⟩
def zlK (ds : List PyData) (K : List PyData → List PyData → Prop) : Prop := ∃ xs ys, ds = [.list xs, .tuple ys] ∧ K xs ys
theorem zlK_c (xs ys : List PyData) (K : List PyData → List PyData → Prop) : zlK [.list xs, .tuple ys] K = K xs ys := propext ⟨fun ⟨_, _, e, h⟩ => by cases e; exact h, fun h => ⟨xs, ys, rfl, h⟩⟩
theorem e_lstZ (wf : WF) (env : Ev) (Ke : KE) (Kx : KXc) : wLstZ wf env Ke Kx = wf env (fun e ds => zlK ds fun xs ys => xs.length ≤ sizeLine ∧ Ke e (.tmp (zipD xs ys))) Kx := rfl
theorem e_ins (i : Nat) (w1 w2 : WE) (env : Ev) (Ke : KE) (Kx : KXc) : wIns i w1 w2 env Ke Kx = (getS env i ownB ∧ w1 env (fun e1 r1 => intK r1 fun n => 0 ≤ n ∧ n < 2 ^ 63 ∧ wFz w2 e1 (fun e2 d => getS e2 i (oS fun l ds => ds.length < sizeLine ∧ setS e2 i (.own l (ds.take n.toNat ++ [d] ++ ds.drop n.toNat)) fun e' => Ke e' (.val .none))) Kx) Kx) := by
  simp only [own_ex, setS_eq, ← e_isOwn]
  rfl
end Dl
end L2

/-! The plain half, 1: evaluation of w terms; loops. -/
namespace L2
namespace Dl
open PySem PySem.Spec PyProof.Rows
@[simp] theorem isTy_int_int (i : Int) : isTy "int" (.int i) = true := rfl
@[simp] theorem isTy_bool_int (i : Int) : isTy "bool" (.int i) = false := rfl
@[simp] theorem isTy_int_bool (i : Bool) : isTy "int" (.bool i) = true := rfl
@[simp] theorem isTy_bool_bool (i : Bool) : isTy "bool" (.bool i) = true := rfl
@[simp] theorem isTy_int_tup (i : List PyData) : isTy "int" (.tuple i) = false := rfl
@[simp] theorem isTy_int_lst (i : List PyData) : isTy "int" (.list i) = false := rfl
@[simp] theorem isTy_int_non : isTy "int" .none = false := rfl
@[simp] theorem isTy_int_str (s : Str) : isTy "int" (.str s) = false := rfl
@[simp] theorem isTy_tup_tup (i : List PyData) : isTy "tuple" (.tuple i) = true := rfl
@[simp] theorem isTy_tup_lst (i : List PyData) : isTy "tuple" (.list i) = false := rfl
@[simp] theorem isTy_tup_int (i : Int) : isTy "tuple" (.int i) = false := rfl
@[simp] theorem isTy_tup_bool (i : Bool) : isTy "tuple" (.bool i) = false := rfl
@[simp] theorem isTy_tup_non : isTy "tuple" .none = false := rfl
@[simp] theorem isTy_tup_str (s : Str) : isTy "tuple" (.str s) = false := rfl
@[simp] theorem isTy_lst_lst (i : List PyData) : isTy "list" (.list i) = true := rfl
@[simp] theorem isTy_lst_tup (i : List PyData) : isTy "list" (.tuple i) = false := rfl
@[simp] theorem isTy_lst_int (i : Int) : isTy "list" (.int i) = false := rfl
theorem atI_0 {α : Type} (x0 : α) (l : List α) : atI (x0 :: l) 0 = some x0 := atI_nat (j := 0) rfl
theorem atI_1 {α : Type} (x0 x1 : α) (l : List α) : atI (x0 :: x1 :: l) 1 = some x1 := atI_nat (j := 1) rfl
theorem atI_2 {α : Type} (x0 x1 x2 : α) (l : List α) : atI (x0 :: x1 :: x2 :: l) 2 = some x2 := atI_nat (j := 2) rfl
theorem atI_3 {α : Type} (x0 x1 x2 x3 : α) (l : List α) : atI (x0 :: x1 :: x2 :: x3 :: l) 3 = some x3 := atI_nat (j := 3) rfl
theorem atI_4 {α : Type} (x0 x1 x2 x3 x4 : α) (l : List α) : atI (x0 :: x1 :: x2 :: x3 :: x4 :: l) 4 = some x4 := atI_nat (j := 4) rfl
theorem atI_5 {α : Type} (x0 x1 x2 x3 x4 x5 : α) (l : List α) : atI (x0 :: x1 :: x2 :: x3 :: x4 :: x5 :: l) 5 = some x5 := atI_nat (j := 5) rfl
theorem atI_6 {α : Type} (x0 x1 x2 x3 x4 x5 x6 : α) (l : List α) : atI (x0 :: x1 :: x2 :: x3 :: x4 :: x5 :: x6 :: l) 6 = some x6 := atI_nat (j := 6) rfl
theorem atI_7 {α : Type} (x0 x1 x2 x3 x4 x5 x6 x7 : α) (l : List α) : atI (x0 :: x1 :: x2 :: x3 :: x4 :: x5 :: x6 :: x7 :: l) 7 = some x7 := atI_nat (j := 7) rfl
theorem atI_8 {α : Type} (x0 x1 x2 x3 x4 x5 x6 x7 x8 : α) (l : List α) : atI (x0 :: x1 :: x2 :: x3 :: x4 :: x5 :: x6 :: x7 :: x8 :: l) 8 = some x8 := atI_nat (j := 8) rfl
theorem atI_9 {α : Type} (x0 x1 x2 x3 x4 x5 x6 x7 x8 x9 : α) (l : List α) : atI (x0 :: x1 :: x2 :: x3 :: x4 :: x5 :: x6 :: x7 :: x8 :: x9 :: l) 9 = some x9 := atI_nat (j := 9) rfl
theorem atI_10 {α : Type} (x0 x1 x2 x3 x4 x5 x6 x7 x8 x9 x10 : α) (l : List α) : atI (x0 :: x1 :: x2 :: x3 :: x4 :: x5 :: x6 :: x7 :: x8 :: x9 :: x10 :: l) 10 = some x10 := atI_nat (j := 10) rfl
theorem atI_11 {α : Type} (x0 x1 x2 x3 x4 x5 x6 x7 x8 x9 x10 x11 : α) (l : List α) : atI (x0 :: x1 :: x2 :: x3 :: x4 :: x5 :: x6 :: x7 :: x8 :: x9 :: x10 :: x11 :: l) 11 = some x11 := atI_nat (j := 11) rfl
theorem ixN_3_0 : ixN 3 0 = some 0 := rfl
theorem ixN_3_1 : ixN 3 1 = some 1 := rfl
theorem ixN_3_2 : ixN 3 2 = some 2 := rfl
theorem sh_int (i : Int) : SeqAt.shaped (.int i) = true := rfl
theorem sh_bool (i : Bool) : SeqAt.shaped (.bool i) = true := rfl
theorem nd_true {p : Prop} [Decidable p] : ((!decide p) = true) = ¬ p := by simp
theorem nd1 (i : Nat) : ([i] : List Nat).Nodup = True := by simp
theorem sh_non : SeqAt.shaped .none = true := rfl
theorem eqv_ii (i j : Int) : PyData.eqv (.int i) (.int j) = decide (i = j) := by by_cases h : i = j <;> rfl
theorem eqv_bb (i j : Bool) : PyData.eqv (.bool i) (.bool j) = (i == j) := by cases i <;> cases j <;> rfl
local macro_rules | `(tactic| dsimp? [$xs,*] $[$l]?) => `(tactic| simp only [wSeq, wNext, wBreak, wCont, wDrop, wRet, wRetN, wIfS, wSet, wAsgT, e_aug, e_setIx, e_par, e_gN, getS_0, getS_s, setS_0, setS_s, e_var, varK_v, varK_o, varK_u, wC, wBin, rdK_v, rdK_t, rdK_s, rdS_v, rdS_o, rdS_u, fzK_v, fzK_t, fzK_s, fzS_v, fzS_o, fzS_l, fzS_u, e_fz, asg_v, asg_t, asg_s, e_tb, tbK_b, wAnd, wOr, wNot, e_notV, e_andV, e_orV, wBV, wIf, e_neg, intK_i, e_oso, wONo, e_rng1, e_rng2, wFNil, wFCons, wANil, wACons, wTup, wLst, e_callB, rdAllK_n, rdAllK_c, wIsi, e_call, wMNil, wMCons, e_ld, lnsOf, avsK_n, avsK_f, avsK_l, lnS_o, lnS_v, lnS_u, poK_n, poK_c, poS_o, inS_0, inS_s, rsK_v, rsK_o, wSl, e_ownF, e_own0, ownB_o, oS_o, oS_v, oS_u, agS_i, muApp, oAdd_i, oAdd_l, oAdd_t, oAdd_s, oSub_i, oMul_i, oFdiv_i, oMod_i, oPow_i, oShl_i, oShr_i, oOr_i, oAndB_i, oLt_i, oLe_i, oGt_i, oGe_i, oEq_i, oNe_i, oEq, oNe, oIx_l, oIx_t, oLen_l, oLen_t, oInt_i, oInt_b, oMax_i, oMin_i, oList_l, oList_t, oTuple_l, oTuple_t, oSorted_l, oSorted_t, oIs_n, oIsN_n, oIs_b, oIsN_b, isNone_n, isNone_t, isNone_l, isNone_i, isNone_s, isNone_b, oSl_l, oSl_t, oIn, gT_t, gC_c, gNil', e_iseq, sqK_l, sqK_t, e_isq, sq2K_l, sq2K_t, e_sset, ssK_l, ssK_t, e_chain, e_lr1, e_lr2, wRev, rvD_l, rvD_t, e_in1, e_in2, negB_f, negB_t, wIZip, zpK_l, zpK_t, zpK_m, e_extend, extR_t, wYes, startEv, kenD_nx, kenD_rt, kenD_bk, kenD_ct, kenD_ex, outK_n, outK_c, otS_o, rvK_v, rvK_t, rvK_s, rvS_v, rvS_o, slOf, lsFrom, wipeE, restE, List.map_cons, List.map_nil, List.length_cons, List.length_nil, List.replicate, List.append_nil, List.cons_append, List.nil_append, List.getElem?_cons_zero, List.getElem?_cons_succ, List.getElem?_nil, List.set_cons_zero, List.set_cons_succ, List.set_nil, Option.getD_some, Option.getD_none, Option.map_some, Option.map_none, Option.some.injEq, Rs.val.injEq, Rs.tmp.injEq, Rs.slot.injEq, Sl.own.injEq, Sl.val.injEq, PyData.int.injEq, PyData.bool.injEq, PyData.str.injEq, PyData.list.injEq, PyData.tuple.injEq, Prod.mk.injEq, Nat.sub_self, Nat.zero_add, Nat.reduceAdd, Nat.reduceSub, Nat.add_zero, isTy_int_int, isTy_bool_int, isTy_int_bool, isTy_bool_bool, isTy_int_tup, isTy_int_lst, isTy_int_non, isTy_int_str, isTy_tup_tup, isTy_tup_lst, isTy_tup_int, isTy_tup_bool, isTy_tup_non, isTy_tup_str, isTy_lst_lst, isTy_lst_tup, isTy_lst_int, exists_eq_left', exists_eq_left, exists_and_left, exists_eq_right, exists_eq, exists_eq', exists_const, true_and, and_true, and_self, Bool.not_true, Bool.not_false, if_true, if_false, Bool.false_eq_true, reduceIte, reduceCtorEq, List.nodup_nil, decide_eq_true_eq, atI_0, atI_1, atI_2, atI_3, atI_4, atI_5, atI_6, atI_7, atI_8, atI_9, atI_10, atI_11, ixN_3_0, ixN_3_1, ixN_3_2, sh_int, sh_bool, sh_non, and_assoc, nd1, nd_true, eq_self, decide_true, decide_false, Int.cast_ofNat_Int, not_true_eq_false, not_false_eq_true, eqv_ii, eqv_bb, wRaise0, e_raiseG, grK_i, e_raise1, onK_i, e_callX, xa_1, xa_2, xa_3, xa_4, xa_5, xa_6, xa_7, e_many, e_most, e_number, e_row, isLst_l, lsK_l, e_rd, e_br, brS_o, brS_v, arS_o, arS_v, avbK_n, avbK_f, avbK_l, scK_b, scK_i, scK_n, scK_s, e_callS, tmK_t, e_rep, enK_l, e_ienum, wTry, eqv_ss, tpK_v, txK_1, tutK_t, e_repT, e_callT, enTK_t, e_ienumT, r3K_i, e_rng3, e_newD, e_putD, e_lenD, e_listD, dcS_d, dcB_d, pvK_b, pvK_i, tkK_m, tkK_2, e_ssetI, oMinL_c, e_lset, e_lstZ, zlK_c, e_ins, e_callF, $xs,*] $[$l]?)
/-- one statement at a time -/
theorem seq_cut {t u : WS} {env : Ev} {k : Ken} (h : ∀ R : Ev → Prop, (∀ e, u e k → R e) → t env { k with nx := R }) : wSeq t u env k := h _ fun _ h => h
/-- a for, by an invariant over what is left -/
theorem wEach_ind {g : WG} {t : WS} {k : Ken} (Wi : List PyData → Ev → Prop) (h0 : ∀ e, Wi [] e → k.nx e)
    (hs : ∀ d r e, Wi (d :: r) e → (∀ e2, Wi r e2 → wEach g t r e2 k) → g d e (fun e1 => t e1 { k with nx := fun e2 => wEach g t r e2 k, ct := fun e2 => wEach g t r e2 k, bk := k.nx })) : ∀ ds e, Wi ds e → wEach g t ds e k
  | [], e, h => h0 e h
  | d :: r, e, h => hs d r e h fun e2 h2 => wEach_ind Wi h0 hs r e2 h2
theorem wLcE_ind {vs : List Nat} {g : WG} {ct : WT} {we : WE} {K : Ev → List PyData → Prop} (Wi : List PyData → List PyData → Ev → Prop) (h0 : ∀ acc e, Wi [] acc e → K e acc)
    (hs : ∀ d r acc e, Wi (d :: r) acc e → (∀ acc2 e2, Wi r acc2 e2 → wLcE vs g ct we r acc2 e2 K) →
      g d e (fun e1 => ct e1 (fun e2 b => if b = true then wFz we e2 (fun e3 y => acc.length < sizeLine ∧ wLcE vs g ct we r (acc ++ [y]) (wipeE e3 vs) K) NoX else wLcE vs g ct we r acc (wipeE e2 vs) K) NoX)) :
    ∀ ds acc e, Wi ds acc e → wLcE vs g ct we ds acc e K
  | [], acc, e, h => h0 acc e h
  | d :: r, acc, e, h => hs d r acc e h fun a2 e2 h2 => wLcE_ind Wi h0 hs r a2 e2 h2

/-! ### the common defs -/
def sp_divisor_of : Spc := fun avs Kr _ => match avs with
  | [.val (.int a), .val (.int b)] => 0 ≤ a ∧ 0 ≤ b ∧ Kr [] (.val (.int (Int.gcd a b : Nat)))
  | _ => False
def w_divisor_of_T1 : WT :=
  (wTB (wBin oGt (wVar 1) (wC (.int 0))))
def w_divisor_of_B1 : WS :=
  (wPar 0 1 (wFCons (wVar 1) (wFCons (wBin oMod (wVar 0) (wVar 1)) wFNil)))
def w_divisor_of_L1 : WS :=
  wWhile w_divisor_of_T1 w_divisor_of_B1
def w_divisor_of_R1 : WS :=
  (wRet (wVar 0))
/-- divisor_of: 0 one, 1 other -/
def w_divisor_of : WS :=
  (wSeq w_divisor_of_L1
    w_divisor_of_R1)

theorem gcd_mod (x y : Int) : Int.gcd y (x % y) = Int.gcd x y := by
  rw [Int.emod_def, Int.gcd_sub_mul_left_right, Int.gcd_comm]
theorem vc_divisor_of : ∀ avs Kr Kx, avs.length = 2 → sp_divisor_of avs Kr Kx → lsFrom 0 avs = [] ∧ w_divisor_of (startEv 2 avs) (kenD [] Kr Kx) := by
  intro avs Kr Kx hl h
  unfold sp_divisor_of at h
  split at h
  · rename_i a b
    obtain ⟨ha, hb, k⟩ := h
    refine ⟨rfl, ?_⟩
    dsimp? [w_divisor_of]
    refine ⟨fun m e => ∃ x y : Int, e = [.val (.int x), .val (.int y)] ∧ 0 ≤ x ∧ 0 ≤ y ∧ m = y.toNat ∧ Int.gcd x y = Int.gcd a b, ⟨_, a, b, rfl, ha, hb, rfl, rfl⟩, ?_⟩
    rintro m e ⟨x, y, rfl, hx, hy, rfl, hg⟩
    dsimp? [w_divisor_of_T1, w_divisor_of_B1]
    split
    · rename_i hp
      have h1 := Int.emod_nonneg x (Int.ne_of_gt hp)
      have h2 := Int.emod_lt_of_pos x hp
      exact ⟨hp, _, by omega, _, _, rfl, hy, h1, rfl, by rw [gcd_mod]; exact hg⟩
    · have : y = 0 := by omega
      subst this
      have e : (x : Int) = (Int.gcd x 0 : Nat) := by rw [Int.gcd_zero_right]; omega
      dsimp? [w_divisor_of_R1]
      rw [e, hg]
      exact k
  · exact h.elim

/-! #### the pen -/
/-- three ints -/
def pen3 (ds : List PyData) : Prop := ∃ l f s : Int, ds = [.int l, .int f, .int s]
def sp__law_cell_at : Spc := fun avs Kr _ => match avs with
  | [.val (.list xs), .val (.int k)] => (∃ ns : List Int, xs = ns.map .int) ∧ 0 ≤ k ∧ ∀ n, Kr [] (.val (.int n))
  | _ => False
/-- _law_cell_at: 0 script, 1 k -/
def w__law_cell_at : WS :=
  (wSeq (wIfS (wTB (wBin oLt (wVar 1) (wCallB oLen (wACons (wVar 0) wANil)))) (wRet (wBin oIx (wVar 0) (wVar 1))) wNext)
    (wRet (wC (.int 0))))

theorem atI_ints {ns : List Int} {k : Int} (h0 : 0 ≤ k) (h1 : k < ns.length) : ∃ n, atI (ns.map PyData.int) k = some (.int n) := by
  obtain ⟨j, rfl⟩ := Int.eq_ofNat_of_zero_le h0
  have hj : j < ns.length := by omega
  exact ⟨ns[j], atI_nat (by rw [List.getElem?_map, List.getElem?_eq_getElem hj]; rfl)⟩
theorem atI_mem {ns : List Int} {k : Int} (h0 : 0 ≤ k) (h1 : k < ns.length) : ∃ n, n ∈ ns ∧ atI (ns.map PyData.int) k = some (.int n) := by
  obtain ⟨j, rfl⟩ := Int.eq_ofNat_of_zero_le h0
  have hj : j < ns.length := by omega
  exact ⟨ns[j], List.getElem_mem hj, atI_nat (by rw [List.getElem?_map, List.getElem?_eq_getElem hj]; rfl)⟩
theorem vc__law_cell_at : ∀ avs Kr Kx, avs.length = 2 → sp__law_cell_at avs Kr Kx → lsFrom 0 avs = [] ∧ w__law_cell_at (startEv 2 avs) (kenD [] Kr Kx) := by
  intro avs Kr Kx hl h
  unfold sp__law_cell_at at h
  split at h
  · rename_i xs k
    obtain ⟨⟨ns, rfl⟩, hk, q⟩ := h
    refine ⟨rfl, ?_⟩
    dsimp? [w__law_cell_at]
    split
    · rename_i hp
      obtain ⟨n, e⟩ := atI_ints (ns := ns) hk (by simpa using hp)
      dsimp? [e]
      exact q n
    · exact q 0
  · exact h.elim
def sp__law_next : Spc := fun avs Kr _ => match avs with
  | [.val (.int k)] => ∀ n : Int, 0 ≤ n → n < 2147483647 → Kr [] (.val (.int n))
  | _ => False
/-- _law_next: 0 seed -/
def w__law_next : WS :=
  (wSeq (wSet 0 (wBin oMod (wBin oAdd (wVar 0) (wC (.int 7919))) (wC (.int 2147483647))))
    (wRet (wBin oMod (wBin oAdd (wBin oAdd (wBin oMul (wVar 0) (wVar 0)) (wBin oMul (wC (.int 48271)) (wVar 0))) (wC (.int 12345))) (wC (.int 2147483629)))))

theorem vc__law_next : ∀ avs Kr Kx, avs.length = 1 → sp__law_next avs Kr Kx → lsFrom 0 avs = [] ∧ w__law_next (startEv 1 avs) (kenD [] Kr Kx) := by
  intro avs Kr Kx hl h
  unfold sp__law_next at h
  split at h
  · rename_i k
    refine ⟨rfl, ?_⟩
    dsimp? [w__law_next]
    have h1 := Int.emod_nonneg (k + 7919) (show (2147483647 : Int) ≠ 0 by decide)
    have h2 := Int.emod_lt_of_pos (k + 7919) (show (0 : Int) < 2147483647 by decide)
    have hb : ((k + 7919) % 2147483647).natAbs < 2 ^ 31 := by omega
    refine ⟨by decide, mulx_ok hb hb (by decide), mulx_ok (a := 31) (by decide) hb (by decide), by decide, h _ (Int.emod_nonneg _ (by decide)) ?_⟩
    exact Int.lt_trans (Int.emod_lt_of_pos _ (by decide)) (by decide)
  · exact h.elim
def sp__law_pen_of : Spc := fun avs Kr _ => match avs with
  | [.val (.int k)] => ∀ ds, pen3 ds → Kr [] (.own ds)
  | _ => False
/-- _law_pen_of: 0 cell, 1 left -/
def w__law_pen_of : WS :=
  (wSeq (wSet 1 (wCallB oMax (wACons (wVar 0) (wACons (wBin oSub (wC (.int 0)) (wVar 0)) wANil))))
    (wRet (wLst (wFCons (wVar 1) (wFCons (wCallB oInt (wACons (wBin oGe (wVar 1) (wBin oPow (wC (.int 10)) (wC (.int 18)))) wANil)) (wFCons (wBin oMod (wVar 1) (wC (.int 1000003))) wFNil))))))

theorem vc__law_pen_of : ∀ avs Kr Kx, avs.length = 1 → sp__law_pen_of avs Kr Kx → lsFrom 0 avs = [] ∧ w__law_pen_of (startEv 2 avs) (kenD [] Kr Kx) := by
  intro avs Kr Kx hl h
  unfold sp__law_pen_of at h
  split at h
  · rename_i k
    refine ⟨rfl, ?_⟩
    dsimp? [w__law_pen_of]
    exact ⟨⟨by decide, by decide, by decide⟩, by decide, by decide, h _ ⟨_, _, _, rfl⟩⟩
  · exact h.elim
def sp__law_draw : Spc := fun avs Kr _ => match avs with
  | [.own ds, .val (.int m)] => pen3 ds ∧ 0 < m ∧ m.natAbs.log2 < 9000 ∧ ∀ ds' r, pen3 ds' → 0 ≤ r → r < m → Kr [ds'] (.val (.int r))
  | _ => False
/-- _law_draw: 0 pen, 1 many, 2 found -/
def w__law_draw : WS :=
  (wSeq (wIfS (wTB (wBin oEq (wBin oIx (wVar 0) (wC (.int 1))) (wC (.int 1)))) (wSeq (wSet 2 (wBin oMod (wBin oIx (wVar 0) (wC (.int 0))) (wVar 1)))
    (wSeq (wSetIx 0 (wC (.int 0)) (wBin oFdiv (wBin oIx (wVar 0) (wC (.int 0))) (wVar 1)))
    (wRet (wVar 2)))) wNext)
    (wSeq (wSetIx 0 (wC (.int 2)) (wCall 1 sp__law_next (wMCons (wBin oAdd (wCall 1 sp__law_next (wMCons (wBin oIx (wVar 0) (wC (.int 2))) wMNil)) (wC (.int 7))) wMNil)))
    (wRet (wBin oMod (wBin oFdiv (wBin oIx (wVar 0) (wC (.int 2))) (wC (.int 64))) (wVar 1)))))

theorem vc__law_draw : ∀ avs Kr Kx, avs.length = 2 → sp__law_draw avs Kr Kx → lsFrom 0 avs = [0] ∧ w__law_draw (startEv 3 avs) (kenD [0] Kr Kx) := by
  intro avs Kr Kx hl h
  unfold sp__law_draw at h
  split at h
  · rename_i ds m
    obtain ⟨⟨l, f, s, rfl⟩, hm, hm2, q⟩ := h
    refine ⟨rfl, ?_⟩
    dsimp? [w__law_draw, sp__law_next]
    split
    · exact ⟨hm, hm, hm2, q _ _ ⟨_, _, _, rfl⟩ (Int.emod_nonneg _ (Int.ne_of_gt hm)) (Int.emod_lt_of_pos _ hm)⟩
    · intro n1 _ _ n2 _ _
      exact ⟨by decide, by decide, hm, q _ _ ⟨_, _, _, rfl⟩ (Int.emod_nonneg _ (Int.ne_of_gt hm)) (Int.emod_lt_of_pos _ hm)⟩
  · exact h.elim
def sp__law_whole : Spc := fun avs Kr _ => match avs with
  | [.val d] => Kr [] (.val (.bool (match d with | .int _ => true | _ => false)))
  | _ => False
/-- _law_whole: 0 found -/
def w__law_whole : WS :=
  (wRet ((wAndV (wIsi "int" (wVar 0)) (wNotV (wIsi "bool" (wVar 0))))))

theorem vc__law_whole : ∀ avs Kr Kx, avs.length = 1 → sp__law_whole avs Kr Kx → lsFrom 0 avs = [] ∧ w__law_whole (startEv 1 avs) (kenD [] Kr Kx) := by
  intro avs Kr Kx hl h
  unfold sp__law_whole at h
  split at h
  · rename_i d
    refine ⟨rfl, ?_⟩
    dsimp? [w__law_whole]
    cases d <;> dsimp? [isTy, tyN] <;> exact h
  · exact h.elim

/-! #### clocks -/
def ck (c : Int × Int) : PyData := .tuple [.int c.1, .int c.2]
abbrev cks (cs : List (Int × Int)) : List PyData := cs.map ck
/-- a clock of a step of at most m -/
def CkOk (m : Int) (c : Int × Int) : Prop := 1 ≤ c.1 ∧ c.1 ≤ m ∧ 0 ≤ c.2 ∧ c.2 < c.1
theorem log_small {m : Int} (h0 : 0 < m) (h : m < 2 ^ 60) : m.natAbs.log2 < 9000 := by
  have h1 : m.natAbs < 2 ^ 60 := by omega
  exact Nat.lt_trans ((Nat.log2_lt (by omega)).mpr h1) (by decide)

end Dl
end L2

/-! The plain half, 2: clocks drawn. -/
namespace L2
namespace Dl
open PySem PySem.Spec PyProof.Rows
local macro_rules | `(tactic| dsimp? [$xs,*] $[$l]?) => `(tactic| simp only [wSeq, wNext, wBreak, wCont, wDrop, wRet, wRetN, wIfS, wSet, wAsgT, e_aug, e_setIx, e_par, e_gN, getS_0, getS_s, setS_0, setS_s, e_var, varK_v, varK_o, varK_u, wC, wBin, rdK_v, rdK_t, rdK_s, rdS_v, rdS_o, rdS_u, fzK_v, fzK_t, fzK_s, fzS_v, fzS_o, fzS_l, fzS_u, e_fz, asg_v, asg_t, asg_s, e_tb, tbK_b, wAnd, wOr, wNot, e_notV, e_andV, e_orV, wBV, wIf, e_neg, intK_i, e_oso, wONo, e_rng1, e_rng2, wFNil, wFCons, wANil, wACons, wTup, wLst, e_callB, rdAllK_n, rdAllK_c, wIsi, e_call, wMNil, wMCons, e_ld, lnsOf, avsK_n, avsK_f, avsK_l, lnS_o, lnS_v, lnS_u, poK_n, poK_c, poS_o, inS_0, inS_s, rsK_v, rsK_o, wSl, e_ownF, e_own0, ownB_o, oS_o, oS_v, oS_u, agS_i, muApp, oAdd_i, oAdd_l, oAdd_t, oAdd_s, oSub_i, oMul_i, oFdiv_i, oMod_i, oPow_i, oShl_i, oShr_i, oOr_i, oAndB_i, oLt_i, oLe_i, oGt_i, oGe_i, oEq_i, oNe_i, oEq, oNe, oIx_l, oIx_t, oLen_l, oLen_t, oInt_i, oInt_b, oMax_i, oMin_i, oList_l, oList_t, oTuple_l, oTuple_t, oSorted_l, oSorted_t, oIs_n, oIsN_n, oIs_b, oIsN_b, isNone_n, isNone_t, isNone_l, isNone_i, isNone_s, isNone_b, oSl_l, oSl_t, oIn, gT_t, gC_c, gNil', e_iseq, sqK_l, sqK_t, e_isq, sq2K_l, sq2K_t, e_sset, ssK_l, ssK_t, e_chain, e_lr1, e_lr2, wRev, rvD_l, rvD_t, e_in1, e_in2, negB_f, negB_t, wIZip, zpK_l, zpK_t, zpK_m, e_extend, extR_t, wYes, startEv, kenD_nx, kenD_rt, kenD_bk, kenD_ct, kenD_ex, outK_n, outK_c, otS_o, rvK_v, rvK_t, rvK_s, rvS_v, rvS_o, slOf, lsFrom, wipeE, restE, List.map_cons, List.map_nil, List.length_cons, List.length_nil, List.replicate, List.append_nil, List.cons_append, List.nil_append, List.getElem?_cons_zero, List.getElem?_cons_succ, List.getElem?_nil, List.set_cons_zero, List.set_cons_succ, List.set_nil, Option.getD_some, Option.getD_none, Option.map_some, Option.map_none, Option.some.injEq, Rs.val.injEq, Rs.tmp.injEq, Rs.slot.injEq, Sl.own.injEq, Sl.val.injEq, PyData.int.injEq, PyData.bool.injEq, PyData.str.injEq, PyData.list.injEq, PyData.tuple.injEq, Prod.mk.injEq, Nat.sub_self, Nat.zero_add, Nat.reduceAdd, Nat.reduceSub, Nat.add_zero, isTy_int_int, isTy_bool_int, isTy_int_bool, isTy_bool_bool, isTy_int_tup, isTy_int_lst, isTy_int_non, isTy_int_str, isTy_tup_tup, isTy_tup_lst, isTy_tup_int, isTy_tup_bool, isTy_tup_non, isTy_tup_str, isTy_lst_lst, isTy_lst_tup, isTy_lst_int, exists_eq_left', exists_eq_left, exists_and_left, exists_eq_right, exists_eq, exists_eq', exists_const, true_and, and_true, and_self, Bool.not_true, Bool.not_false, if_true, if_false, Bool.false_eq_true, reduceIte, reduceCtorEq, List.nodup_nil, decide_eq_true_eq, atI_0, atI_1, atI_2, atI_3, atI_4, atI_5, atI_6, atI_7, atI_8, atI_9, atI_10, atI_11, ixN_3_0, ixN_3_1, ixN_3_2, sh_int, sh_bool, sh_non, and_assoc, nd1, nd_true, eq_self, decide_true, decide_false, Int.cast_ofNat_Int, not_true_eq_false, not_false_eq_true, eqv_ii, eqv_bb, wRaise0, e_raiseG, grK_i, e_raise1, onK_i, e_callX, xa_1, xa_2, xa_3, xa_4, xa_5, xa_6, xa_7, e_many, e_most, e_number, e_row, isLst_l, lsK_l, e_rd, e_br, brS_o, brS_v, arS_o, arS_v, avbK_n, avbK_f, avbK_l, scK_b, scK_i, scK_n, scK_s, e_callS, tmK_t, e_rep, enK_l, e_ienum, wTry, eqv_ss, tpK_v, txK_1, tutK_t, e_repT, e_callT, enTK_t, e_ienumT, r3K_i, e_rng3, e_newD, e_putD, e_lenD, e_listD, dcS_d, dcB_d, pvK_b, pvK_i, tkK_m, tkK_2, e_ssetI, oMinL_c, e_lset, e_lstZ, zlK_c, e_ins, e_callF, $xs,*] $[$l]?)
def cle (p q : Int × Int) : Bool := decide (p.1 < q.1 ∨ (p.1 = q.1 ∧ p.2 ≤ q.2))
theorem ck_sh (c : Int × Int) : SeqAt.shaped (ck c) = true := rfl
theorem srt_cks (cs : List (Int × Int)) : Srts (cks cs) := by
  refine ⟨fun d hd e he => ?_, .inl fun d hd => ?_, fun d hd => ?_⟩
  · obtain ⟨c, _, rfl⟩ := List.mem_map.mp hd
    obtain ⟨c2, _, rfl⟩ := List.mem_map.mp he
    rfl
  · obtain ⟨c, _, rfl⟩ := List.mem_map.mp hd
    exact ⟨_, _, rfl⟩
  · obtain ⟨c, _, rfl⟩ := List.mem_map.mp hd
    exact ck_sh c
theorem sort_cks (cs : List (Int × Int)) : (cks cs).mergeSort dLe = cks (cs.mergeSort cle) := by
  refine (PySem.W.sort_maps ck fun a _ b _ => ?_).symm
  have e := congrFun (congrFun (PySem.W.dataLe_ii (β := Int × Int) (fun c => c.1) (fun c => c.2)) a) b
  exact e.symm
/-- strictly before -/
def clt (p q : Int × Int) : Prop := p.1 < q.1 ∨ (p.1 = q.1 ∧ p.2 < q.2)
/-- the parts of a clock -/
def prtK (c : Int × Int) (k : Nat) : List (Int × Int) := (List.range k).map fun (i : Nat) => (c.1 * k, c.2 + c.1 * i)
def Apart (c d : Int × Int) : Prop := ∀ x : Int, ¬ (c.1 ∣ x - c.2 ∧ d.1 ∣ x - d.2)
/-- of splits: short ones have a small round; of two or more the greatest step stands twice -/
def TwP (cs : List (Int × Int)) : Prop := (∃ P : Nat, 1 ≤ P ∧ 2 * P ≤ 2 ^ cs.length ∧ ∀ c ∈ cs, c.1 ∣ (P : Int)) ∧ (cs.length = 1 ∨ ∀ M : Int, (∀ c ∈ cs, c.1 ≤ M) → (∃ c ∈ cs, c.1 = M) → 2 ≤ cs.countP fun c => decide (c.1 = M))
theorem TwP.perm {cs ds : List (Int × Int)} (h : TwP cs) (p : cs.Perm ds) : TwP ds := by
  obtain ⟨⟨P, h1, h2, h3⟩, h4⟩ := h
  refine ⟨⟨P, h1, by rw [← p.length_eq]; exact h2, fun c hc => h3 c (p.mem_iff.mpr hc)⟩, ?_⟩
  rcases h4 with h4 | h4
  · exact .inl (by rw [← p.length_eq]; exact h4)
  · refine .inr fun M a ⟨c, hc, e⟩ => ?_
    rw [← p.countP_eq]
    exact h4 M (fun c hc => a c (p.mem_iff.mp hc)) ⟨c, p.mem_iff.mpr hc, e⟩
theorem TwP.split {c : Int × Int} {cs : List (Int × Int)} {k : Nat} (h : TwP (c :: cs)) (hc : 1 ≤ c.1) (hk : 2 ≤ k) : TwP (cs ++ prtK c k) := by
  obtain ⟨⟨P, h1, h2, h3⟩, h4⟩ := h
  have hl : (cs ++ prtK c k).length = cs.length + k := by unfold prtK; rw [List.length_append, List.length_map, List.length_range]
  have hm : ∀ p ∈ prtK c k, p.1 = c.1 * (k : Int) := fun p hp => by
    obtain ⟨i, _, rfl⟩ := List.mem_map.mp hp
    rfl
  refine ⟨⟨P * k, Nat.mul_pos h1 (by omega), ?_, fun d hd => ?_⟩, .inr fun M a ⟨d, hd, e⟩ => ?_⟩
  · rw [hl, show cs.length + k = (cs.length + 1) + (k - 1) by omega, Nat.pow_add, ← Nat.mul_assoc]
    rw [List.length_cons] at h2
    have : k - 1 < 2 ^ (k - 1) := Nat.lt_two_pow_self
    exact Nat.mul_le_mul h2 (by omega)
  · rw [Int.natCast_mul]
    rcases List.mem_append.mp hd with z | z
    · exact Int.dvd_trans (h3 d (List.mem_cons_of_mem _ z)) (Int.dvd_mul_right _ _)
    · rw [hm d z]
      exact Int.mul_dvd_mul (h3 c List.mem_cons_self) (Int.dvd_refl _)
  · rw [List.countP_append]
    have pc : (c.1 * (k : Int), c.2 + c.1 * ((0 : Nat) : Int)) ∈ prtK c k := List.mem_map.mpr ⟨0, List.mem_range.mpr (by omega), rfl⟩
    by_cases z : c.1 * (k : Int) = M
    · have : (prtK c k).countP (fun c => decide (c.1 = M)) = (prtK c k).length := List.countP_eq_length.mpr fun p hp => by rw [hm p hp, z]; exact decide_eq_true rfl
      rw [this]
      unfold prtK
      rw [List.length_map, List.length_range]
      omega
    · have le := a _ (List.mem_append_right _ pc)
      have lt : c.1 < M := by
        have h5 : c.1 * 2 ≤ c.1 * (k : Int) := Int.mul_le_mul_of_nonneg_left (by omega) (by omega)
        simp only at le
        omega
      have dcs : d ∈ cs := by
        rcases List.mem_append.mp hd with y | y
        · exact y
        · rw [hm d y] at e
          exact (z e).elim
      rcases h4 with h4 | h4
      · rw [List.length_cons] at h4
        have := List.length_pos_of_mem dcs
        omega
      · have := h4 M (fun x hx => by
          rcases List.mem_cons.mp hx with rfl | hx
          · omega
          · exact a x (List.mem_append_left _ hx)) ⟨d, List.mem_cons_of_mem _ dcs, e⟩
        rw [List.countP_cons, if_neg (by rw [decide_eq_false (by omega)]; decide)] at this
        omega
/-- exact: none ring together, and the shares come to 1; and of splits -/
def Exq (cs : List (Int × Int)) : Prop := cs.Pairwise Apart ∧ (∀ M : Int, (∀ c ∈ cs, c.1 ∣ M) → (cs.map fun c => M / c.1).sum = M) ∧ TwP cs
theorem sum_perm {xs ys : List Int} (h : xs.Perm ys) : xs.sum = ys.sum := by
  induction h with
  | nil => rfl
  | cons x _ ih => rw [List.sum_cons, List.sum_cons, ih]
  | swap x y l => rw [List.sum_cons, List.sum_cons, List.sum_cons, List.sum_cons]; omega
  | trans _ _ a b => rw [a, b]
theorem erase_perm {α : Type} {cs : List α} {j : Nat} (h : j < cs.length) : (cs[j] :: cs.eraseIdx j).Perm cs := by
  have e := List.take_append_drop j cs
  rw [List.drop_eq_getElem_cons h] at e
  rw [List.eraseIdx_eq_take_drop_succ]
  exact List.perm_middle.symm.trans (by rw [e])
theorem Apart.symm {c d : Int × Int} (h : Apart c d) : Apart d c := fun x hx => h x ⟨hx.2, hx.1⟩
theorem Exq.perm {cs ds : List (Int × Int)} (h : Exq cs) (p : cs.Perm ds) : Exq ds := ⟨(p.pairwise_iff fun h => h.symm).mp h.1, fun M hM => by
  rw [← sum_perm (p.map fun c => M / c.1)]
  exact h.2.1 M fun c hc => hM c (p.mem_iff.mp hc), h.2.2.perm p⟩
theorem Exq.one : Exq [(1, 0)] := ⟨by simp, fun M _ => by simp, ⟨1, by decide, by decide, fun c h => by
  rw [List.mem_singleton] at h
  subst h
  exact ⟨1, rfl⟩⟩, .inl rfl⟩
theorem rep_sum (q : Int) : ∀ k : Nat, ((List.range k).map fun _ => q).sum = k * q
  | 0 => by simp
  | k + 1 => by
    rw [List.range_succ, List.map_append, List.sum_append, rep_sum q k, List.map_cons, List.map_nil, List.sum_cons, List.sum_nil, Int.natCast_add, Int.add_mul]
    omega
theorem part_apart {c : Int × Int} {k i j : Nat} (hc : 1 ≤ c.1) (hi : i < k) (hj : j < k) (hij : i < j) : Apart (c.1 * (k : Int), c.2 + c.1 * (i : Int)) (c.1 * (k : Int), c.2 + c.1 * (j : Int)) := fun x ⟨h1, h2⟩ => by
  simp only at h1 h2
  have h3 := Int.dvd_sub h1 h2
  rw [show x - (c.2 + c.1 * (i : Int)) - (x - (c.2 + c.1 * (j : Int))) = c.1 * ((j : Int) - (i : Int)) by rw [Int.mul_sub]; omega] at h3
  have h4 := Int.dvd_of_mul_dvd_mul_left (show c.1 ≠ 0 by omega) h3
  have := Int.le_of_dvd (show (0 : Int) < (j : Int) - (i : Int) by omega) h4
  omega
theorem Exq.split {c : Int × Int} {cs : List (Int × Int)} {k : Nat} (h : Exq (c :: cs)) (hc : 1 ≤ c.1) (hk : 2 ≤ k) : Exq (cs ++ prtK c k) := by
  obtain ⟨h1, h2, h3⟩ := h
  rw [List.pairwise_cons] at h1
  refine ⟨?_, ?_, h3.split hc hk⟩
  · rw [List.pairwise_append]
    refine ⟨h1.2, ?_, fun d hd p hp => ?_⟩
    · unfold prtK
      rw [List.pairwise_map]
      have : (List.range k).Pairwise fun i j => i < j ∧ i < k ∧ j < k := List.pairwise_lt_range.imp_of_mem fun hi hj h => ⟨h, List.mem_range.mp hi, List.mem_range.mp hj⟩
      exact this.imp fun ⟨a, b, d⟩ => part_apart hc b d a
    · obtain ⟨i, _, rfl⟩ := List.mem_map.mp hp
      intro x ⟨a, b⟩
      simp only at b
      refine h1.1 d hd x ⟨?_, a⟩
      have h3 := Int.dvd_add (Int.dvd_trans (Int.dvd_mul_right c.1 (k : Int)) b) (Int.dvd_mul_right c.1 (i : Int))
      rwa [show x - (c.2 + c.1 * (i : Int)) + c.1 * (i : Int) = x - c.2 by omega] at h3
  · intro M hM
    have hck : c.1 * (k : Int) ∣ M := by
      refine hM (c.1 * (k : Int), c.2 + c.1 * ((0 : Nat) : Int)) (List.mem_append_right _ (List.mem_map.mpr ⟨0, List.mem_range.mpr (by omega), rfl⟩))
    have e := h2 M fun d hd => by
      rcases List.mem_cons.mp hd with rfl | hd
      · exact Int.dvd_trans (Int.dvd_mul_right _ _) hck
      · exact hM d (List.mem_append_left _ hd)
    rw [List.map_cons, List.sum_cons] at e
    rw [List.map_append, List.sum_append]
    have e2 : ((prtK c k).map fun d => M / d.1).sum = (k : Int) * (M / (c.1 * (k : Int))) := by
      unfold prtK
      rw [List.map_map]
      exact rep_sum (M / (c.1 * (k : Int))) k
    obtain ⟨q, hq⟩ := hck
    rw [e2, hq, Int.mul_ediv_cancel_left _ (show c.1 * (k : Int) ≠ 0 from Int.mul_ne_zero (by omega) (by omega))]
    rw [hq, Int.mul_assoc, Int.mul_ediv_cancel_left _ (show c.1 ≠ 0 by omega), ← Int.mul_assoc] at e
    omega
def sp__law_parts_by : Spc := fun avs Kr _ => match avs with
  | [.own ds, .val (.int least), .val (.int most)] => pen3 ds ∧ 1 ≤ least ∧ least ≤ 40 ∧ 1 ≤ most ∧ most ≤ 40 ∧ ∀ ds' cs, pen3 ds' → (∀ c ∈ cs, CkOk 1000 c) → 1 ≤ cs.length → (cs.length : Int) ≤ max least most → Exq cs ∧ (∃ l, cs = List.mergeSort l cle) ∧ (least ≤ 2 → least ≤ cs.length) → Kr [ds'] (.own (cks cs))
  | _ => False
def w__law_parts_by_C1 : WE :=
  wLc [7] (wIRng1 (wVar 4)) (gN 7) wYes (wTup (wFCons (wBin oMul (wVar 5) (wVar 4)) (wFCons (wBin oAdd (wVar 6) (wBin oMul (wVar 5) (wVar 7))) wFNil)))
def w__law_parts_by_T1 : WT :=
  (wOr (wTB (wBin oLt (wCallB oLen (wACons (wVar 3) wANil)) (wVar 1))) (wAnd (wTB (wBin oGt (wCall 2 sp__law_draw (wLd 0 (wMCons (wC (.int 4)) wMNil))) (wC (.int 0)))) (wTB (wBin oLt (wCallB oLen (wACons (wVar 3) wANil)) (wVar 2)))))
def w__law_parts_by_B1 : WS :=
  (wSeq (wSet 4 (wBin oIx (wLst (wFCons (wC (.int 2)) (wFCons (wC (.int 2)) (wFCons (wC (.int 3)) (wFCons (wC (.int 2)) (wFCons (wC (.int 3)) (wFCons (wC (.int 5)) wFNil))))))) (wCall 2 sp__law_draw (wLd 0 (wMCons (wC (.int 6)) wMNil)))))
    (wSeq (wSet 4 (wCallB oMin (wACons (wVar 4) (wACons (wCallB oMax (wACons (wC (.int 2)) (wACons (wBin oAdd (wBin oSub (wVar 2) (wCallB oLen (wACons (wVar 3) wANil))) (wC (.int 1))) wANil))) wANil))))
    (wSeq (wAsgT (wOwnF 3 (wCall 2 sp__law_draw (wLd 0 (wMCons (wCallB oLen (wACons (wVar 3) wANil)) wMNil))) muPopAt) (gT 2 (gCons' (gN 5) (gCons' (gN 6) gNil'))))
    (wSeq (wIfS (wTB (wBin oGt (wBin oMul (wVar 5) (wVar 4)) (wC (.int 1000)))) (wRet (wCallB oSorted (wACons (wBin oAdd (wVar 3) (wLst (wFCons (wTup (wFCons (wVar 5) (wFCons (wVar 6) wFNil))) wFNil))) wANil))) wNext)
    (wSet 3 (wBin oAdd (wVar 3) w__law_parts_by_C1))))))
def w__law_parts_by_L1 : WS :=
  wWhile w__law_parts_by_T1 w__law_parts_by_B1
def w__law_parts_by_R1 : WS :=
  (wRet (wCallB oSorted (wACons (wVar 3) wANil)))
/-- _law_parts_by: 0 pen, 1 least, 2 most, 3 clocks, 4 k, 5 step, 6 rest, 7 part -/
def w__law_parts_by : WS :=
  (wSeq (wSet 3 (wLst (wFCons (wTup (wFCons (wC (.int 1)) (wFCons (wC (.int 0)) wFNil))) wFNil)))
    (wSeq w__law_parts_by_L1
    w__law_parts_by_R1))

theorem map_erase {α β : Type} (f : α → β) : ∀ (l : List α) (j : Nat), (l.map f).eraseIdx j = (l.eraseIdx j).map f
  | [], _ => rfl
  | _ :: _, 0 => rfl
  | x :: l, j + 1 => congrArg (f x :: ·) (map_erase f l j)
theorem c__law_parts_by {ds : List PyData} {least most k st re : Int} {L : List PyData} {Ke : KE} {Kx : KXc} (h0 : 0 ≤ k) (hk : k ≤ 100) (hs : 1 ≤ st) (hr0 : 0 ≤ re) (hr : re < st) (hsk : st * k ≤ 1000)
    (hK : ∀ ms : List (Int × Int), (∀ c ∈ ms, CkOk 1000 c) → (ms.length : Int) = k → ms = prtK (st, re) k.toNat → Ke [.own true ds, .val (.int least), .val (.int most), .own false L, .val (.int k), .val (.int st), .val (.int re), .un] (.tmp (cks ms))) :
    w__law_parts_by_C1 [.own true ds, .val (.int least), .val (.int most), .own false L, .val (.int k), .val (.int st), .val (.int re), .un] Ke Kx := by
  dsimp? [w__law_parts_by_C1, wLc]
  refine ⟨by omega, by omega, ?_⟩
  refine wLcE_ind (fun ds' acc e => ∃ ms : List (Int × Int), acc = cks ms ∧ (∀ c ∈ ms, CkOk 1000 c) ∧ (ds' = (List.range' ms.length ds'.length).map (fun (i : Nat) => PyData.int (i : Int)) ∧ ms = (List.range ms.length).map fun (i : Nat) => (st * k, re + st * (i : Int))) ∧ ((ms.length + ds'.length : Nat) : Int) = k ∧ e = [.own true ds, .val (.int least), .val (.int most), .own false L, .val (.int k), .val (.int st), .val (.int re), .un]) ?_ ?_ _ _ _ ⟨[], rfl, fun _ z => (by cases z), ?_, by simp; omega, rfl⟩
  · rintro acc e ⟨ms, rfl, h1, h2, h3, rfl⟩
    have h4 : (ms.length : Int) = k := by simpa using h3
    dsimp? []
    refine hK ms h1 h4 ?_
    have h5 := h2.2
    rw [← h4] at h5 ⊢
    rw [Int.toNat_natCast]
    exact h5
  · rintro d r acc e ⟨ms, rfl, h1, h2, h3, rfl⟩ ih
    obtain ⟨h2, h5⟩ := h2
    rw [List.length_cons, List.range'_succ, List.map_cons] at h2
    injection h2 with ed h2
    subst ed
    have i0 : (0 : Int) ≤ (ms.length : Int) := by omega
    have ik : (ms.length : Int) < k := by rw [List.length_cons] at h3; omega
    generalize hgi : (ms.length : Int) = i at *
    dsimp? []
    have e1 : st * i + st ≤ st * k := by
      have := Int.mul_le_mul_of_nonneg_left (show i + 1 ≤ k by omega) (show 0 ≤ st by omega)
      rw [Int.mul_add, Int.mul_one] at this
      exact this
    have e0 : 0 ≤ st * i := Int.mul_nonneg (by omega) i0
    have eg : st ≤ st * k := by
      have := Int.mul_le_mul_of_nonneg_left (show 1 ≤ k by omega) (show 0 ≤ st by omega)
      rw [Int.mul_one] at this
      exact this
    simp only [List.length_cons] at h3
    have hml : ms.length ≤ 100 := by omega
    refine ⟨mulx_ok (a := 30) (b := 30) (by omega) (by omega) (by decide), mulx_ok (a := 30) (b := 30) (by omega) (by omega) (by decide), by decide, by rw [List.length_map]; exact small1000 (by omega), ih _ _ ⟨ms ++ [(st * k, re + st * i)], by simp only [cks, List.map_append]; rfl, fun c hc => ?_, ⟨?_, ?_⟩, by rw [List.length_append]; simp only [List.length_cons, List.length_nil]; omega, rfl⟩⟩
    · rcases List.mem_append.mp hc with z | z
      · exact h1 c z
      · simp only [List.mem_singleton] at z
        subst z
        exact ⟨by show 1 ≤ st * k; omega, hsk, by show 0 ≤ re + st * i; omega, by show re + st * i < st * k; omega⟩
    · rw [List.length_append, List.length_singleton]
      exact h2
    · rw [List.length_append, List.length_singleton, List.range_succ, List.map_append, ← h5, ← hgi]
      rfl
  · refine ⟨?_, rfl⟩
    rw [List.length_nil, List.length_map, List.length_range, List.range_eq_range']
theorem b__law_parts_by {ds : List PyData} {least most : Int} {cs : List (Int × Int)} {x4 x5 x6 : Sl} {k : Ken} (hp : pen3 ds) (hm : most ≤ 40) (hcs : ∀ c ∈ cs, CkOk 1000 c) (hx : Exq cs) (h1 : 1 ≤ cs.length) (h2 : (cs.length : Int) < max least most) (h3 : (cs.length : Int) ≤ 40)
    (hn : ∀ ds cs' x4 x5 x6, pen3 ds → (∀ c ∈ cs', CkOk 1000 c) → Exq cs' → cs.length < cs'.length → (cs'.length : Int) ≤ max least most → k.nx [.own true ds, .val (.int least), .val (.int most), .own false (cks cs'), x4, x5, x6, .un])
    (hr : ∀ ds cs' x3 x4 x5 x6, pen3 ds → (∀ c ∈ cs', CkOk 1000 c) → Exq cs' ∧ (∃ l, cs' = List.mergeSort l cle) → cs'.length = cs.length → 2 ≤ cs.length → k.rt [.own true ds, .val (.int least), .val (.int most), x3, x4, x5, x6, .un] (.tmp (cks cs'))) :
    w__law_parts_by_B1 [.own true ds, .val (.int least), .val (.int most), .own false (cks cs), x4, x5, x6, .un] k := by
  unfold w__law_parts_by_B1
  refine seq_cut fun R hR => ?_
  dsimp? [sp__law_draw]
  refine ⟨by decide, hp, by decide, by decide, fun ds1 r1 hp1 a1 a2 => ?_⟩
  obtain ⟨n1, hn1, e1⟩ := atI_mem (ns := [2, 2, 3, 2, 3, 5]) a1 a2
  refine ⟨_, e1, hR _ ?_⟩
  have hn2 : 2 ≤ n1 ∧ n1 ≤ 5 := by
    simp only [List.mem_cons, List.not_mem_nil, or_false] at hn1
    omega
  refine seq_cut fun R hR => ?_
  dsimp? []
  refine hR _ ?_
  generalize hn3 : (if (if most - (cks cs).length + 1 > 2 then most - (cks cs).length + 1 else 2) < n1 then (if most - (cks cs).length + 1 > 2 then most - (cks cs).length + 1 else 2) else n1) = n3
  have hn4 : 2 ≤ n3 ∧ n3 ≤ 5 ∧ (n3 = 2 ∨ n3 ≤ most - cs.length + 1) := by
    rw [List.length_map] at hn3
    subst hn3
    split <;> split <;> omega
  refine seq_cut fun R hR => ?_
  dsimp? [sp__law_draw, muPopAt]
  refine ⟨hp1, by rw [List.length_map]; omega, log_small (by rw [List.length_map]; omega) (by rw [List.length_map]; omega), fun ds2 r2 hp2 b1 b2 => ?_⟩
  rw [List.length_map] at b2
  obtain ⟨j, rfl⟩ := Int.eq_ofNat_of_zero_le b1
  have hj : j < cs.length := by omega
  have ej : (cks cs)[j]? = some (ck cs[j]) := by rw [cks, List.getElem?_map, List.getElem?_eq_getElem hj]; rfl
  obtain ⟨c1, c2, c3, c4⟩ := hcs _ (List.getElem_mem hj)
  refine ⟨b1, by omega, _, ej, ?_⟩
  dsimp? [ck]
  refine hR _ ?_
  have e5 : (cks cs).eraseIdx j = cks (cs.eraseIdx j) := map_erase _ _ _
  rw [Int.toNat_natCast, e5]
  have hl5 : (cs.eraseIdx j).length = cs.length - 1 := by rw [List.length_eraseIdx, if_pos hj]
  have hc5 : ∀ c ∈ cs.eraseIdx j, CkOk 1000 c := fun c hc => hcs c (List.mem_of_mem_eraseIdx hc)
  have hxp : Exq (cs[j] :: cs.eraseIdx j) := hx.perm (erase_perm hj).symm
  have hst : cs.length = 1 → cs[j].1 ≤ 1 := fun e => by
    obtain ⟨P, p1, p2, p3⟩ := hx.2.2.1
    rw [e] at p2
    have : (2 : Nat) ^ 1 = 2 := rfl
    have h4 := Int.le_of_dvd (by omega) (p3 _ (List.getElem_mem hj))
    omega
  have hpe : cs[j] = (cs[j].1, cs[j].2) := rfl
  rw [hpe] at hxp
  clear hpe
  generalize cs[j].1 = st at c1 c2 c4 hxp hst ⊢
  generalize cs[j].2 = re at c3 c4 hxp ⊢
  have hb1 : CMulX st n3 := mulx_ok (a := 30) (b := 30) (by omega) (by omega) (by decide)
  refine seq_cut fun R hR => ?_
  dsimp? []
  refine ⟨hb1, ?_⟩
  split
  · rename_i hgt
    refine ⟨by decide, by decide, ?_, ?_⟩
    · rw [List.length_map, sizeLine_eq]; omega
    have e6 : cks (cs.eraseIdx j) ++ [PyData.tuple [.int st, .int re]] = cks (cs.eraseIdx j ++ [(st, re)]) := by
      simp only [cks, List.map_append]; rfl
    rw [e6]
    refine ⟨srt_cks _, ?_⟩
    rw [sort_cks]
    refine hr _ _ _ _ _ _ hp2 (fun c hc => ?_) ⟨(hxp.perm (List.perm_append_singleton (st, re) (cs.eraseIdx j)).symm).perm (List.mergeSort_perm _ cle).symm, _, rfl⟩ (by rw [List.length_mergeSort, List.length_append, hl5]; simp only [List.length_cons, List.length_nil]; omega) (by
      by_cases e : cs.length = 1
      · have h1 := hst e
        obtain rfl : st = 1 := by omega
        rw [Int.one_mul] at hgt
        omega
      · omega)
    rcases List.mem_append.mp ((List.mergeSort_perm _ cle).mem_iff.mp hc) with z | z
    · exact hc5 c z
    · simp only [List.mem_singleton] at z
      subst z
      exact ⟨c1, c2, c3, c4⟩
  · rename_i hle
    refine hR _ ?_
    dsimp? []
    refine c__law_parts_by (by omega) (by omega) c1 c3 c4 (by omega) fun ms hms hml hpr => ?_
    dsimp? []
    refine ⟨by rw [List.length_map, List.length_map, sizeLine_eq]; omega, ?_⟩
    have e6 : cks (cs.eraseIdx j) ++ cks ms = cks (cs.eraseIdx j ++ ms) := by simp only [cks, List.map_append]
    rw [e6]
    refine hn _ _ _ _ _ hp2 (fun c hc => ?_) (by rw [hpr]; exact hxp.split c1 (by omega)) (by rw [List.length_append, hl5]; omega) (by rw [List.length_append, hl5]; omega)
    rcases List.mem_append.mp hc with z | z
    · exact hc5 c z
    · exact hms c z
theorem vc__law_parts_by : ∀ avs Kr Kx, avs.length = 3 → sp__law_parts_by avs Kr Kx → lsFrom 0 avs = [0] ∧ w__law_parts_by (startEv 8 avs) (kenD [0] Kr Kx) := by
  intro avs Kr Kx hl h
  unfold sp__law_parts_by at h
  split at h
  · rename_i ds least most
    obtain ⟨hp, hl1, hl2, hm1, hm2, q⟩ := h
    refine ⟨rfl, ?_⟩
    dsimp? [w__law_parts_by]
    refine ⟨by decide, by decide, ?_⟩
    refine ⟨fun m e => ∃ ds cs x4 x5 x6, e = [.own true ds, .val (.int least), .val (.int most), .own false (cks cs), x4, x5, x6, .un] ∧ pen3 ds ∧ (∀ c ∈ cs, CkOk 1000 c) ∧ Exq cs ∧ 1 ≤ cs.length ∧ (cs.length : Int) ≤ max least most ∧ m = 100 - cs.length, ⟨_, ds, [(1, 0)], _, _, _, rfl, hp, ?_, Exq.one, by decide, ?_, rfl⟩, ?_⟩
    · intro c hc
      simp only [List.mem_singleton] at hc
      subst hc
      exact ⟨by decide, by decide, by decide, by decide⟩
    · show (1 : Int) ≤ _
      omega
    rintro m e ⟨ds1, cs, x4, x5, x6, rfl, hp1, hcs, hx, hlen1, hlen2, rfl⟩
    have out : ∀ ds', pen3 ds' → least ≤ cs.length → ∀ x4 x5 x6, w__law_parts_by_R1 [.own true ds', .val (.int least), .val (.int most), .own false (cks cs), x4, x5, x6, .un] (kenD [0] Kr Kx) := by
      intro ds' hp' hle x4 x5 x6
      dsimp? [w__law_parts_by_R1]
      refine ⟨srt_cks cs, ?_⟩
      rw [sort_cks]
      exact q _ _ hp' (fun c hc => hcs c ((List.mergeSort_perm cs cle).mem_iff.mp hc)) (by rw [List.length_mergeSort]; exact hlen1) (by rw [List.length_mergeSort]; exact hlen2) ⟨hx.perm (List.mergeSort_perm cs cle).symm, ⟨_, rfl⟩, fun _ => by rw [List.length_mergeSort]; exact hle⟩
    have body : ∀ ds' x4 x5 x6 (k : Ken), pen3 ds' → (cs.length : Int) < max least most → k.rt = (kenD [0] Kr Kx).rt → (k.nx = fun e2 => ∃ m', m' < 100 - cs.length ∧ ∃ ds cs x4 x5 x6, e2 = [.own true ds, .val (.int least), .val (.int most), .own false (cks cs), x4, x5, x6, .un] ∧ pen3 ds ∧ (∀ c ∈ cs, CkOk 1000 c) ∧ Exq cs ∧ 1 ≤ cs.length ∧ (cs.length : Int) ≤ max least most ∧ m' = 100 - cs.length) →
        w__law_parts_by_B1 [.own true ds', .val (.int least), .val (.int most), .own false (cks cs), x4, x5, x6, .un] k := by
      intro ds' x4 x5 x6 k hp' hlt hk1 hk2
      refine b__law_parts_by hp' hm2 hcs hx hlen1 hlt (by omega) (fun ds2 cs2 y4 y5 y6 g1 g2 gx g3 g4 => ?_) (fun ds2 cs2 y3 y4 y5 y6 g1 g2 gx g3 g5 => ?_)
      · rw [hk2]
        exact ⟨_, by omega, ds2, cs2, y4, y5, y6, rfl, g1, g2, gx, by omega, g4, rfl⟩
      · rw [hk1]
        dsimp? []
        exact q _ _ g1 g2 (by omega) (by omega) ⟨gx.1, gx.2, fun _ => by omega⟩
    dsimp? [w__law_parts_by_T1, sp__law_draw]
    split
    · exact body _ _ _ _ _ hp1 (by rename_i z; rw [List.length_map] at z; omega) rfl rfl
    · rename_i z
      have hle : least ≤ cs.length := by rw [List.length_map] at z; omega
      refine ⟨hp1, by decide, by decide, fun ds2 r2 hp2 _ _ => ?_⟩
      split
      · split
        · exact body _ _ _ _ _ hp2 (by rename_i z; rw [List.length_map] at z; omega) rfl rfl
        · exact out _ hp2 hle _ _ _
      · exact out _ hp2 hle _ _ _
  · exact h.elim
end Dl
end L2

/-! The plain half, 3: clocks drawn by ways. -/
namespace L2
namespace Dl
open PySem PySem.Spec PyProof.Rows
local macro_rules | `(tactic| dsimp? [$xs,*] $[$l]?) => `(tactic| simp only [wSeq, wNext, wBreak, wCont, wDrop, wRet, wRetN, wIfS, wSet, wAsgT, e_aug, e_setIx, e_par, e_gN, getS_0, getS_s, setS_0, setS_s, e_var, varK_v, varK_o, varK_u, wC, wBin, rdK_v, rdK_t, rdK_s, rdS_v, rdS_o, rdS_u, fzK_v, fzK_t, fzK_s, fzS_v, fzS_o, fzS_l, fzS_u, e_fz, asg_v, asg_t, asg_s, e_tb, tbK_b, wAnd, wOr, wNot, e_notV, e_andV, e_orV, wBV, wIf, e_neg, intK_i, e_oso, wONo, e_rng1, e_rng2, wFNil, wFCons, wANil, wACons, wTup, wLst, e_callB, rdAllK_n, rdAllK_c, wIsi, e_call, wMNil, wMCons, e_ld, lnsOf, avsK_n, avsK_f, avsK_l, lnS_o, lnS_v, lnS_u, poK_n, poK_c, poS_o, inS_0, inS_s, rsK_v, rsK_o, wSl, e_ownF, e_own0, ownB_o, oS_o, oS_v, oS_u, agS_i, muApp, oAdd_i, oAdd_l, oAdd_t, oAdd_s, oSub_i, oMul_i, oFdiv_i, oMod_i, oPow_i, oShl_i, oShr_i, oOr_i, oAndB_i, oLt_i, oLe_i, oGt_i, oGe_i, oEq_i, oNe_i, oEq, oNe, oIx_l, oIx_t, oLen_l, oLen_t, oInt_i, oInt_b, oMax_i, oMin_i, oList_l, oList_t, oTuple_l, oTuple_t, oSorted_l, oSorted_t, oIs_n, oIsN_n, oIs_b, oIsN_b, isNone_n, isNone_t, isNone_l, isNone_i, isNone_s, isNone_b, oSl_l, oSl_t, oIn, gT_t, gC_c, gNil', e_iseq, sqK_l, sqK_t, e_isq, sq2K_l, sq2K_t, e_sset, ssK_l, ssK_t, e_chain, e_lr1, e_lr2, wRev, rvD_l, rvD_t, e_in1, e_in2, negB_f, negB_t, wIZip, zpK_l, zpK_t, zpK_m, e_extend, extR_t, wYes, startEv, kenD_nx, kenD_rt, kenD_bk, kenD_ct, kenD_ex, outK_n, outK_c, otS_o, rvK_v, rvK_t, rvK_s, rvS_v, rvS_o, slOf, lsFrom, wipeE, restE, List.map_cons, List.map_nil, List.length_cons, List.length_nil, List.replicate, List.append_nil, List.cons_append, List.nil_append, List.getElem?_cons_zero, List.getElem?_cons_succ, List.getElem?_nil, List.set_cons_zero, List.set_cons_succ, List.set_nil, Option.getD_some, Option.getD_none, Option.map_some, Option.map_none, Option.some.injEq, Rs.val.injEq, Rs.tmp.injEq, Rs.slot.injEq, Sl.own.injEq, Sl.val.injEq, PyData.int.injEq, PyData.bool.injEq, PyData.str.injEq, PyData.list.injEq, PyData.tuple.injEq, Prod.mk.injEq, Nat.sub_self, Nat.zero_add, Nat.reduceAdd, Nat.reduceSub, Nat.add_zero, isTy_int_int, isTy_bool_int, isTy_int_bool, isTy_bool_bool, isTy_int_tup, isTy_int_lst, isTy_int_non, isTy_int_str, isTy_tup_tup, isTy_tup_lst, isTy_tup_int, isTy_tup_bool, isTy_tup_non, isTy_tup_str, isTy_lst_lst, isTy_lst_tup, isTy_lst_int, exists_eq_left', exists_eq_left, exists_and_left, exists_eq_right, exists_eq, exists_eq', exists_const, true_and, and_true, and_self, Bool.not_true, Bool.not_false, if_true, if_false, Bool.false_eq_true, reduceIte, reduceCtorEq, List.nodup_nil, decide_eq_true_eq, atI_0, atI_1, atI_2, atI_3, atI_4, atI_5, atI_6, atI_7, atI_8, atI_9, atI_10, atI_11, ixN_3_0, ixN_3_1, ixN_3_2, sh_int, sh_bool, sh_non, and_assoc, nd1, nd_true, eq_self, decide_true, decide_false, Int.cast_ofNat_Int, not_true_eq_false, not_false_eq_true, eqv_ii, eqv_bb, wRaise0, e_raiseG, grK_i, e_raise1, onK_i, e_callX, xa_1, xa_2, xa_3, xa_4, xa_5, xa_6, xa_7, e_many, e_most, e_number, e_row, isLst_l, lsK_l, e_rd, e_br, brS_o, brS_v, arS_o, arS_v, avbK_n, avbK_f, avbK_l, scK_b, scK_i, scK_n, scK_s, e_callS, tmK_t, e_rep, enK_l, e_ienum, wTry, eqv_ss, tpK_v, txK_1, tutK_t, e_repT, e_callT, enTK_t, e_ienumT, r3K_i, e_rng3, e_newD, e_putD, e_lenD, e_listD, dcS_d, dcB_d, pvK_b, pvK_i, tkK_m, tkK_2, e_ssetI, oMinL_c, e_lset, e_lstZ, zlK_c, e_ins, e_callF, $xs,*] $[$l]?)
/-- small steps, or a small round -/
def CB (cs : List (Int × Int)) : Prop := (∀ c ∈ cs, c.1 ≤ 12) ∨ ∃ P : Nat, 1 ≤ P ∧ P ≤ 1000 ∧ ∀ c ∈ cs, c.1 ∣ (P : Int)
theorem CB.sub {cs ds : List (Int × Int)} (h : CB cs) (k : ∀ c ∈ ds, c ∈ cs) : CB ds := by
  rcases h with h | ⟨P, h1, h2, h3⟩
  · exact .inl fun c hc => h c (k c hc)
  · exact .inr ⟨P, h1, h2, fun c hc => h3 c (k c hc)⟩
theorem ck_mono {m n : Int} (h : m ≤ n) {cs : List (Int × Int)} (hc : ∀ c ∈ cs, CkOk m c) : ∀ c ∈ cs, CkOk n c := fun c z => by
  obtain ⟨h1, h2, h3, h4⟩ := hc c z
  exact ⟨h1, by omega, h3, h4⟩
end Dl
end L2

/-! The plain half, 4: comprehensions without deeds; rounds, shares. -/
namespace L2
namespace Dl
open PySem PySem.Spec PyProof.Rows
local macro_rules | `(tactic| dsimp? [$xs,*] $[$l]?) => `(tactic| simp only [wSeq, wNext, wBreak, wCont, wDrop, wRet, wRetN, wIfS, wSet, wAsgT, e_aug, e_setIx, e_par, e_gN, getS_0, getS_s, setS_0, setS_s, e_var, varK_v, varK_o, varK_u, wC, wBin, rdK_v, rdK_t, rdK_s, rdS_v, rdS_o, rdS_u, fzK_v, fzK_t, fzK_s, fzS_v, fzS_o, fzS_l, fzS_u, e_fz, asg_v, asg_t, asg_s, e_tb, tbK_b, wAnd, wOr, wNot, e_notV, e_andV, e_orV, wBV, wIf, e_neg, intK_i, e_oso, wONo, e_rng1, e_rng2, wFNil, wFCons, wANil, wACons, wTup, wLst, e_callB, rdAllK_n, rdAllK_c, wIsi, e_call, wMNil, wMCons, e_ld, lnsOf, avsK_n, avsK_f, avsK_l, lnS_o, lnS_v, lnS_u, poK_n, poK_c, poS_o, inS_0, inS_s, rsK_v, rsK_o, wSl, e_ownF, e_own0, ownB_o, oS_o, oS_v, oS_u, agS_i, muApp, oAdd_i, oAdd_l, oAdd_t, oAdd_s, oSub_i, oMul_i, oFdiv_i, oMod_i, oPow_i, oShl_i, oShr_i, oOr_i, oAndB_i, oLt_i, oLe_i, oGt_i, oGe_i, oEq_i, oNe_i, oEq, oNe, oIx_l, oIx_t, oLen_l, oLen_t, oInt_i, oInt_b, oMax_i, oMin_i, oList_l, oList_t, oTuple_l, oTuple_t, oSorted_l, oSorted_t, oIs_n, oIsN_n, oIs_b, oIsN_b, isNone_n, isNone_t, isNone_l, isNone_i, isNone_s, isNone_b, oSl_l, oSl_t, oIn, gT_t, gC_c, gNil', e_iseq, sqK_l, sqK_t, e_isq, sq2K_l, sq2K_t, e_sset, ssK_l, ssK_t, e_chain, e_lr1, e_lr2, wRev, rvD_l, rvD_t, e_in1, e_in2, negB_f, negB_t, wIZip, zpK_l, zpK_t, zpK_m, e_extend, extR_t, wYes, startEv, kenD_nx, kenD_rt, kenD_bk, kenD_ct, kenD_ex, outK_n, outK_c, otS_o, rvK_v, rvK_t, rvK_s, rvS_v, rvS_o, slOf, lsFrom, wipeE, restE, List.map_cons, List.map_nil, List.length_cons, List.length_nil, List.replicate, List.append_nil, List.cons_append, List.nil_append, List.getElem?_cons_zero, List.getElem?_cons_succ, List.getElem?_nil, List.set_cons_zero, List.set_cons_succ, List.set_nil, Option.getD_some, Option.getD_none, Option.map_some, Option.map_none, Option.some.injEq, Rs.val.injEq, Rs.tmp.injEq, Rs.slot.injEq, Sl.own.injEq, Sl.val.injEq, PyData.int.injEq, PyData.bool.injEq, PyData.str.injEq, PyData.list.injEq, PyData.tuple.injEq, Prod.mk.injEq, Nat.sub_self, Nat.zero_add, Nat.reduceAdd, Nat.reduceSub, Nat.add_zero, isTy_int_int, isTy_bool_int, isTy_int_bool, isTy_bool_bool, isTy_int_tup, isTy_int_lst, isTy_int_non, isTy_int_str, isTy_tup_tup, isTy_tup_lst, isTy_tup_int, isTy_tup_bool, isTy_tup_non, isTy_tup_str, isTy_lst_lst, isTy_lst_tup, isTy_lst_int, exists_eq_left', exists_eq_left, exists_and_left, exists_eq_right, exists_eq, exists_eq', exists_const, true_and, and_true, and_self, Bool.not_true, Bool.not_false, if_true, if_false, Bool.false_eq_true, reduceIte, reduceCtorEq, List.nodup_nil, decide_eq_true_eq, atI_0, atI_1, atI_2, atI_3, atI_4, atI_5, atI_6, atI_7, atI_8, atI_9, atI_10, atI_11, ixN_3_0, ixN_3_1, ixN_3_2, sh_int, sh_bool, sh_non, and_assoc, nd1, nd_true, eq_self, decide_true, decide_false, Int.cast_ofNat_Int, not_true_eq_false, not_false_eq_true, eqv_ii, eqv_bb, wRaise0, e_raiseG, grK_i, e_raise1, onK_i, e_callX, xa_1, xa_2, xa_3, xa_4, xa_5, xa_6, xa_7, e_many, e_most, e_number, e_row, isLst_l, lsK_l, e_rd, e_br, brS_o, brS_v, arS_o, arS_v, avbK_n, avbK_f, avbK_l, scK_b, scK_i, scK_n, scK_s, e_callS, tmK_t, e_rep, enK_l, e_ienum, wTry, eqv_ss, tpK_v, txK_1, tutK_t, e_repT, e_callT, enTK_t, e_ienumT, r3K_i, e_rng3, e_newD, e_putD, e_lenD, e_listD, dcS_d, dcB_d, pvK_b, pvK_i, tkK_m, tkK_2, e_ssetI, oMinL_c, e_lset, e_lstZ, zlK_c, e_ins, e_callF, $xs,*] $[$l]?)
/-- a comprehension that changes nothing -/
theorem lc_fm {β : Type} {vs : List Nat} {g : WG} {ct : WT} {we : WE} {K : Ev → List PyData → Prop} {env : Ev} (en : β → PyData) (f : β → Option PyData) : ∀ (xs : List β) (acc : List PyData),
    (∀ x ∈ xs, ∀ (A : PyData → Ev → Prop) (N : Ev → Prop), (match f x with | some y => A y env | none => N env) → g (en x) env (fun e1 => ct e1 (fun e2 b => if b = true then wFz we e2 (fun e3 y => A y (wipeE e3 vs)) NoX else N (wipeE e2 vs)) NoX)) →
    acc.length + xs.length ≤ sizeLine → K env (acc ++ xs.filterMap f) → wLcE vs g ct we (xs.map en) acc env K
  | [], acc, h, hl, hK => by
    rw [List.filterMap_nil, List.append_nil] at hK
    exact hK
  | x :: xs, acc, h, hl, hK => by
    show g (en x) env (fun e1 => ct e1 (fun e2 b => if b = true then wFz we e2 (fun e3 y => acc.length < sizeLine ∧ wLcE vs g ct we (xs.map en) (acc ++ [y]) (wipeE e3 vs) K) NoX else wLcE vs g ct we (xs.map en) acc (wipeE e2 vs) K) NoX)
    refine h x List.mem_cons_self (fun y e => acc.length < sizeLine ∧ wLcE vs g ct we (xs.map en) (acc ++ [y]) e K) (fun e => wLcE vs g ct we (xs.map en) acc e K) ?_
    simp only [List.length_cons] at hl
    cases e : f x with
    | some y =>
      refine ⟨by omega, lc_fm en f xs _ (fun x hx => h x (List.mem_cons_of_mem _ hx)) (by simp only [List.length_append, List.length_cons, List.length_nil]; omega) ?_⟩
      rw [List.filterMap_cons_some e] at hK
      rw [List.append_assoc]
      exact hK
    | none =>
      rw [List.filterMap_cons_none e] at hK
      exact lc_fm en f xs _ (fun x hx => h x (List.mem_cons_of_mem _ hx)) (by omega) hK
/-- without an if -/
theorem lc_map {β : Type} {vs : List Nat} {g : WG} {we : WE} {K : Ev → List PyData → Prop} {env : Ev} (en : β → PyData) (f : β → PyData) (xs : List β)
    (h : ∀ x ∈ xs, ∀ (A : PyData → Ev → Prop), A (f x) env → g (en x) env (fun e1 => wFz we e1 (fun e3 y => A y (wipeE e3 vs)) NoX))
    (hl : xs.length ≤ sizeLine) (hK : K env (xs.map f)) : wLcE vs g wYes we (xs.map en) [] env K := by
  refine lc_fm en (fun x => some (f x)) xs [] (fun x hx A N hA => ?_) (by simpa using hl) ?_
  · refine h x hx A hA
  · rw [List.nil_append, List.filterMap_eq_map']
    exact hK

/-! ### rounds -/
def prodS : List (Int × Int) → Int
  | [] => 1
  | c :: cs => c.1 * prodS cs
/-- the round, by the loop -/
def rnd (f : Int) : List (Int × Int) → Int
  | [] => f
  | c :: cs => rnd (f * c.1 / (Int.gcd f c.1 : Nat)) cs
theorem lcm_eq {f s : Int} (hf : 0 < f) (hs : 0 < s) : f * s / (Int.gcd f s : Nat) = (Int.lcm f s : Nat) := by
  have h := Int.gcd_mul_lcm f s
  have hg : 0 < Int.gcd f s := Int.gcd_pos_of_ne_zero_left s (Int.ne_of_gt hf)
  refine Int.ediv_eq_of_eq_mul_right (by omega) ?_
  have h2 : (Int.gcd f s : Int) * (Int.lcm f s : Int) = (f.natAbs : Int) * (s.natAbs : Int) := by exact_mod_cast h
  rw [Int.natAbs_of_nonneg (by omega), Int.natAbs_of_nonneg (by omega)] at h2
  exact h2.symm
theorem prodS_pos : ∀ {cs : List (Int × Int)}, (∀ c ∈ cs, 1 ≤ c.1) → 1 ≤ prodS cs
  | [], _ => by decide
  | c :: cs, h => by
    have h1 := h c List.mem_cons_self
    have h2 := prodS_pos fun c hc => h c (List.mem_cons_of_mem _ hc)
    have := Int.mul_pos (show 0 < c.1 by omega) (show 0 < prodS cs by omega)
    show 1 ≤ c.1 * prodS cs
    omega
theorem prodS_dvd : ∀ {cs : List (Int × Int)}, ∀ c ∈ cs, c.1 ∣ prodS cs
  | c :: cs, d, h => by
    rcases List.mem_cons.mp h with z | z
    · subst z; exact Int.dvd_mul_right _ _
    · exact Int.dvd_trans (prodS_dvd d z) (Int.dvd_mul_left _ _)
theorem rnd_spec : ∀ (cs : List (Int × Int)) (f : Int), 0 < f → (∀ c ∈ cs, 1 ≤ c.1) → 0 < rnd f cs ∧ f ∣ rnd f cs ∧ (∀ c ∈ cs, c.1 ∣ rnd f cs) ∧ ∀ m, f ∣ m → (∀ c ∈ cs, c.1 ∣ m) → rnd f cs ∣ m
  | [], f, hf, _ => ⟨hf, Int.dvd_refl _, fun _ h => (by cases h), fun m h _ => h⟩
  | c :: cs, f, hf, hc => by
    have hc1 := hc c List.mem_cons_self
    have e := lcm_eq hf (show 0 < c.1 by omega)
    show 0 < rnd (f * c.1 / (Int.gcd f c.1 : Nat)) cs ∧ f ∣ rnd (f * c.1 / (Int.gcd f c.1 : Nat)) cs ∧ _ ∧ ∀ m, f ∣ m → _ → rnd (f * c.1 / (Int.gcd f c.1 : Nat)) cs ∣ m
    rw [e]
    have hp : 0 < Int.lcm f c.1 := Int.lcm_pos (by omega) (by omega)
    obtain ⟨h1, h2, h3, h4⟩ := rnd_spec cs (Int.lcm f c.1 : Nat) (by omega) fun d hd => hc d (List.mem_cons_of_mem _ hd)
    refine ⟨h1, Int.dvd_trans (Int.dvd_lcm_left _ _) h2, fun d hd => ?_, fun m hm1 hm2 => ?_⟩
    · show d.1 ∣ rnd (f * c.1 / (Int.gcd f c.1 : Nat)) cs
      rw [e]
      rcases List.mem_cons.mp hd with z | z
      · subst z; exact Int.dvd_trans (Int.dvd_lcm_right _ _) h2
      · exact h3 d z
    · refine h4 m ?_ fun d hd => hm2 d (List.mem_cons_of_mem _ hd)
      have q : (Int.lcm f c.1 : Int) ∣ m := by
        have a1 : f ∣ ((m.natAbs : Nat) : Int) := Int.dvd_natAbs.mpr hm1
        have a2 : c.1 ∣ ((m.natAbs : Nat) : Int) := Int.dvd_natAbs.mpr (hm2 c List.mem_cons_self)
        exact Int.dvd_natAbs.mp (Int.natCast_dvd_natCast.mpr (Int.lcm_dvd a1 a2))
      exact q
theorem rnd_le {cs : List (Int × Int)} {f : Int} (hf : 0 < f) (hc : ∀ c ∈ cs, 1 ≤ c.1) : rnd f cs ≤ f * prodS cs := by
  have hp := prodS_pos hc
  refine Int.le_of_dvd (Int.mul_pos hf (by omega)) ((rnd_spec cs f hf hc).2.2.2 _ (Int.dvd_mul_right _ _) fun c h => Int.dvd_trans (prodS_dvd c h) (Int.dvd_mul_left _ _))
theorem nab_lt {x y : Int} {b : Nat} (h0 : 0 ≤ x) (h : x ≤ y) (hy : y.natAbs < b) : x.natAbs < b := by omega
theorem log_of {x : Int} (h0 : 0 < x) (h : x.natAbs < 2 ^ 8000) : x.natAbs.log2 < 9000 :=
  Nat.lt_trans ((Nat.log2_lt (by omega)).mpr h) (by decide)
/-- clocks in a list or a tuple, of steps from 1 on, of no overgreat product -/
def RndOk (ds : List PyData) (Q : List (Int × Int) → Prop) : Prop := ∃ cs, ds = cks cs ∧ (∀ c ∈ cs, 1 ≤ c.1) ∧ (prodS cs).natAbs < 2 ^ 8000 ∧ Q cs
def sp_round_of : Spc := fun avs Kr _ => match avs with
  | [.val (.tuple ds)] => RndOk ds fun cs => Kr [] (.val (.int (rnd 1 cs)))
  | [.val (.list ds)] => RndOk ds fun cs => Kr [] (.val (.int (rnd 1 cs)))
  | _ => False
def w_round_of_B1 : WS :=
  (wSet 1 (wBin oFdiv (wBin oMul (wVar 1) (wVar 2)) (wCall 2 sp_divisor_of (wMCons (wVar 1) (wMCons (wVar 2) wMNil)))))
def w_round_of_L1 : WS :=
  wFor (wISeq (wVar 0)) (gT 2 (gCons' (gN 2) (gCons' (gN 3) gNil'))) w_round_of_B1
def w_round_of_R1 : WS :=
  (wRet (wVar 1))
/-- round_of: 0 clocks, 1 found, 2 step, 3 rest -/
def w_round_of : WS :=
  (wSeq (wSet 1 (wC (.int 1)))
    (wSeq w_round_of_L1
    w_round_of_R1))

theorem l_round_of {d : PyData} {x2 x3 : Sl} {cs : List (Int × Int)} {k : Ken} (hd : d = .tuple (cks cs) ∨ d = .list (cks cs)) (hc : ∀ c ∈ cs, 1 ≤ c.1) (hb : (prodS cs).natAbs < 2 ^ 8000) (hk : ∀ x2 x3, k.nx [.val d, .val (.int (rnd 1 cs)), x2, x3]) : w_round_of_L1 [.val d, .val (.int 1), x2, x3] k := by
  have main : wEach (gT 2 (gCons' (gN 2) (gCons' (gN 3) gNil'))) w_round_of_B1 (cks cs) [.val d, .val (.int 1), x2, x3] k := by
    refine wEach_ind (fun ds e => ∃ (f : Int) (r : List (Int × Int)) (x2 x3 : Sl), ds = cks r ∧ e = [.val d, .val (.int f), x2, x3] ∧ 0 < f ∧ (∀ c ∈ r, 1 ≤ c.1) ∧ f * prodS r ≤ prodS cs ∧ rnd f r = rnd 1 cs) ?_ ?_ _ _ ⟨1, cs, x2, x3, rfl, rfl, by decide, hc, by omega, rfl⟩
    · rintro e ⟨f, r, x2, x3, h1, rfl, h3, h4, h5, h6⟩
      cases r with
      | cons _ _ => cases h1
      | nil =>
        have e : f = rnd 1 cs := h6
        rw [e]
        exact hk _ _
    · rintro d0 r0 e ⟨f, r, x2, x3, h1, rfl, h3, h4, h5, h6⟩ ih
      cases r with
      | nil => cases h1
      | cons c r =>
        cases h1
        have c1 := h4 c List.mem_cons_self
        have hr : ∀ c ∈ r, 1 ≤ c.1 := fun c hc => h4 c (List.mem_cons_of_mem _ hc)
        have hp := prodS_pos hr
        have e1 : f * prodS (c :: r) = f * c.1 * prodS r := (Int.mul_assoc _ _ _).symm
        have hfc : 0 < f * c.1 := Int.mul_pos h3 (by omega)
        have q1 : f * c.1 ≤ f * c.1 * prodS r := by
          have := Int.mul_le_mul_of_nonneg_left hp (show 0 ≤ f * c.1 by omega)
          rwa [Int.mul_one] at this
        have q2 : f ≤ f * c.1 := by
          have := Int.mul_le_mul_of_nonneg_left c1 (show 0 ≤ f by omega)
          rwa [Int.mul_one] at this
        have q3 : c.1 ≤ f * c.1 := by
          have := Int.mul_le_mul_of_nonneg_right (show 1 ≤ f by omega) (show 0 ≤ c.1 by omega)
          rwa [Int.one_mul] at this
        rw [e1] at h5
        have bf : f.natAbs < 2 ^ 8000 := nab_lt (by omega) (by omega) hb
        have bc : c.1.natAbs < 2 ^ 8000 := nab_lt (by omega) (by omega) hb
        have hg : 0 < Int.gcd f c.1 := Int.gcd_pos_of_ne_zero_left _ (by omega)
        have hgl : (Int.gcd f c.1 : Int) ≤ f := Int.gcd_le_left _ h3
        dsimp? [w_round_of_B1, ck, sp_divisor_of]
        refine ⟨mulx_ok bf bc (by decide), by omega, by omega, by omega, log_of (by omega) (nab_lt (by omega) hgl bf), ih _ ⟨_, r, _, _, rfl, rfl, ?_, hr, ?_, h6⟩⟩
        · rw [lcm_eq h3 (by omega)]
          have := Int.lcm_pos (show f ≠ 0 by omega) (show c.1 ≠ 0 by omega)
          omega
        · have d1 : f * c.1 / (Int.gcd f c.1 : Nat) ≤ f * c.1 := by
            rw [lcm_eq h3 (by omega)]
            exact Int.le_of_dvd hfc (by
              have a1 : f ∣ (((f * c.1).natAbs : Nat) : Int) := Int.dvd_natAbs.mpr (Int.dvd_mul_right _ _)
              have a2 : c.1 ∣ (((f * c.1).natAbs : Nat) : Int) := Int.dvd_natAbs.mpr (Int.dvd_mul_left _ _)
              exact Int.dvd_natAbs.mp (Int.natCast_dvd_natCast.mpr (Int.lcm_dvd a1 a2)))
          exact Int.le_trans (Int.mul_le_mul_of_nonneg_right d1 (by omega)) h5
  rcases hd with rfl | rfl
  · dsimp? [w_round_of_L1, wFor]
    exact main
  · dsimp? [w_round_of_L1, wFor]
    exact main
theorem vc_round_of : ∀ avs Kr Kx, avs.length = 1 → sp_round_of avs Kr Kx → lsFrom 0 avs = [] ∧ w_round_of (startEv 4 avs) (kenD [] Kr Kx) := by
  intro avs Kr Kx hl h
  unfold sp_round_of at h
  split at h
  · obtain ⟨cs, rfl, h1, h2, q⟩ := h
    refine ⟨rfl, ?_⟩
    dsimp? [w_round_of]
    refine l_round_of (.inl rfl) h1 h2 fun x2 x3 => ?_
    dsimp? [w_round_of_R1]
    exact q
  · obtain ⟨cs, rfl, h1, h2, q⟩ := h
    refine ⟨rfl, ?_⟩
    dsimp? [w_round_of]
    refine l_round_of (.inr rfl) h1 h2 fun x2 x3 => ?_
    dsimp? [w_round_of_R1]
    exact q
  · exact h.elim
end Dl
end L2

/-! The plain half, 5: shares. -/
namespace L2
namespace Dl
open PySem PySem.Spec PyProof.Rows
local macro_rules | `(tactic| dsimp? [$xs,*] $[$l]?) => `(tactic| simp only [wSeq, wNext, wBreak, wCont, wDrop, wRet, wRetN, wIfS, wSet, wAsgT, e_aug, e_setIx, e_par, e_gN, getS_0, getS_s, setS_0, setS_s, e_var, varK_v, varK_o, varK_u, wC, wBin, rdK_v, rdK_t, rdK_s, rdS_v, rdS_o, rdS_u, fzK_v, fzK_t, fzK_s, fzS_v, fzS_o, fzS_l, fzS_u, e_fz, asg_v, asg_t, asg_s, e_tb, tbK_b, wAnd, wOr, wNot, e_notV, e_andV, e_orV, wBV, wIf, e_neg, intK_i, e_oso, wONo, e_rng1, e_rng2, wFNil, wFCons, wANil, wACons, wTup, wLst, e_callB, rdAllK_n, rdAllK_c, wIsi, e_call, wMNil, wMCons, e_ld, lnsOf, avsK_n, avsK_f, avsK_l, lnS_o, lnS_v, lnS_u, poK_n, poK_c, poS_o, inS_0, inS_s, rsK_v, rsK_o, wSl, e_ownF, e_own0, ownB_o, oS_o, oS_v, oS_u, agS_i, muApp, oAdd_i, oAdd_l, oAdd_t, oAdd_s, oSub_i, oMul_i, oFdiv_i, oMod_i, oPow_i, oShl_i, oShr_i, oOr_i, oAndB_i, oLt_i, oLe_i, oGt_i, oGe_i, oEq_i, oNe_i, oEq, oNe, oIx_l, oIx_t, oLen_l, oLen_t, oInt_i, oInt_b, oMax_i, oMin_i, oList_l, oList_t, oTuple_l, oTuple_t, oSorted_l, oSorted_t, oIs_n, oIsN_n, oIs_b, oIsN_b, isNone_n, isNone_t, isNone_l, isNone_i, isNone_s, isNone_b, oSl_l, oSl_t, oIn, gT_t, gC_c, gNil', e_iseq, sqK_l, sqK_t, e_isq, sq2K_l, sq2K_t, e_sset, ssK_l, ssK_t, e_chain, e_lr1, e_lr2, wRev, rvD_l, rvD_t, e_in1, e_in2, negB_f, negB_t, wIZip, zpK_l, zpK_t, zpK_m, e_extend, extR_t, wYes, startEv, kenD_nx, kenD_rt, kenD_bk, kenD_ct, kenD_ex, outK_n, outK_c, otS_o, rvK_v, rvK_t, rvK_s, rvS_v, rvS_o, slOf, lsFrom, wipeE, restE, List.map_cons, List.map_nil, List.length_cons, List.length_nil, List.replicate, List.append_nil, List.cons_append, List.nil_append, List.getElem?_cons_zero, List.getElem?_cons_succ, List.getElem?_nil, List.set_cons_zero, List.set_cons_succ, List.set_nil, Option.getD_some, Option.getD_none, Option.map_some, Option.map_none, Option.some.injEq, Rs.val.injEq, Rs.tmp.injEq, Rs.slot.injEq, Sl.own.injEq, Sl.val.injEq, PyData.int.injEq, PyData.bool.injEq, PyData.str.injEq, PyData.list.injEq, PyData.tuple.injEq, Prod.mk.injEq, Nat.sub_self, Nat.zero_add, Nat.reduceAdd, Nat.reduceSub, Nat.add_zero, isTy_int_int, isTy_bool_int, isTy_int_bool, isTy_bool_bool, isTy_int_tup, isTy_int_lst, isTy_int_non, isTy_int_str, isTy_tup_tup, isTy_tup_lst, isTy_tup_int, isTy_tup_bool, isTy_tup_non, isTy_tup_str, isTy_lst_lst, isTy_lst_tup, isTy_lst_int, exists_eq_left', exists_eq_left, exists_and_left, exists_eq_right, exists_eq, exists_eq', exists_const, true_and, and_true, and_self, Bool.not_true, Bool.not_false, if_true, if_false, Bool.false_eq_true, reduceIte, reduceCtorEq, List.nodup_nil, decide_eq_true_eq, atI_0, atI_1, atI_2, atI_3, atI_4, atI_5, atI_6, atI_7, atI_8, atI_9, atI_10, atI_11, ixN_3_0, ixN_3_1, ixN_3_2, sh_int, sh_bool, sh_non, and_assoc, nd1, nd_true, eq_self, decide_true, decide_false, Int.cast_ofNat_Int, not_true_eq_false, not_false_eq_true, eqv_ii, eqv_bb, wRaise0, e_raiseG, grK_i, e_raise1, onK_i, e_callX, xa_1, xa_2, xa_3, xa_4, xa_5, xa_6, xa_7, e_many, e_most, e_number, e_row, isLst_l, lsK_l, e_rd, e_br, brS_o, brS_v, arS_o, arS_v, avbK_n, avbK_f, avbK_l, scK_b, scK_i, scK_n, scK_s, e_callS, tmK_t, e_rep, enK_l, e_ienum, wTry, eqv_ss, tpK_v, txK_1, tutK_t, e_repT, e_callT, enTK_t, e_ienumT, r3K_i, e_rng3, e_newD, e_putD, e_lenD, e_listD, dcS_d, dcB_d, pvK_b, pvK_i, tkK_m, tkK_2, e_ssetI, oMinL_c, e_lset, e_lstZ, zlK_c, e_ins, e_callF, $xs,*] $[$l]?)
def sumS (R : Int) (cs : List (Int × Int)) : Int := (cs.map fun c => R / c.1).sum
def topG (cs : List (Int × Int)) : Int := (Int.gcd (rnd 1 cs) (sumS (rnd 1 cs) cs) : Nat)
def sp_shares_of : Spc := fun avs Kr _ => match avs with
  | [.val (.tuple ds)] => RndOk ds fun cs => cs.length ≤ 100000 ∧ Kr [] (.val (.tuple [.int (sumS (rnd 1 cs) cs / topG cs), .int (rnd 1 cs / topG cs)]))
  | [.val (.list ds)] => RndOk ds fun cs => cs.length ≤ 100000 ∧ Kr [] (.val (.tuple [.int (sumS (rnd 1 cs) cs / topG cs), .int (rnd 1 cs / topG cs)]))
  | _ => False
def w_shares_of_C1 : WE :=
  wLc [4, 5] (wISeq (wVar 0)) (gT 2 (gCons' (gN 4) (gCons' (gN 5) gNil'))) wYes (wBin oFdiv (wVar 1) (wVar 4))
/-- shares_of: 0 clocks, 1 bottom, 2 top, 3 share, 4 step, 5 rest -/
def w_shares_of : WS :=
  (wSeq (wSet 1 (wCall 1 sp_round_of (wMCons (wVar 0) wMNil)))
    (wSeq (wSet 2 (wCallB oSum (wACons w_shares_of_C1 wANil)))
    (wSeq (wSet 3 (wCall 2 sp_divisor_of (wMCons (wVar 1) (wMCons (wVar 2) wMNil))))
    (wRet (wTup (wFCons (wBin oFdiv (wVar 2) (wVar 3)) (wFCons (wBin oFdiv (wVar 1) (wVar 3)) wFNil)))))))

theorem sum_nonneg : ∀ {l : List Int}, (∀ x ∈ l, 0 ≤ x) → 0 ≤ l.sum
  | [], _ => by decide
  | x :: l, h => by
    have h1 := h x List.mem_cons_self
    have h2 := sum_nonneg fun y hy => h y (List.mem_cons_of_mem _ hy)
    rw [List.sum_cons]
    omega
theorem sumS_nonneg {R : Int} {cs : List (Int × Int)} (hR : 0 ≤ R) (hc : ∀ c ∈ cs, 1 ≤ c.1) : 0 ≤ sumS R cs :=
  sum_nonneg fun x hx => by
    obtain ⟨c, h, rfl⟩ := List.mem_map.mp hx
    exact Int.ediv_nonneg hR (by have := hc c h; omega)
theorem small100000 {n : Nat} (h : n ≤ 100000) : n ≤ sizeLine := Nat.le_trans h (by decide)
theorem m_shares_of {d : PyData} {cs : List (Int × Int)} {k : Ken} (hd : d = .tuple (cks cs) ∨ d = .list (cks cs)) (hc : ∀ c ∈ cs, 1 ≤ c.1) (hb : (prodS cs).natAbs < 2 ^ 8000) (hl : cs.length ≤ 100000)
    (hk : ∀ env, k.rt (.val d :: env) (.val (.tuple [.int (sumS (rnd 1 cs) cs / topG cs), .int (rnd 1 cs / topG cs)]))) : w_shares_of [.val d, .un, .un, .un, .un, .un] k := by
  obtain ⟨r1, r2, r3, r4⟩ := rnd_spec cs 1 (by decide) hc
  have rl : rnd 1 cs ≤ prodS cs := by have := rnd_le (f := 1) (by decide) hc; omega
  have rb : (rnd 1 cs).natAbs < 2 ^ 8000 := nab_lt (by omega) rl hb
  have sn := sumS_nonneg (R := rnd 1 cs) (by omega) hc
  have hg : 0 < Int.gcd (rnd 1 cs) (sumS (rnd 1 cs) cs) := Int.gcd_pos_of_ne_zero_left _ (by omega)
  have hgl : (Int.gcd (rnd 1 cs) (sumS (rnd 1 cs) cs) : Int) ≤ rnd 1 cs := Int.gcd_le_left _ r1
  have elt : ∀ c ∈ cs, ∀ (A : PyData → Ev → Prop) (x2 x3 : Sl), A (.int (rnd 1 cs / c.1)) [.val d, .val (.int (rnd 1 cs)), x2, x3, .un, .un] →
      (gT 2 (gCons' (gN 4) (gCons' (gN 5) gNil'))) (ck c) [.val d, .val (.int (rnd 1 cs)), x2, x3, .un, .un] (fun e1 => wFz (wBin oFdiv (wVar 1) (wVar 4)) e1 (fun e3 y => A y (wipeE e3 [4, 5])) NoX) := fun c h A x2 x3 hA => by
    have c1 := hc c h
    have cl : c.1 ≤ rnd 1 cs := Int.le_of_dvd r1 (r3 c h)
    dsimp? [ck]
    exact ⟨by omega, log_of (by omega) (nab_lt (by omega) cl rb), hA⟩
  have fin : ∀ (x4 x5 : Sl), wSeq (wSet 3 (wCall 2 sp_divisor_of (wMCons (wVar 1) (wMCons (wVar 2) wMNil)))) (wRet (wTup (wFCons (wBin oFdiv (wVar 2) (wVar 3)) (wFCons (wBin oFdiv (wVar 1) (wVar 3)) wFNil))))
      [.val d, .val (.int (rnd 1 cs)), .val (.int (sumS (rnd 1 cs) cs)), .un, x4, x5] k := fun x4 x5 => by
    dsimp? [sp_divisor_of]
    exact ⟨by omega, sn, by omega, log_of (by omega) (nab_lt (by omega) hgl rb), by omega, log_of (by omega) (nab_lt (by omega) hgl rb), by decide, hk _⟩
  unfold w_shares_of
  rcases hd with rfl | rfl
  · refine seq_cut fun R hR => ?_
    dsimp? [sp_round_of]
    refine ⟨cs, rfl, hc, hb, hR _ ?_⟩
    refine seq_cut fun R hR => ?_
    dsimp? [w_shares_of_C1, wLc, oSum]
    refine lc_map ck (fun c => .int (rnd 1 cs / c.1)) cs (fun c h A hA => elt c h A _ _ hA) (small100000 hl) ?_
    dsimp? []
    exact ⟨cs.map fun (c : Int × Int) => rnd 1 cs / c.1, by rw [List.map_map]; rfl, hR _ (fin _ _)⟩
  · refine seq_cut fun R hR => ?_
    dsimp? [sp_round_of]
    refine ⟨cs, rfl, hc, hb, hR _ ?_⟩
    refine seq_cut fun R hR => ?_
    dsimp? [w_shares_of_C1, wLc, oSum]
    refine lc_map ck (fun c => .int (rnd 1 cs / c.1)) cs (fun c h A hA => elt c h A _ _ hA) (small100000 hl) ?_
    dsimp? []
    exact ⟨cs.map fun (c : Int × Int) => rnd 1 cs / c.1, by rw [List.map_map]; rfl, hR _ (fin _ _)⟩
theorem vc_shares_of : ∀ avs Kr Kx, avs.length = 1 → sp_shares_of avs Kr Kx → lsFrom 0 avs = [] ∧ w_shares_of (startEv 6 avs) (kenD [] Kr Kx) := by
  intro avs Kr Kx hl h
  unfold sp_shares_of at h
  split at h
  · obtain ⟨cs, rfl, h1, h2, h3, q⟩ := h
    refine ⟨rfl, m_shares_of (.inl rfl) h1 h2 h3 fun env => ?_⟩
    dsimp? []
    exact q
  · obtain ⟨cs, rfl, h1, h2, h3, q⟩ := h
    refine ⟨rfl, m_shares_of (.inr rfl) h1 h2 h3 fun env => ?_⟩
    dsimp? []
    exact q
  · exact h.elim
theorem prodS_le {m : Int} (hm : 1 ≤ m) : ∀ {cs : List (Int × Int)}, (∀ c ∈ cs, 1 ≤ c.1 ∧ c.1 ≤ m) → prodS cs ≤ m ^ cs.length
  | [], _ => by
    show (1 : Int) ≤ m ^ 0
    rw [Int.pow_zero]
    exact Int.le_refl _
  | c :: cs, h => by
    have h1 := h c List.mem_cons_self
    have h2 := prodS_le hm fun d hd => h d (List.mem_cons_of_mem _ hd)
    have h3 := prodS_pos fun d hd => (h d (List.mem_cons_of_mem _ hd)).1
    show c.1 * prodS cs ≤ m ^ (cs.length + 1)
    rw [Int.pow_succ, Int.mul_comm]
    exact Int.mul_le_mul h2 h1.2 (by omega) (Int.le_trans (by omega) h2)
theorem prodS_b {cs : List (Int × Int)} (h : ∀ c ∈ cs, CkOk 1000 c) (hl : cs.length ≤ 100) : (prodS cs).natAbs < 2 ^ 8000 := by
  have h1 := prodS_le (m := 1000) (by decide) fun c hc => ⟨(h c hc).1, (h c hc).2.1⟩
  have h0 := prodS_pos fun c hc => (h c hc).1
  have h2 : (1000 : Int) ^ cs.length ≤ 1000 ^ 100 := by
    have : (1000 : Nat) ^ cs.length ≤ 1000 ^ 100 := Nat.pow_le_pow_right (by decide) hl
    exact_mod_cast this
  have h3 : ((1000 : Int) ^ 100).natAbs < 2 ^ 8000 := by decide +kernel
  exact nab_lt (by omega) (Int.le_trans h1 h2) h3
/-- for x in .. of ints -/
theorem each_ints {i : Nat} {t : WS} {k : Ken} (J : Ev → Prop) (fin : ∀ e, J e → k.nx e) (step : ∀ (n : Int) e (R : Ev → Prop), J e → (∀ e2, J e2 → R e2) → t (e.set i (.val (.int n))) { k with nx := R, ct := R, bk := k.nx }) :
    ∀ (ds : List PyData) e, (∀ d ∈ ds, ∃ n : Int, d = .int n) → J e → wEach (gN i) t ds e k
  | [], e, _, h => fin e h
  | d :: ds, e, hd, h => by
    obtain ⟨n, rfl⟩ := hd d List.mem_cons_self
    exact step n e _ h fun e2 h2 => each_ints J fin step ds e2 (fun d q => hd d (List.mem_cons_of_mem _ q)) h2
theorem take_ints {ns : List Int} (lo hi : Option Int) : cutD (ns.map PyData.int) lo hi = (cutD ns lo hi).map .int := by
  unfold cutD
  rw [List.length_map, List.map_take, List.map_drop]
theorem cut_len {α : Type} {xs : List α} (lo hi : Option Int) : (cutD xs lo hi).length ≤ xs.length := by
  unfold cutD
  rw [List.length_take, List.length_drop]
  omega
/-- [cell] + script[a:b] -/
theorem cells_ints {ns : List Int} {n : Int} {lo hi : Option Int} : ∀ d ∈ PyData.int n :: cutD (ns.map PyData.int) lo hi, ∃ n : Int, d = .int n := by
  intro d hd
  rcases List.mem_cons.mp hd with z | z
  · exact ⟨_, z⟩
  · rw [take_ints] at z
    obtain ⟨m, _, rfl⟩ := List.mem_map.mp z
    exact ⟨_, rfl⟩
theorem cells_len {ns : List Int} {lo hi : Option Int} (h : ns.length ≤ 63) : 1 + (cutD (ns.map PyData.int) lo hi).length ≤ sizeLine := by
  have := cut_len (xs := ns.map PyData.int) lo hi
  rw [List.length_map] at this
  rw [sizeLine_eq]
  omega
end Dl
end L2

/-! The plain half, 6: two clocks' meeting. -/
namespace L2
namespace Dl
open PySem PySem.Spec PyProof.Rows
local macro_rules | `(tactic| dsimp? [$xs,*] $[$l]?) => `(tactic| simp only [wSeq, wNext, wBreak, wCont, wDrop, wRet, wRetN, wIfS, wSet, wAsgT, e_aug, e_setIx, e_par, e_gN, getS_0, getS_s, setS_0, setS_s, e_var, varK_v, varK_o, varK_u, wC, wBin, rdK_v, rdK_t, rdK_s, rdS_v, rdS_o, rdS_u, fzK_v, fzK_t, fzK_s, fzS_v, fzS_o, fzS_l, fzS_u, e_fz, asg_v, asg_t, asg_s, e_tb, tbK_b, wAnd, wOr, wNot, e_notV, e_andV, e_orV, wBV, wIf, e_neg, intK_i, e_oso, wONo, e_rng1, e_rng2, wFNil, wFCons, wANil, wACons, wTup, wLst, e_callB, rdAllK_n, rdAllK_c, wIsi, e_call, wMNil, wMCons, e_ld, lnsOf, avsK_n, avsK_f, avsK_l, lnS_o, lnS_v, lnS_u, poK_n, poK_c, poS_o, inS_0, inS_s, rsK_v, rsK_o, wSl, e_ownF, e_own0, ownB_o, oS_o, oS_v, oS_u, agS_i, muApp, oAdd_i, oAdd_l, oAdd_t, oAdd_s, oSub_i, oMul_i, oFdiv_i, oMod_i, oPow_i, oShl_i, oShr_i, oOr_i, oAndB_i, oLt_i, oLe_i, oGt_i, oGe_i, oEq_i, oNe_i, oEq, oNe, oIx_l, oIx_t, oLen_l, oLen_t, oInt_i, oInt_b, oMax_i, oMin_i, oList_l, oList_t, oTuple_l, oTuple_t, oSorted_l, oSorted_t, oIs_n, oIsN_n, oIs_b, oIsN_b, isNone_n, isNone_t, isNone_l, isNone_i, isNone_s, isNone_b, oSl_l, oSl_t, oIn, gT_t, gC_c, gNil', e_iseq, sqK_l, sqK_t, e_isq, sq2K_l, sq2K_t, e_sset, ssK_l, ssK_t, e_chain, e_lr1, e_lr2, wRev, rvD_l, rvD_t, e_in1, e_in2, negB_f, negB_t, wIZip, zpK_l, zpK_t, zpK_m, e_extend, extR_t, wYes, startEv, kenD_nx, kenD_rt, kenD_bk, kenD_ct, kenD_ex, outK_n, outK_c, otS_o, rvK_v, rvK_t, rvK_s, rvS_v, rvS_o, slOf, lsFrom, wipeE, restE, List.map_cons, List.map_nil, List.length_cons, List.length_nil, List.replicate, List.append_nil, List.cons_append, List.nil_append, List.getElem?_cons_zero, List.getElem?_cons_succ, List.getElem?_nil, List.set_cons_zero, List.set_cons_succ, List.set_nil, Option.getD_some, Option.getD_none, Option.map_some, Option.map_none, Option.some.injEq, Rs.val.injEq, Rs.tmp.injEq, Rs.slot.injEq, Sl.own.injEq, Sl.val.injEq, PyData.int.injEq, PyData.bool.injEq, PyData.str.injEq, PyData.list.injEq, PyData.tuple.injEq, Prod.mk.injEq, Nat.sub_self, Nat.zero_add, Nat.reduceAdd, Nat.reduceSub, Nat.add_zero, isTy_int_int, isTy_bool_int, isTy_int_bool, isTy_bool_bool, isTy_int_tup, isTy_int_lst, isTy_int_non, isTy_int_str, isTy_tup_tup, isTy_tup_lst, isTy_tup_int, isTy_tup_bool, isTy_tup_non, isTy_tup_str, isTy_lst_lst, isTy_lst_tup, isTy_lst_int, exists_eq_left', exists_eq_left, exists_and_left, exists_eq_right, exists_eq, exists_eq', exists_const, true_and, and_true, and_self, Bool.not_true, Bool.not_false, if_true, if_false, Bool.false_eq_true, reduceIte, reduceCtorEq, List.nodup_nil, decide_eq_true_eq, atI_0, atI_1, atI_2, atI_3, atI_4, atI_5, atI_6, atI_7, atI_8, atI_9, atI_10, atI_11, ixN_3_0, ixN_3_1, ixN_3_2, sh_int, sh_bool, sh_non, and_assoc, nd1, nd_true, eq_self, decide_true, decide_false, Int.cast_ofNat_Int, not_true_eq_false, not_false_eq_true, eqv_ii, eqv_bb, wRaise0, e_raiseG, grK_i, e_raise1, onK_i, e_callX, xa_1, xa_2, xa_3, xa_4, xa_5, xa_6, xa_7, e_many, e_most, e_number, e_row, isLst_l, lsK_l, e_rd, e_br, brS_o, brS_v, arS_o, arS_v, avbK_n, avbK_f, avbK_l, scK_b, scK_i, scK_n, scK_s, e_callS, tmK_t, e_rep, enK_l, e_ienum, wTry, eqv_ss, tpK_v, txK_1, tutK_t, e_repT, e_callT, enTK_t, e_ienumT, r3K_i, e_rng3, e_newD, e_putD, e_lenD, e_listD, dcS_d, dcB_d, pvK_b, pvK_i, tkK_m, tkK_2, e_ssetI, oMinL_c, e_lset, e_lstZ, zlK_c, e_ins, e_callF, $xs,*] $[$l]?)
def sp_back_of : Spc := fun avs Kr _ => match avs with
  | [.val (.int a), .val (.int m)] => 1 ≤ m ∧ m.natAbs < 2 ^ 8000 ∧ ∀ b, 0 ≤ b → b < m → m ∣ a * b - (Int.gcd a m : Nat) → Kr [] (.val (.int b))
  | _ => False
def w_back_of_T1 : WT :=
  (wTB (wBin oGt (wVar 5) (wC (.int 0))))
def w_back_of_B1 : WS :=
  (wSeq (wSet 6 (wBin oFdiv (wVar 4) (wVar 5)))
    (wSeq (wPar 2 3 (wFCons (wVar 3) (wFCons (wBin oSub (wVar 2) (wBin oMul (wVar 6) (wVar 3))) wFNil)))
    (wPar 4 5 (wFCons (wVar 5) (wFCons (wBin oSub (wVar 4) (wBin oMul (wVar 6) (wVar 5))) wFNil)))))
def w_back_of_L1 : WS :=
  wWhile w_back_of_T1 w_back_of_B1
def w_back_of_R1 : WS :=
  (wRet (wBin oMod (wVar 2) (wVar 1)))
/-- back_of: 0 one, 1 other, 2 before, 3 now, 4 left, 5 right, 6 often -/
def w_back_of : WS :=
  (wSeq (wAsgT (wTup (wFCons (wC (.int 0)) (wFCons (wC (.int 1)) wFNil))) (gT 2 (gCons' (gN 2) (gCons' (gN 3) gNil'))))
    (wSeq (wPar 4 5 (wFCons (wVar 1) (wFCons (wBin oMod (wVar 0) (wVar 1)) wFNil)))
    (wSeq w_back_of_L1
    w_back_of_R1)))

theorem vc_back_of : ∀ avs Kr Kx, avs.length = 2 → sp_back_of avs Kr Kx → lsFrom 0 avs = [] ∧ w_back_of (startEv 7 avs) (kenD [] Kr Kx) := by
  intro avs Kr Kx hl h
  unfold sp_back_of at h
  split at h
  · rename_i a m
    obtain ⟨hm, hb, q⟩ := h
    refine ⟨rfl, ?_⟩
    dsimp? [w_back_of]
    have e0 := Int.emod_nonneg a (show m ≠ 0 by omega)
    have e1 := Int.emod_lt_of_pos a (show 0 < m by omega)
    refine ⟨by decide, by omega, ?_⟩
    refine ⟨fun n e => ∃ (p q l r P Q : Int) (x6 : Sl), e = [.val (.int a), .val (.int m), .val (.int p), .val (.int q), .val (.int l), .val (.int r), x6] ∧ 0 < l ∧ l ≤ m ∧ 0 ≤ r ∧ r < l ∧ m ∣ l - p * a ∧ m ∣ r - q * a ∧ Int.gcd l r = Int.gcd a m ∧
      0 ≤ P ∧ -P ≤ p ∧ p ≤ P ∧ 0 ≤ Q ∧ -Q ≤ q ∧ q ≤ Q ∧ P * r + Q * l ≤ m ∧ n = r.toNat,
      ⟨_, 0, 1, m, a % m, 0, 1, _, rfl, by omega, by omega, e0, e1, ?_, ?_, gcd_mod a m, by omega, by omega, by omega, by omega, by omega, by omega, by omega, rfl⟩, ?_⟩
    · rw [Int.zero_mul, Int.sub_zero]
      exact Int.dvd_refl _
    · rw [Int.one_mul, Int.emod_def, show a - m * (a / m) - a = m * (-(a / m)) by grind]
      exact Int.dvd_mul_right _ _
    rintro n e ⟨p, q0, l, r, P, Q, x6, rfl, l0, lm, r0, rl, d1, d2, hg, P0, p1, p2, Q0, q1, q2, hS, rfl⟩
    dsimp? [w_back_of_T1, w_back_of_B1]
    have Pr : 0 ≤ P * r := Int.mul_nonneg P0 r0
    have Ql : Q ≤ Q * l := by
      have := Int.mul_le_mul_of_nonneg_left (show 1 ≤ l by omega) Q0
      rwa [Int.mul_one] at this
    split
    · rename_i hr
      have o0 : 0 ≤ l / r := Int.ediv_nonneg (by omega) r0
      have o1 : l / r ≤ l := Int.ediv_le_self _ (by omega)
      have em : l - l / r * r = l % r := by rw [Int.emod_def, Int.mul_comm]
      have m0 := Int.emod_nonneg l (show r ≠ 0 by omega)
      have m1 := Int.emod_lt_of_pos l hr
      have bo : (l / r).natAbs < 2 ^ 8000 := nab_lt o0 (show l / r ≤ m by omega) hb
      have bq : q0.natAbs < 2 ^ 8000 := by
        have h1 : q0.natAbs ≤ Q.natAbs := by omega
        exact Nat.lt_of_le_of_lt h1 (nab_lt Q0 (show Q ≤ m by omega) hb)
      have br : r.natAbs < 2 ^ 8000 := nab_lt r0 (show r ≤ m by omega) hb
      have a1 : l / r * q0 ≤ l / r * Q := Int.mul_le_mul_of_nonneg_left q2 o0
      have a2 : l / r * (-Q) ≤ l / r * q0 := Int.mul_le_mul_of_nonneg_left q1 o0
      have a3 : 0 ≤ l / r * Q := Int.mul_nonneg o0 Q0
      have a4 : l / r * (-Q) = -(l / r * Q) := Int.mul_neg _ _
      refine ⟨hr, log_of hr br, mulx_ok bo bq (by decide), mulx_ok bo br (by decide), (l - l / r * r).toNat, by omega, _, _, _, _, Q, P + l / r * Q, _, rfl, hr, by omega, by omega, by omega, d2, ?_, ?_, Q0, q1, q2, by omega, by omega, by omega, ?_, rfl⟩
      · have : l - l / r * r - (p - l / r * q0) * a = (l - p * a) - l / r * (r - q0 * a) := by grind
        rw [this]
        exact Int.dvd_sub d1 (Int.dvd_mul_of_dvd_right d2)
      · rw [em, gcd_mod]
        exact hg
      · have : Q * (l - l / r * r) + (P + l / r * Q) * r = P * r + Q * l := by grind
        rw [this]
        exact hS
    · have : r = 0 := by omega
      subst this
      dsimp? [w_back_of_R1]
      refine ⟨by omega, q _ (Int.emod_nonneg _ (by omega)) (Int.emod_lt_of_pos _ (by omega)) ?_⟩
      rw [Int.gcd_zero_right] at hg
      have hl : l = (Int.gcd a m : Nat) := by omega
      rw [← hl, Int.emod_def, show a * (p - m * (p / m)) - l = -(l - p * a) - m * (a * (p / m)) by grind]
      exact Int.dvd_sub (Int.dvd_neg.mpr d1) (Int.dvd_mul_right _ _)
  · exact h.elim
end Dl
end L2

/-! The plain half, 7: two clocks' meeting, told. -/
namespace L2
namespace Dl
open PySem PySem.Spec PyProof.Rows
local macro_rules | `(tactic| dsimp? [$xs,*] $[$l]?) => `(tactic| simp only [wSeq, wNext, wBreak, wCont, wDrop, wRet, wRetN, wIfS, wSet, wAsgT, e_aug, e_setIx, e_par, e_gN, getS_0, getS_s, setS_0, setS_s, e_var, varK_v, varK_o, varK_u, wC, wBin, rdK_v, rdK_t, rdK_s, rdS_v, rdS_o, rdS_u, fzK_v, fzK_t, fzK_s, fzS_v, fzS_o, fzS_l, fzS_u, e_fz, asg_v, asg_t, asg_s, e_tb, tbK_b, wAnd, wOr, wNot, e_notV, e_andV, e_orV, wBV, wIf, e_neg, intK_i, e_oso, wONo, e_rng1, e_rng2, wFNil, wFCons, wANil, wACons, wTup, wLst, e_callB, rdAllK_n, rdAllK_c, wIsi, e_call, wMNil, wMCons, e_ld, lnsOf, avsK_n, avsK_f, avsK_l, lnS_o, lnS_v, lnS_u, poK_n, poK_c, poS_o, inS_0, inS_s, rsK_v, rsK_o, wSl, e_ownF, e_own0, ownB_o, oS_o, oS_v, oS_u, agS_i, muApp, oAdd_i, oAdd_l, oAdd_t, oAdd_s, oSub_i, oMul_i, oFdiv_i, oMod_i, oPow_i, oShl_i, oShr_i, oOr_i, oAndB_i, oLt_i, oLe_i, oGt_i, oGe_i, oEq_i, oNe_i, oEq, oNe, oIx_l, oIx_t, oLen_l, oLen_t, oInt_i, oInt_b, oMax_i, oMin_i, oList_l, oList_t, oTuple_l, oTuple_t, oSorted_l, oSorted_t, oIs_n, oIsN_n, oIs_b, oIsN_b, isNone_n, isNone_t, isNone_l, isNone_i, isNone_s, isNone_b, oSl_l, oSl_t, oIn, gT_t, gC_c, gNil', e_iseq, sqK_l, sqK_t, e_isq, sq2K_l, sq2K_t, e_sset, ssK_l, ssK_t, e_chain, e_lr1, e_lr2, wRev, rvD_l, rvD_t, e_in1, e_in2, negB_f, negB_t, wIZip, zpK_l, zpK_t, zpK_m, e_extend, extR_t, wYes, startEv, kenD_nx, kenD_rt, kenD_bk, kenD_ct, kenD_ex, outK_n, outK_c, otS_o, rvK_v, rvK_t, rvK_s, rvS_v, rvS_o, slOf, lsFrom, wipeE, restE, List.map_cons, List.map_nil, List.length_cons, List.length_nil, List.replicate, List.append_nil, List.cons_append, List.nil_append, List.getElem?_cons_zero, List.getElem?_cons_succ, List.getElem?_nil, List.set_cons_zero, List.set_cons_succ, List.set_nil, Option.getD_some, Option.getD_none, Option.map_some, Option.map_none, Option.some.injEq, Rs.val.injEq, Rs.tmp.injEq, Rs.slot.injEq, Sl.own.injEq, Sl.val.injEq, PyData.int.injEq, PyData.bool.injEq, PyData.str.injEq, PyData.list.injEq, PyData.tuple.injEq, Prod.mk.injEq, Nat.sub_self, Nat.zero_add, Nat.reduceAdd, Nat.reduceSub, Nat.add_zero, isTy_int_int, isTy_bool_int, isTy_int_bool, isTy_bool_bool, isTy_int_tup, isTy_int_lst, isTy_int_non, isTy_int_str, isTy_tup_tup, isTy_tup_lst, isTy_tup_int, isTy_tup_bool, isTy_tup_non, isTy_tup_str, isTy_lst_lst, isTy_lst_tup, isTy_lst_int, exists_eq_left', exists_eq_left, exists_and_left, exists_eq_right, exists_eq, exists_eq', exists_const, true_and, and_true, and_self, Bool.not_true, Bool.not_false, if_true, if_false, Bool.false_eq_true, reduceIte, reduceCtorEq, List.nodup_nil, decide_eq_true_eq, atI_0, atI_1, atI_2, atI_3, atI_4, atI_5, atI_6, atI_7, atI_8, atI_9, atI_10, atI_11, ixN_3_0, ixN_3_1, ixN_3_2, sh_int, sh_bool, sh_non, and_assoc, nd1, nd_true, eq_self, decide_true, decide_false, Int.cast_ofNat_Int, not_true_eq_false, not_false_eq_true, eqv_ii, eqv_bb, wRaise0, e_raiseG, grK_i, e_raise1, onK_i, e_callX, xa_1, xa_2, xa_3, xa_4, xa_5, xa_6, xa_7, e_many, e_most, e_number, e_row, isLst_l, lsK_l, e_rd, e_br, brS_o, brS_v, arS_o, arS_v, avbK_n, avbK_f, avbK_l, scK_b, scK_i, scK_n, scK_s, e_callS, tmK_t, e_rep, enK_l, e_ienum, wTry, eqv_ss, tpK_v, txK_1, tutK_t, e_repT, e_callT, enTK_t, e_ienumT, r3K_i, e_rng3, e_newD, e_putD, e_lenD, e_listD, dcS_d, dcB_d, pvK_b, pvK_i, tkK_m, tkK_2, e_ssetI, oMinL_c, e_lset, e_lstZ, zlK_c, e_ins, e_callF, $xs,*] $[$l]?)
/-- x is a ring of c -/
def Rg (c : Int × Int) (x : Int) : Prop := c.1 ∣ x - c.2
def Meets (c d : Int × Int) (x : Int) : Prop := Rg c x ∧ Rg d x
def lcm2 (c d : Int × Int) : Int := (Int.lcm c.1 d.1 : Nat)
def CkB (c : Int × Int) : Prop := 1 ≤ c.1 ∧ c.1.natAbs < 2 ^ 3000 ∧ c.2.natAbs < 2 ^ 3000
theorem CkOk.b {m : Int} {c : Int × Int} (h : CkOk m c) (hm : m ≤ 2 ^ 60) : CkB c := by
  obtain ⟨h1, h2, h3, h4⟩ := h
  have e : (2 : Nat) ^ 60 < 2 ^ 3000 := by decide +kernel
  exact ⟨h1, Nat.lt_of_le_of_lt (show c.1.natAbs ≤ 2 ^ 60 by omega) e, Nat.lt_of_le_of_lt (show c.2.natAbs ≤ 2 ^ 60 by omega) e⟩
theorem lcm2_pos {c d : Int × Int} (hc : 1 ≤ c.1) (hd : 1 ≤ d.1) : 0 < lcm2 c d := by
  have := Int.lcm_pos (show c.1 ≠ 0 by omega) (show d.1 ≠ 0 by omega)
  unfold lcm2
  omega
theorem dvd_lcm2 {c d : Int × Int} {x : Int} (h1 : c.1 ∣ x) (h2 : d.1 ∣ x) : lcm2 c d ∣ x := by
  have a1 : c.1 ∣ ((x.natAbs : Nat) : Int) := Int.dvd_natAbs.mpr h1
  have a2 : d.1 ∣ ((x.natAbs : Nat) : Int) := Int.dvd_natAbs.mpr h2
  exact Int.dvd_natAbs.mp (Int.natCast_dvd_natCast.mpr (Int.lcm_dvd a1 a2))
theorem lcm2_l (c d : Int × Int) : c.1 ∣ lcm2 c d := Int.dvd_lcm_left _ _
theorem lcm2_r (c d : Int × Int) : d.1 ∣ lcm2 c d := Int.dvd_lcm_right _ _
/-- two numbers below a round that leave alike are one -/
theorem dvd_small {m x y : Int} (h : m ∣ x - y) (x0 : 0 ≤ x) (x1 : x < m) (y0 : 0 ≤ y) (y1 : y < m) : x = y := by
  have h1 : m ∣ y - x := by
    have := Int.dvd_neg.mpr h
    rwa [Int.neg_sub] at this
  by_cases c : x - y = 0
  · omega
  · by_cases c2 : 0 < x - y
    · have := Int.le_of_dvd c2 h
      omega
    · have := Int.le_of_dvd (show 0 < y - x by omega) h1
      omega
theorem Meets.one {c d : Int × Int} {x y : Int} (hx : Meets c d x) (hy : Meets c d y) (x0 : 0 ≤ x) (x1 : x < lcm2 c d) (y0 : 0 ≤ y) (y1 : y < lcm2 c d) : x = y := by
  refine dvd_small (dvd_lcm2 ?_ ?_) x0 x1 y0 y1
  · have := Int.dvd_sub hx.1 hy.1
    rwa [show x - c.2 - (y - c.2) = x - y by omega] at this
  · have := Int.dvd_sub hx.2 hy.2
    rwa [show x - d.2 - (y - d.2) = x - y by omega] at this
theorem Rg.mod {c : Int × Int} {x m : Int} (h : c.1 ∣ m) : Rg c (x % m) ↔ Rg c x := by
  unfold Rg
  have h2 : c.1 ∣ m * (x / m) := Int.dvd_trans h (Int.dvd_mul_right _ _)
  have e : x % m - c.2 = (x - c.2) - m * (x / m) := by rw [Int.emod_def]; omega
  rw [e]
  constructor
  · intro z
    have := Int.dvd_add z h2
    rwa [Int.sub_add_cancel] at this
  · intro z
    exact Int.dvd_sub z h2
/-- what meet_of tells, into K -/
def MeetK (c d : Int × Int) (K : PyData → Prop) : Prop := ((∀ x, ¬ Meets c d x) → K .none) ∧ ∀ x, Meets c d x → 0 ≤ x → x < lcm2 c d → K (ck (lcm2 c d, x))
def sp_meet_of : Spc := fun avs Kr _ => match avs with
  | [.val (.tuple [.int s1, .int r1]), .val (.tuple [.int s2, .int r2])] => CkB (s1, r1) ∧ CkB (s2, r2) ∧ MeetK (s1, r1) (s2, r2) fun d => Kr [] (.val d)
  | _ => False
/-- meet_of: 0 one, 1 other, 2 share, 3 step, 4 turns -/
def w_meet_of : WS :=
  (wSeq (wSet 2 (wCall 2 sp_divisor_of (wMCons (wBin oIx (wVar 0) (wC (.int 0))) (wMCons (wBin oIx (wVar 1) (wC (.int 0))) wMNil))))
    (wSeq (wIfS (wTB (wBin oNe (wBin oMod (wBin oSub (wBin oIx (wVar 1) (wC (.int 1))) (wBin oIx (wVar 0) (wC (.int 1)))) (wVar 2)) (wC (.int 0)))) (wRet (wC .none)) wNext)
    (wSeq (wSet 3 (wBin oMul (wBin oFdiv (wBin oIx (wVar 0) (wC (.int 0))) (wVar 2)) (wBin oIx (wVar 1) (wC (.int 0)))))
    (wSeq (wSet 4 (wBin oMul (wBin oFdiv (wBin oSub (wBin oIx (wVar 1) (wC (.int 1))) (wBin oIx (wVar 0) (wC (.int 1)))) (wVar 2)) (wCall 2 sp_back_of (wMCons (wBin oFdiv (wBin oIx (wVar 0) (wC (.int 0))) (wVar 2)) (wMCons (wBin oFdiv (wBin oIx (wVar 1) (wC (.int 0))) (wVar 2)) wMNil)))))
    (wRet (wTup (wFCons (wVar 3) (wFCons (wBin oMod (wBin oAdd (wBin oIx (wVar 0) (wC (.int 1))) (wBin oMul (wBin oIx (wVar 0) (wC (.int 0))) (wVar 4))) (wVar 3)) wFNil))))))))

theorem vc_meet_of : ∀ avs Kr Kx, avs.length = 2 → sp_meet_of avs Kr Kx → lsFrom 0 avs = [] ∧ w_meet_of (startEv 5 avs) (kenD [] Kr Kx) := by
  intro avs Kr Kx hl h
  unfold sp_meet_of at h
  split at h
  · rename_i s1 r1 s2 r2
    obtain ⟨⟨a1, a2, a3⟩, ⟨b1, b2, b3⟩, q1, q2⟩ := h
    have a1 : 1 ≤ s1 := a1
    have b1 : 1 ≤ s2 := b1
    have a2 : s1.natAbs < 2 ^ 3000 := a2
    have b2 : s2.natAbs < 2 ^ 3000 := b2
    have a3 : r1.natAbs < 2 ^ 3000 := a3
    have b3 : r2.natAbs < 2 ^ 3000 := b3
    have up : (2 : Nat) ^ 3000 < 2 ^ 8000 := by decide +kernel
    refine ⟨rfl, ?_⟩
    unfold w_meet_of
    refine seq_cut fun R hR => ?_
    dsimp? [sp_divisor_of]
    refine ⟨by omega, by omega, hR _ ?_⟩
    have hg : 0 < Int.gcd s1 s2 := Int.gcd_pos_of_ne_zero_left _ (by omega)
    have hgl : (Int.gcd s1 s2 : Int) ≤ s1 := Int.gcd_le_left _ (by omega)
    obtain ⟨a, ea⟩ : (Int.gcd s1 s2 : Int) ∣ s1 := Int.gcd_dvd_left _ _
    obtain ⟨b, eb⟩ : (Int.gcd s1 s2 : Int) ∣ s2 := Int.gcd_dvd_right _ _
    have hgm := Int.gcd_mul_left (Int.gcd s1 s2 : Nat) a b
    rw [← ea, ← eb] at hgm
    have hle := lcm_eq (show 0 < s1 by omega) (show 0 < s2 by omega)
    have hlc : lcm2 (s1, r1) (s2, r2) = (Int.lcm s1 s2 : Nat) := rfl
    generalize hG : Int.gcd s1 s2 = g at *
    have g1 : ((g : Int)).natAbs = g := Int.natAbs_natCast g
    rw [g1] at hgm
    have hab : Int.gcd a b = 1 := by
      have : g * Int.gcd a b = g * 1 := by rw [← hgm, Nat.mul_one]
      exact Nat.eq_of_mul_eq_mul_left hg this
    have ea2 : s1 / (g : Int) = a := by rw [ea]; exact Int.mul_ediv_cancel_left _ (by omega)
    have eb2 : s2 / (g : Int) = b := by rw [eb]; exact Int.mul_ediv_cancel_left _ (by omega)
    have hL : a * s2 = lcm2 (s1, r1) (s2, r2) := by
      rw [hlc, ← hle, show s1 * s2 = (g : Int) * (a * s2) by rw [← Int.mul_assoc, ← ea]]
      exact (Int.mul_ediv_cancel_left _ (by omega)).symm
    have ha0 : 0 < a := by
      rw [ea] at a1
      exact Int.pos_of_mul_pos_right (show 0 < (g : Int) * a by omega) (by omega)
    have hb0 : 0 < b := by
      rw [eb] at b1
      exact Int.pos_of_mul_pos_right (show 0 < (g : Int) * b by omega) (by omega)
    have hL0 := lcm2_pos (c := (s1, r1)) (d := (s2, r2)) a1 b1
    have gb : ((g : Int)).natAbs < 2 ^ 8000 := nab_lt (by omega) hgl (by omega)
    have ba : a.natAbs < 2 ^ 3000 := nab_lt (y := s1) (by omega) (by
      have := Int.mul_le_mul_of_nonneg_right (show 1 ≤ (g : Int) by omega) (show 0 ≤ a by omega)
      rw [← ea, Int.one_mul] at this
      exact this) a2
    have bb : b.natAbs < 2 ^ 3000 := nab_lt (y := s2) (by omega) (by
      have := Int.mul_le_mul_of_nonneg_right (show 1 ≤ (g : Int) by omega) (show 0 ≤ b by omega)
      rw [← eb, Int.one_mul] at this
      exact this) b2
    refine seq_cut fun R hR => ?_
    dsimp? []
    refine ⟨by omega, ?_⟩
    split
    · rename_i hne
      refine q1 fun x ⟨h1, h2⟩ => hne ?_
      have h1 : s1 ∣ x - r1 := h1
      have h2 : s2 ∣ x - r2 := h2
      have d1 : (g : Int) ∣ x - r1 := Int.dvd_trans ⟨a, ea⟩ h1
      have d2 : (g : Int) ∣ x - r2 := Int.dvd_trans ⟨b, eb⟩ h2
      have := Int.dvd_sub d1 d2
      rw [show x - r1 - (x - r2) = r2 - r1 by omega] at this
      exact Int.emod_eq_zero_of_dvd this
    · rename_i heq
      have heq : (r2 - r1) % (g : Int) = 0 := Decidable.not_not.mp heq
      obtain ⟨t, et⟩ := Int.dvd_of_emod_eq_zero heq
      have et2 : (r2 - r1) / (g : Int) = t := by rw [et]; exact Int.mul_ediv_cancel_left _ (by omega)
      refine hR _ ?_
      refine seq_cut fun R hR => ?_
      dsimp? []
      rw [ea2]
      have bL := wide_lt ba b2
      refine ⟨by omega, log_of (by omega) gb, mulx_ok ba b2 (by decide), hR _ ?_⟩
      rw [hL]
      refine seq_cut fun R hR => ?_
      dsimp? [sp_back_of]
      rw [ea2, eb2, et2]
      have tb : t.natAbs < 2 ^ 3001 := by
        have h1 : t.natAbs ≤ (r2 - r1).natAbs := by
          rw [et, Int.natAbs_mul, g1]
          have := Nat.mul_le_mul_right t.natAbs hg
          simpa using this
        have h2 : (2 : Nat) ^ 3001 = 2 ^ 3000 + 2 ^ 3000 := by decide +kernel
        rw [h2]
        omega
      refine ⟨by omega, log_of (by omega) gb, by omega, log_of (by omega) gb, by omega, log_of (by omega) gb, by omega, by omega, fun k k0 k1 kd => ?_⟩
      rw [hab] at kd
      have kb : k.natAbs < 2 ^ 3000 := nab_lt k0 (show k ≤ b by omega) bb
      have tkb := wide_lt tb kb
      refine ⟨mulx_ok tb kb (by decide), hR _ ?_⟩
      rw [← hL] at hL0
      dsimp? []
      refine ⟨mulx_ok (a := 3000) (b := 3001 + 3000) a2 tkb (by decide), by rw [← hL]; exact hL0, by decide, ?_⟩
      refine q2 _ ⟨?_, ?_⟩ (Int.emod_nonneg _ (by omega)) (Int.emod_lt_of_pos _ (by omega))
      · refine (Rg.mod (lcm2_l (s1, r1) (s2, r2))).mpr ?_
        show s1 ∣ r1 + s1 * (t * k) - r1
        rw [show r1 + s1 * (t * k) - r1 = s1 * (t * k) by omega]
        exact Int.dvd_mul_right _ _
      · refine (Rg.mod (c := (s2, r2)) (lcm2_r (s1, r1) (s2, r2))).mpr ?_
        show s2 ∣ r1 + s1 * (t * k) - r2
        obtain ⟨u, eu⟩ := kd
        have eu : a * k - 1 = b * u := eu
        have : r1 + s1 * (t * k) - r2 = s2 * (t * u) := by
          have h2 : r1 = r2 - (g : Int) * t := by omega
          have h3 : a * k = b * u + 1 := by omega
          calc r1 + s1 * (t * k) - r2 = (g : Int) * t * (a * k) - (g : Int) * t := by rw [h2]; conv => lhs; rw [ea]
                                                                                      grind
            _ = (g : Int) * t * (b * u + 1) - (g : Int) * t := by rw [h3]
            _ = s2 * (t * u) := by conv => rhs; rw [eb]
                                   grind
        rw [this]
        exact Int.dvd_mul_right _ _
  · exact h.elim
end Dl
end L2

/-! The plain half, 8: loops over ranges; clash_of; the laws' own rounds. -/
namespace L2
namespace Dl
open PySem PySem.Spec PyProof.Rows
theorem atI_ck {cs : List (Int × Int)} {i : Nat} {c : Int × Int} (h : cs[i]? = some c) : atI (cks cs) (i : Int) = some (ck c) := atI_nat (by rw [cks, List.getElem?_map, h]; rfl)
end Dl
end L2

/-! The plain half, 9: the laws' own gcd, round, rings. -/
namespace L2
namespace Dl
open PySem PySem.Spec PyProof.Rows
local macro_rules | `(tactic| dsimp? [$xs,*] $[$l]?) => `(tactic| simp only [wSeq, wNext, wBreak, wCont, wDrop, wRet, wRetN, wIfS, wSet, wAsgT, e_aug, e_setIx, e_par, e_gN, getS_0, getS_s, setS_0, setS_s, e_var, varK_v, varK_o, varK_u, wC, wBin, rdK_v, rdK_t, rdK_s, rdS_v, rdS_o, rdS_u, fzK_v, fzK_t, fzK_s, fzS_v, fzS_o, fzS_l, fzS_u, e_fz, asg_v, asg_t, asg_s, e_tb, tbK_b, wAnd, wOr, wNot, e_notV, e_andV, e_orV, wBV, wIf, e_neg, intK_i, e_oso, wONo, e_rng1, e_rng2, wFNil, wFCons, wANil, wACons, wTup, wLst, e_callB, rdAllK_n, rdAllK_c, wIsi, e_call, wMNil, wMCons, e_ld, lnsOf, avsK_n, avsK_f, avsK_l, lnS_o, lnS_v, lnS_u, poK_n, poK_c, poS_o, inS_0, inS_s, rsK_v, rsK_o, wSl, e_ownF, e_own0, ownB_o, oS_o, oS_v, oS_u, agS_i, muApp, oAdd_i, oAdd_l, oAdd_t, oAdd_s, oSub_i, oMul_i, oFdiv_i, oMod_i, oPow_i, oShl_i, oShr_i, oOr_i, oAndB_i, oLt_i, oLe_i, oGt_i, oGe_i, oEq_i, oNe_i, oEq, oNe, oIx_l, oIx_t, oLen_l, oLen_t, oInt_i, oInt_b, oMax_i, oMin_i, oList_l, oList_t, oTuple_l, oTuple_t, oSorted_l, oSorted_t, oIs_n, oIsN_n, oIs_b, oIsN_b, isNone_n, isNone_t, isNone_l, isNone_i, isNone_s, isNone_b, oSl_l, oSl_t, oIn, gT_t, gC_c, gNil', e_iseq, sqK_l, sqK_t, e_isq, sq2K_l, sq2K_t, e_sset, ssK_l, ssK_t, e_chain, e_lr1, e_lr2, wRev, rvD_l, rvD_t, e_in1, e_in2, negB_f, negB_t, wIZip, zpK_l, zpK_t, zpK_m, e_extend, extR_t, wYes, startEv, kenD_nx, kenD_rt, kenD_bk, kenD_ct, kenD_ex, outK_n, outK_c, otS_o, rvK_v, rvK_t, rvK_s, rvS_v, rvS_o, slOf, lsFrom, wipeE, restE, List.map_cons, List.map_nil, List.length_cons, List.length_nil, List.replicate, List.append_nil, List.cons_append, List.nil_append, List.getElem?_cons_zero, List.getElem?_cons_succ, List.getElem?_nil, List.set_cons_zero, List.set_cons_succ, List.set_nil, Option.getD_some, Option.getD_none, Option.map_some, Option.map_none, Option.some.injEq, Rs.val.injEq, Rs.tmp.injEq, Rs.slot.injEq, Sl.own.injEq, Sl.val.injEq, PyData.int.injEq, PyData.bool.injEq, PyData.str.injEq, PyData.list.injEq, PyData.tuple.injEq, Prod.mk.injEq, Nat.sub_self, Nat.zero_add, Nat.reduceAdd, Nat.reduceSub, Nat.add_zero, isTy_int_int, isTy_bool_int, isTy_int_bool, isTy_bool_bool, isTy_int_tup, isTy_int_lst, isTy_int_non, isTy_int_str, isTy_tup_tup, isTy_tup_lst, isTy_tup_int, isTy_tup_bool, isTy_tup_non, isTy_tup_str, isTy_lst_lst, isTy_lst_tup, isTy_lst_int, exists_eq_left', exists_eq_left, exists_and_left, exists_eq_right, exists_eq, exists_eq', exists_const, true_and, and_true, and_self, Bool.not_true, Bool.not_false, if_true, if_false, Bool.false_eq_true, reduceIte, reduceCtorEq, List.nodup_nil, decide_eq_true_eq, atI_0, atI_1, atI_2, atI_3, atI_4, atI_5, atI_6, atI_7, atI_8, atI_9, atI_10, atI_11, ixN_3_0, ixN_3_1, ixN_3_2, sh_int, sh_bool, sh_non, and_assoc, nd1, nd_true, eq_self, decide_true, decide_false, Int.cast_ofNat_Int, not_true_eq_false, not_false_eq_true, eqv_ii, eqv_bb, wRaise0, e_raiseG, grK_i, e_raise1, onK_i, e_callX, xa_1, xa_2, xa_3, xa_4, xa_5, xa_6, xa_7, e_many, e_most, e_number, e_row, isLst_l, lsK_l, e_rd, e_br, brS_o, brS_v, arS_o, arS_v, avbK_n, avbK_f, avbK_l, scK_b, scK_i, scK_n, scK_s, e_callS, tmK_t, e_rep, enK_l, e_ienum, wTry, eqv_ss, tpK_v, txK_1, tutK_t, e_repT, e_callT, enTK_t, e_ienumT, r3K_i, e_rng3, e_newD, e_putD, e_lenD, e_listD, dcS_d, dcB_d, pvK_b, pvK_i, tkK_m, tkK_2, e_ssetI, oMinL_c, e_lset, e_lstZ, zlK_c, e_ins, e_callF, $xs,*] $[$l]?)
def sp__law_common : Spc := fun avs Kr _ => match avs with
  | [.val (.int a), .val (.int b)] => 0 ≤ a ∧ 0 ≤ b ∧ Kr [] (.val (.int (Int.gcd a b : Nat)))
  | _ => False
def w__law_common_T1 : WT :=
  (wTB (wBin oGt (wVar 1) (wC (.int 0))))
def w__law_common_B1 : WS :=
  (wPar 0 1 (wFCons (wVar 1) (wFCons (wBin oMod (wVar 0) (wVar 1)) wFNil)))
def w__law_common_L1 : WS :=
  wWhile w__law_common_T1 w__law_common_B1
def w__law_common_R1 : WS :=
  (wRet (wVar 0))
/-- _law_common: 0 one, 1 other -/
def w__law_common : WS :=
  (wSeq w__law_common_L1
    w__law_common_R1)

theorem vc__law_common : ∀ avs Kr Kx, avs.length = 2 → sp__law_common avs Kr Kx → lsFrom 0 avs = [] ∧ w__law_common (startEv 2 avs) (kenD [] Kr Kx) := by
  intro avs Kr Kx hl h
  unfold sp__law_common at h
  split at h
  · rename_i a b
    obtain ⟨ha, hb, k⟩ := h
    refine ⟨rfl, ?_⟩
    dsimp? [w__law_common]
    refine ⟨fun m e => ∃ x y : Int, e = [.val (.int x), .val (.int y)] ∧ 0 ≤ x ∧ 0 ≤ y ∧ m = y.toNat ∧ Int.gcd x y = Int.gcd a b, ⟨_, a, b, rfl, ha, hb, rfl, rfl⟩, ?_⟩
    rintro m e ⟨x, y, rfl, hx, hy, rfl, hg⟩
    dsimp? [w__law_common_T1, w__law_common_B1]
    split
    · rename_i hp
      have h1 := Int.emod_nonneg x (Int.ne_of_gt hp)
      have h2 := Int.emod_lt_of_pos x hp
      exact ⟨hp, _, by omega, _, _, rfl, hy, h1, rfl, by rw [gcd_mod]; exact hg⟩
    · have : y = 0 := by omega
      subst this
      have e : (x : Int) = (Int.gcd x 0 : Nat) := by rw [Int.gcd_zero_right]; omega
      dsimp? [w__law_common_R1]
      rw [e, hg]
      exact k
  · exact h.elim
def sp__law_round_k03 : Spc := fun avs Kr _ => match avs with
  | [.val (.tuple ds)] => RndOk ds fun cs => Kr [] (.val (.int (rnd 1 cs)))
  | [.val (.list ds)] => RndOk ds fun cs => Kr [] (.val (.int (rnd 1 cs)))
  | _ => False
def w__law_round_k03_B1 : WS :=
  (wSet 1 (wBin oMul (wBin oFdiv (wVar 1) (wCall 2 sp__law_common (wMCons (wVar 1) (wMCons (wVar 2) wMNil)))) (wVar 2)))
def w__law_round_k03_L1 : WS :=
  wFor (wISeq (wVar 0)) (gT 2 (gCons' (gN 2) (gCons' (gN 3) gNil'))) w__law_round_k03_B1
def w__law_round_k03_R1 : WS :=
  (wRet (wVar 1))
/-- _law_round: 0 clocks, 1 found, 2 step, 3 rest -/
def w__law_round_k03 : WS :=
  (wSeq (wSet 1 (wC (.int 1)))
    (wSeq w__law_round_k03_L1
    w__law_round_k03_R1))

theorem div_mul_eq {f s : Int} (hf : 0 < f) : f / (Int.gcd f s : Nat) * s = f * s / (Int.gcd f s : Nat) := by
  have hg : 0 < Int.gcd f s := Int.gcd_pos_of_ne_zero_left s (Int.ne_of_gt hf)
  obtain ⟨a, ea⟩ : (Int.gcd f s : Int) ∣ f := Int.gcd_dvd_left _ _
  generalize Int.gcd f s = g at *
  have h1 : f / (g : Int) = a := by rw [ea]; exact Int.mul_ediv_cancel_left _ (by omega)
  have h2 : f * s / (g : Int) = a * s := by
    rw [ea, Int.mul_assoc]
    exact Int.mul_ediv_cancel_left _ (by omega)
  rw [h1, h2]
theorem l__law_round {d : PyData} {x2 x3 : Sl} {cs : List (Int × Int)} {k : Ken} (hd : d = .tuple (cks cs) ∨ d = .list (cks cs)) (hc : ∀ c ∈ cs, 1 ≤ c.1) (hb : (prodS cs).natAbs < 2 ^ 8000) (hk : ∀ x2 x3, k.nx [.val d, .val (.int (rnd 1 cs)), x2, x3]) : w__law_round_k03_L1 [.val d, .val (.int 1), x2, x3] k := by
  have main : wEach (gT 2 (gCons' (gN 2) (gCons' (gN 3) gNil'))) w__law_round_k03_B1 (cks cs) [.val d, .val (.int 1), x2, x3] k := by
    refine wEach_ind (fun ds e => ∃ (f : Int) (r : List (Int × Int)) (x2 x3 : Sl), ds = cks r ∧ e = [.val d, .val (.int f), x2, x3] ∧ 0 < f ∧ (∀ c ∈ r, 1 ≤ c.1) ∧ f * prodS r ≤ prodS cs ∧ rnd f r = rnd 1 cs) ?_ ?_ _ _ ⟨1, cs, x2, x3, rfl, rfl, by decide, hc, by omega, rfl⟩
    · rintro e ⟨f, r, x2, x3, h1, rfl, h3, h4, h5, h6⟩
      cases r with
      | cons _ _ => cases h1
      | nil =>
        have e : f = rnd 1 cs := h6
        rw [e]
        exact hk _ _
    · rintro d0 r0 e ⟨f, r, x2, x3, h1, rfl, h3, h4, h5, h6⟩ ih
      cases r with
      | nil => cases h1
      | cons c r =>
        cases h1
        have c1 := h4 c List.mem_cons_self
        have hr : ∀ c ∈ r, 1 ≤ c.1 := fun c hc => h4 c (List.mem_cons_of_mem _ hc)
        have hp := prodS_pos hr
        have e1 : f * prodS (c :: r) = f * c.1 * prodS r := (Int.mul_assoc _ _ _).symm
        have hfc : 0 < f * c.1 := Int.mul_pos h3 (by omega)
        have q1 : f * c.1 ≤ f * c.1 * prodS r := by
          have := Int.mul_le_mul_of_nonneg_left hp (show 0 ≤ f * c.1 by omega)
          rwa [Int.mul_one] at this
        have q2 : f ≤ f * c.1 := by
          have := Int.mul_le_mul_of_nonneg_left c1 (show 0 ≤ f by omega)
          rwa [Int.mul_one] at this
        have q3 : c.1 ≤ f * c.1 := by
          have := Int.mul_le_mul_of_nonneg_right (show 1 ≤ f by omega) (show 0 ≤ c.1 by omega)
          rwa [Int.one_mul] at this
        rw [e1] at h5
        have bf : f.natAbs < 2 ^ 8000 := nab_lt (by omega) (by omega) hb
        have bc : c.1.natAbs < 2 ^ 8000 := nab_lt (by omega) (by omega) hb
        have hg : 0 < Int.gcd f c.1 := Int.gcd_pos_of_ne_zero_left _ (by omega)
        have hgl : (Int.gcd f c.1 : Int) ≤ f := Int.gcd_le_left _ h3
        have hq0 : 0 ≤ f / (Int.gcd f c.1 : Nat) := Int.ediv_nonneg (by omega) (by omega)
        have hq1 : f / (Int.gcd f c.1 : Nat) ≤ f := Int.ediv_le_self _ (by omega)
        dsimp? [w__law_round_k03_B1, ck, sp__law_common]
        refine ⟨by omega, by omega, by omega, log_of (by omega) (nab_lt (by omega) hgl bf), mulx_ok (nab_lt hq0 hq1 bf) bc (by decide), ih _ ⟨_, r, _, _, rfl, rfl, ?_, hr, ?_, ?_⟩⟩
        · rw [div_mul_eq h3, lcm_eq h3 (by omega)]
          have := Int.lcm_pos (show f ≠ 0 by omega) (show c.1 ≠ 0 by omega)
          omega
        · have d1 : f / (Int.gcd f c.1 : Nat) * c.1 ≤ f * c.1 := Int.mul_le_mul_of_nonneg_right hq1 (by omega)
          exact Int.le_trans (Int.mul_le_mul_of_nonneg_right d1 (by omega)) h5
        · rw [div_mul_eq h3]
          exact h6
  rcases hd with rfl | rfl
  · dsimp? [w__law_round_k03_L1, wFor]
    exact main
  · dsimp? [w__law_round_k03_L1, wFor]
    exact main
theorem vc__law_round_k03 : ∀ avs Kr Kx, avs.length = 1 → sp__law_round_k03 avs Kr Kx → lsFrom 0 avs = [] ∧ w__law_round_k03 (startEv 4 avs) (kenD [] Kr Kx) := by
  intro avs Kr Kx hl h
  unfold sp__law_round_k03 at h
  split at h
  · obtain ⟨cs, rfl, h1, h2, q⟩ := h
    refine ⟨rfl, ?_⟩
    dsimp? [w__law_round_k03]
    refine l__law_round (.inl rfl) h1 h2 fun x2 x3 => ?_
    dsimp? [w__law_round_k03_R1]
    exact q
  · obtain ⟨cs, rfl, h1, h2, q⟩ := h
    refine ⟨rfl, ?_⟩
    dsimp? [w__law_round_k03]
    refine l__law_round (.inr rfl) h1 h2 fun x2 x3 => ?_
    dsimp? [w__law_round_k03_R1]
    exact q
  · exact h.elim
end Dl
end L2

/-! The plain half, 10: shapes and likeness of data; loops over clocks. -/
namespace L2
namespace Dl
open PySem PySem.Spec PyProof.Rows
/-- layable, of depth at most n -/
def ShN (n : Nat) (d : PyData) : Prop := d.canLay0 = true ∧ d.depth ≤ n
theorem shAll {n : Nat} : ∀ {ds : List PyData}, (∀ d ∈ ds, ShN n d) → PyData.canLayAll0 ds = true ∧ PyData.depthAll ds ≤ n
  | [], _ => ⟨rfl, Nat.zero_le _⟩
  | d :: ds, h => by
    obtain ⟨h1, h2⟩ := h d List.mem_cons_self
    obtain ⟨h3, h4⟩ := shAll fun e he => h e (List.mem_cons_of_mem _ he)
    refine ⟨?_, ?_⟩
    · show (d.canLay0 && PyData.canLayAll0 ds) = true
      rw [h1, h3]; rfl
    · show max d.depth (PyData.depthAll ds) ≤ n
      omega
theorem ShN.lst {n : Nat} {ds : List PyData} (h : ∀ d ∈ ds, ShN n d) : ShN (n + 1) (.list ds) := by
  obtain ⟨h1, h2⟩ := shAll h
  exact ⟨h1, Nat.succ_le_succ h2⟩
theorem ShN.tup {n : Nat} {ds : List PyData} (h : ∀ d ∈ ds, ShN n d) : ShN (n + 1) (.tuple ds) := by
  obtain ⟨h1, h2⟩ := shAll h
  exact ⟨h1, Nat.succ_le_succ h2⟩
theorem ShN.mono {m n : Nat} {d : PyData} (h : ShN m d) (hm : m ≤ n) : ShN n d := ⟨h.1, Nat.le_trans h.2 hm⟩
theorem ShN.int (i : Int) : ShN 0 (.int i) := ⟨rfl, Nat.le_refl _⟩
theorem ShN.bool (i : Bool) : ShN 0 (.bool i) := ⟨rfl, Nat.le_refl _⟩
theorem ShN.none : ShN 0 .none := ⟨rfl, Nat.le_refl _⟩
theorem ShN.ck (c : Int × Int) : ShN 1 (ck c) := ⟨rfl, Nat.le_refl _⟩
theorem ShN.sh {n : Nat} {d : PyData} (h : ShN n d) (hn : n ≤ 64) : SeqAt.shaped d = true := by
  unfold SeqAt.shaped
  rw [h.1]
  have := h.2
  simp only [Bool.true_and, decide_eq_true_eq]
  omega
theorem ShN.cks (cs : List (Int × Int)) : ∀ d ∈ cks cs, ShN 1 d := fun d h => by
  obtain ⟨c, _, rfl⟩ := List.mem_map.mp h
  exact ShN.ck c
theorem ShN.ints (ns : List Int) : ∀ d ∈ ns.map PyData.int, ShN 0 d := fun d h => by
  obtain ⟨c, _, rfl⟩ := List.mem_map.mp h
  exact ShN.int c
theorem sh_lck (cs : List (Int × Int)) : SeqAt.shaped (.list (cks cs)) = true := (ShN.lst (ShN.cks cs)).sh (by decide)
theorem sh_tck (cs : List (Int × Int)) : SeqAt.shaped (.tuple (cks cs)) = true := (ShN.tup (ShN.cks cs)).sh (by decide)
theorem sh_lin (ns : List Int) : SeqAt.shaped (.list (ns.map .int)) = true := (ShN.lst (ShN.ints ns)).sh (by decide)
theorem sh_tin (ns : List Int) : SeqAt.shaped (.tuple (ns.map .int)) = true := (ShN.tup (ShN.ints ns)).sh (by decide)
/-- no bool within -/
def io : PyData → Bool
  | .none | .int _ | .str _ => true
  | .list xs | .tuple xs => ioAll xs
  | _ => false
where ioAll : List PyData → Bool
  | [] => true
  | x :: xs => io x && ioAll xs
theorem io_all {ds : List PyData} (h : ∀ d ∈ ds, io d = true) : io.ioAll ds = true := by
  induction ds with
  | nil => rfl
  | cons d ds ih =>
    show (io d && io.ioAll ds) = true
    rw [h d List.mem_cons_self, ih fun e he => h e (List.mem_cons_of_mem _ he)]
    rfl
mutual
theorem eqv_io : ∀ d e : PyData, io d = true → io e = true → (PyData.eqv d e = true ↔ d = e)
  | .none, e, _, h => by cases e <;> simp [PyData.eqv]
  | .bool _, e, h, _ => by simp [io] at h
  | .int i, e, _, h => by cases e <;> first | (simp [PyData.eqv]; done) | (simp [io] at h)
  | .str i, e, _, h => by cases e <;> first | (simp [PyData.eqv]; done) | (simp [io] at h)
  | .list xs, e, h1, h => by
    cases e with
    | list ys =>
      rw [PyData.eqv, eqv_ioAll xs ys h1 h]
      simp
    | _ => simp [PyData.eqv]
  | .tuple xs, e, h1, h => by
    cases e with
    | tuple ys =>
      rw [PyData.eqv, eqv_ioAll xs ys h1 h]
      simp
    | _ => simp [PyData.eqv]
  | .dict _, e, h, _ => by simp [io] at h
theorem eqv_ioAll : ∀ xs ys : List PyData, io.ioAll xs = true → io.ioAll ys = true → (PyData.eqvAll xs ys = true ↔ xs = ys)
  | [], [], _, _ => by simp [PyData.eqvAll]
  | [], _ :: _, _, _ => by simp [PyData.eqvAll]
  | _ :: _, [], _, _ => by simp [PyData.eqvAll]
  | x :: xs, y :: ys, h1, h2 => by
    have a1 : io x = true ∧ io.ioAll xs = true := by
      have : (io x && io.ioAll xs) = true := h1
      simpa using this
    have a2 : io y = true ∧ io.ioAll ys = true := by
      have : (io y && io.ioAll ys) = true := h2
      simpa using this
    rw [PyData.eqvAll, Bool.and_eq_true, eqv_io x y a1.1 a2.1, eqv_ioAll xs ys a1.2 a2.2]
    simp
end
theorem io_cks (cs : List (Int × Int)) : io.ioAll (cks cs) = true := io_all fun d h => by
  obtain ⟨c, _, rfl⟩ := List.mem_map.mp h
  rfl
theorem ck_inj {c d : Int × Int} (h : ck c = ck d) : c = d := by
  unfold ck at h
  simp only [PyData.tuple.injEq, List.cons.injEq, PyData.int.injEq, and_true] at h
  exact Prod.ext h.1 h.2
theorem cks_inj : ∀ {cs ds : List (Int × Int)}, cks cs = cks ds → cs = ds
  | [], [], _ => rfl
  | [], _ :: _, h => by cases h
  | _ :: _, [], h => by cases h
  | c :: cs, d :: ds, h => by
    simp only [cks, List.map_cons, List.cons.injEq] at h
    rw [ck_inj h.1, cks_inj h.2]
theorem eqv_ck (c d : Int × Int) : PyData.eqv (ck c) (ck d) = decide (c = d) := by
  by_cases h : c = d
  · subst h
    rw [decide_eq_true rfl]
    exact (eqv_io _ _ rfl rfl).mpr rfl
  · rw [decide_eq_false h]
    cases e : PyData.eqv (ck c) (ck d) with
    | false => rfl
    | true => exact absurd (ck_inj ((eqv_io _ _ rfl rfl).mp e)) h
theorem eqv_lcks (cs ds : List (Int × Int)) : PyData.eqv (.list (cks cs)) (.list (cks ds)) = decide (cs = ds) := by
  have q := eqv_io (.list (cks cs)) (.list (cks ds)) (io_cks cs) (io_cks ds)
  by_cases h : cs = ds
  · subst h
    rw [decide_eq_true rfl]
    exact q.mpr rfl
  · rw [decide_eq_false h]
    cases e : PyData.eqv (.list (cks cs)) (.list (cks ds)) with
    | false => rfl
    | true => exact absurd (cks_inj (by simpa using q.mp e)) h
theorem eqv_tcks (cs ds : List (Int × Int)) : PyData.eqv (.tuple (cks cs)) (.tuple (cks ds)) = decide (cs = ds) := eqv_lcks cs ds
theorem any_ints (ns : List Int) (n : Int) : ((ns.map PyData.int).any fun z => PyData.eqv z (.int n)) = decide (n ∈ ns) := by
  induction ns with
  | nil => rfl
  | cons d ns ih =>
    rw [List.map_cons, List.any_cons, ih, eqv_ii]
    simp only [List.mem_cons, Bool.decide_or]
    congr 1
    exact decide_eq_decide.mpr eq_comm
theorem fm_filter (cs : List (Int × Int)) (p : Int × Int → Bool) : (cs.filterMap fun c => if p c = true then some (ck c) else none) = cks (cs.filter p) := by
  induction cs with
  | nil => rfl
  | cons c cs ih =>
    cases h : p c with
    | true =>
      rw [List.filterMap_cons_some (b := ck c) (by simp [h]), List.filter_cons_of_pos h, ih]
      rfl
    | false =>
      rw [List.filterMap_cons_none (by simp [h]), List.filter_cons_of_neg (by simp [h]), ih]
end Dl
end L2

/-! The plain half, 11: rings. -/
namespace L2
namespace Dl
open PySem PySem.Spec PyProof.Rows
local macro_rules | `(tactic| dsimp? [$xs,*] $[$l]?) => `(tactic| simp only [wSeq, wNext, wBreak, wCont, wDrop, wRet, wRetN, wIfS, wSet, wAsgT, e_aug, e_setIx, e_par, e_gN, getS_0, getS_s, setS_0, setS_s, e_var, varK_v, varK_o, varK_u, wC, wBin, rdK_v, rdK_t, rdK_s, rdS_v, rdS_o, rdS_u, fzK_v, fzK_t, fzK_s, fzS_v, fzS_o, fzS_l, fzS_u, e_fz, asg_v, asg_t, asg_s, e_tb, tbK_b, wAnd, wOr, wNot, e_notV, e_andV, e_orV, wBV, wIf, e_neg, intK_i, e_oso, wONo, e_rng1, e_rng2, wFNil, wFCons, wANil, wACons, wTup, wLst, e_callB, rdAllK_n, rdAllK_c, wIsi, e_call, wMNil, wMCons, e_ld, lnsOf, avsK_n, avsK_f, avsK_l, lnS_o, lnS_v, lnS_u, poK_n, poK_c, poS_o, inS_0, inS_s, rsK_v, rsK_o, wSl, e_ownF, e_own0, ownB_o, oS_o, oS_v, oS_u, agS_i, muApp, oAdd_i, oAdd_l, oAdd_t, oAdd_s, oSub_i, oMul_i, oFdiv_i, oMod_i, oPow_i, oShl_i, oShr_i, oOr_i, oAndB_i, oLt_i, oLe_i, oGt_i, oGe_i, oEq_i, oNe_i, oEq, oNe, oIx_l, oIx_t, oLen_l, oLen_t, oInt_i, oInt_b, oMax_i, oMin_i, oList_l, oList_t, oTuple_l, oTuple_t, oSorted_l, oSorted_t, oIs_n, oIsN_n, oIs_b, oIsN_b, isNone_n, isNone_t, isNone_l, isNone_i, isNone_s, isNone_b, oSl_l, oSl_t, oIn, gT_t, gC_c, gNil', e_iseq, sqK_l, sqK_t, e_isq, sq2K_l, sq2K_t, e_sset, ssK_l, ssK_t, e_chain, e_lr1, e_lr2, wRev, rvD_l, rvD_t, e_in1, e_in2, negB_f, negB_t, wIZip, zpK_l, zpK_t, zpK_m, e_extend, extR_t, wYes, startEv, kenD_nx, kenD_rt, kenD_bk, kenD_ct, kenD_ex, outK_n, outK_c, otS_o, rvK_v, rvK_t, rvK_s, rvS_v, rvS_o, slOf, lsFrom, wipeE, restE, List.map_cons, List.map_nil, List.length_cons, List.length_nil, List.replicate, List.append_nil, List.cons_append, List.nil_append, List.getElem?_cons_zero, List.getElem?_cons_succ, List.getElem?_nil, List.set_cons_zero, List.set_cons_succ, List.set_nil, Option.getD_some, Option.getD_none, Option.map_some, Option.map_none, Option.some.injEq, Rs.val.injEq, Rs.tmp.injEq, Rs.slot.injEq, Sl.own.injEq, Sl.val.injEq, PyData.int.injEq, PyData.bool.injEq, PyData.str.injEq, PyData.list.injEq, PyData.tuple.injEq, Prod.mk.injEq, Nat.sub_self, Nat.zero_add, Nat.reduceAdd, Nat.reduceSub, Nat.add_zero, isTy_int_int, isTy_bool_int, isTy_int_bool, isTy_bool_bool, isTy_int_tup, isTy_int_lst, isTy_int_non, isTy_int_str, isTy_tup_tup, isTy_tup_lst, isTy_tup_int, isTy_tup_bool, isTy_tup_non, isTy_tup_str, isTy_lst_lst, isTy_lst_tup, isTy_lst_int, exists_eq_left', exists_eq_left, exists_and_left, exists_eq_right, exists_eq, exists_eq', exists_const, true_and, and_true, and_self, Bool.not_true, Bool.not_false, if_true, if_false, Bool.false_eq_true, reduceIte, reduceCtorEq, List.nodup_nil, decide_eq_true_eq, atI_0, atI_1, atI_2, atI_3, atI_4, atI_5, atI_6, atI_7, atI_8, atI_9, atI_10, atI_11, ixN_3_0, ixN_3_1, ixN_3_2, sh_int, sh_bool, sh_non, and_assoc, nd1, nd_true, eq_self, decide_true, decide_false, Int.cast_ofNat_Int, not_true_eq_false, not_false_eq_true, eqv_ii, eqv_bb, wRaise0, e_raiseG, grK_i, e_raise1, onK_i, e_callX, xa_1, xa_2, xa_3, xa_4, xa_5, xa_6, xa_7, e_many, e_most, e_number, e_row, isLst_l, lsK_l, e_rd, e_br, brS_o, brS_v, arS_o, arS_v, avbK_n, avbK_f, avbK_l, scK_b, scK_i, scK_n, scK_s, e_callS, tmK_t, e_rep, enK_l, e_ienum, wTry, eqv_ss, tpK_v, txK_1, tutK_t, e_repT, e_callT, enTK_t, e_ienumT, r3K_i, e_rng3, e_newD, e_putD, e_lenD, e_listD, dcS_d, dcB_d, pvK_b, pvK_i, tkK_m, tkK_2, e_ssetI, oMinL_c, e_lset, e_lstZ, zlK_c, e_ins, e_callF, $xs,*] $[$l]?)
def sp_rings : Spc := fun avs Kr _ => match avs with
  | [.val (.tuple [.int s, .int r]), .val (.int n)] => 0 < s ∧ Kr [] (.val (.bool (decide (n % s = r))))
  | _ => False
/-- rings: 0 clock, 1 number -/
def w_rings : WS :=
  (wRet (wBin oEq (wBin oMod (wVar 1) (wBin oIx (wVar 0) (wC (.int 0)))) (wBin oIx (wVar 0) (wC (.int 1)))))

theorem vc_rings : ∀ avs Kr Kx, avs.length = 2 → sp_rings avs Kr Kx → lsFrom 0 avs = [] ∧ w_rings (startEv 2 avs) (kenD [] Kr Kx) := by
  intro avs Kr Kx hl h
  unfold sp_rings at h
  split at h
  · obtain ⟨hs, q⟩ := h
    refine ⟨rfl, ?_⟩
    dsimp? [w_rings]
    exact ⟨hs, q⟩
  · exact h.elim
/-- the clocks that ring -/
def rgF (cs : List (Int × Int)) (n : Int) : List (Int × Int) := cs.filter fun c => decide (n % c.1 = c.2)
def sp_rings_at : Spc := fun avs Kr _ => match avs with
  | [.val (.tuple ds), .val (.int n)] => ∃ cs, ds = cks cs ∧ (∀ c ∈ cs, 1 ≤ c.1) ∧ cs.length ≤ 100000 ∧ Kr [] (.own (cks (rgF cs n)))
  | [.val (.list ds), .val (.int n)] => ∃ cs, ds = cks cs ∧ (∀ c ∈ cs, 1 ≤ c.1) ∧ cs.length ≤ 100000 ∧ Kr [] (.own (cks (rgF cs n)))
  | _ => False
def w_rings_at_C1 : WE :=
  wLc [2] (wISeq (wVar 0)) (gN 2) (wTB (wCall 2 sp_rings (wMCons (wVar 2) (wMCons (wVar 1) wMNil)))) (wVar 2)
/-- rings_at: 0 clocks, 1 number, 2 clock -/
def w_rings_at : WS :=
  (wRet w_rings_at_C1)

theorem vc_rings_at : ∀ avs Kr Kx, avs.length = 2 → sp_rings_at avs Kr Kx → lsFrom 0 avs = [] ∧ w_rings_at (startEv 3 avs) (kenD [] Kr Kx) := by
  intro avs Kr Kx hl h
  unfold sp_rings_at at h
  split at h
  · rename_i ds n
    obtain ⟨cs, rfl, hc, hl, q⟩ := h
    refine ⟨rfl, ?_⟩
    dsimp? [w_rings_at, w_rings_at_C1, wLc]
    refine lc_fm ck (fun c => if decide (n % c.1 = c.2) = true then some (ck c) else none) cs [] (fun c h A N hA => ?_) (by simpa using small100000 hl) ?_
    · have c1 := hc c h
      dsimp? [ck, sp_rings]
      refine ⟨by omega, ?_⟩
      split
      · rename_i z
        simp only [z, decide_true, if_true] at hA
        exact hA
      · rename_i z
        simp only [z, decide_false, Bool.false_eq_true, if_false] at hA
        exact hA
    · rw [List.nil_append, fm_filter]
      exact q
  · rename_i ds n
    obtain ⟨cs, rfl, hc, hl, q⟩ := h
    refine ⟨rfl, ?_⟩
    dsimp? [w_rings_at, w_rings_at_C1, wLc]
    refine lc_fm ck (fun c => if decide (n % c.1 = c.2) = true then some (ck c) else none) cs [] (fun c h A N hA => ?_) (by simpa using small100000 hl) ?_
    · have c1 := hc c h
      dsimp? [ck, sp_rings]
      refine ⟨by omega, ?_⟩
      split
      · rename_i z
        simp only [z, decide_true, if_true] at hA
        exact hA
      · rename_i z
        simp only [z, decide_false, Bool.false_eq_true, if_false] at hA
        exact hA
    · rw [List.nil_append, fm_filter]
      exact q
  · exact h.elim
/-- of a clock with its rest in place: the two ways to ask -/
theorem Rg_mod {c : Int × Int} {n : Int} (h0 : 0 ≤ c.2) (h1 : c.2 < c.1) : Rg c n ↔ n % c.1 = c.2 := by
  constructor
  · intro h
    have a0 := Int.emod_nonneg n (show c.1 ≠ 0 by omega)
    have a1 := Int.emod_lt_of_pos n (show 0 < c.1 by omega)
    refine dvd_small (m := c.1) ?_ a0 a1 h0 h1
    have : n % c.1 - c.2 = (n - c.2) - c.1 * (n / c.1) := by rw [Int.emod_def]; omega
    rw [this]
    exact Int.dvd_sub h (Int.dvd_mul_right _ _)
  · intro h
    have : n - c.2 = c.1 * (n / c.1) := by rw [← h, Int.emod_def]; omega
    exact ⟨_, this⟩
end Dl
end L2

/-! The plain half, 12: all clocks' meeting, a clock inside another. -/
namespace L2
namespace Dl
open PySem PySem.Spec PyProof.Rows
theorem prodS_b3 {cs : List (Int × Int)} (h : ∀ c ∈ cs, CkOk 1000 c) (hl : cs.length ≤ 100) : (prodS cs).natAbs < 2 ^ 3000 := by
  have h1 := prodS_le (m := 1000) (by decide) fun c hc => ⟨(h c hc).1, (h c hc).2.1⟩
  have h0 := prodS_pos fun c hc => (h c hc).1
  have h2 : (1000 : Int) ^ cs.length ≤ 1000 ^ 100 := by
    have : (1000 : Nat) ^ cs.length ≤ 1000 ^ 100 := Nat.pow_le_pow_right (by decide) hl
    exact_mod_cast this
  have h3 : ((1000 : Int) ^ 100).natAbs < 2 ^ 3000 := by decide +kernel
  exact nab_lt (by omega) (Int.le_trans h1 h2) h3
end Dl
end L2

/-! The plain half, 13: times; whole numbers; things of any kind. -/
namespace L2
namespace Dl
open PySem PySem.Spec PyProof.Rows
/-- tuples are of no overgreat length -/
def TL (d : PyData) : Prop := ∀ xs, d = .tuple xs → xs.length ≤ 1000
theorem TL.no {d : PyData} (h : ∀ xs, d ≠ .tuple xs) : TL d := fun xs e => absurd e (h xs)
theorem TL.tup {xs : List PyData} (h : xs.length ≤ 1000) : TL (.tuple xs) := fun ys e => by
  cases e
  exact h
end Dl
end L2

/-! The plain half, 14: clocks of splits, of ways, wide ones. -/
namespace L2
namespace Dl
open PySem PySem.Spec PyProof.Rows
local macro_rules | `(tactic| dsimp? [$xs,*] $[$l]?) => `(tactic| simp only [wSeq, wNext, wBreak, wCont, wDrop, wRet, wRetN, wIfS, wSet, wAsgT, e_aug, e_setIx, e_par, e_gN, getS_0, getS_s, setS_0, setS_s, e_var, varK_v, varK_o, varK_u, wC, wBin, rdK_v, rdK_t, rdK_s, rdS_v, rdS_o, rdS_u, fzK_v, fzK_t, fzK_s, fzS_v, fzS_o, fzS_l, fzS_u, e_fz, asg_v, asg_t, asg_s, e_tb, tbK_b, wAnd, wOr, wNot, e_notV, e_andV, e_orV, wBV, wIf, e_neg, intK_i, e_oso, wONo, e_rng1, e_rng2, wFNil, wFCons, wANil, wACons, wTup, wLst, e_callB, rdAllK_n, rdAllK_c, wIsi, e_call, wMNil, wMCons, e_ld, lnsOf, avsK_n, avsK_f, avsK_l, lnS_o, lnS_v, lnS_u, poK_n, poK_c, poS_o, inS_0, inS_s, rsK_v, rsK_o, wSl, e_ownF, e_own0, ownB_o, oS_o, oS_v, oS_u, agS_i, muApp, oAdd_i, oAdd_l, oAdd_t, oAdd_s, oSub_i, oMul_i, oFdiv_i, oMod_i, oPow_i, oShl_i, oShr_i, oOr_i, oAndB_i, oLt_i, oLe_i, oGt_i, oGe_i, oEq_i, oNe_i, oEq, oNe, oIx_l, oIx_t, oLen_l, oLen_t, oInt_i, oInt_b, oMax_i, oMin_i, oList_l, oList_t, oTuple_l, oTuple_t, oSorted_l, oSorted_t, oIs_n, oIsN_n, oIs_b, oIsN_b, isNone_n, isNone_t, isNone_l, isNone_i, isNone_s, isNone_b, oSl_l, oSl_t, oIn, gT_t, gC_c, gNil', e_iseq, sqK_l, sqK_t, e_isq, sq2K_l, sq2K_t, e_sset, ssK_l, ssK_t, e_chain, e_lr1, e_lr2, wRev, rvD_l, rvD_t, e_in1, e_in2, negB_f, negB_t, wIZip, zpK_l, zpK_t, zpK_m, e_extend, extR_t, wYes, startEv, kenD_nx, kenD_rt, kenD_bk, kenD_ct, kenD_ex, outK_n, outK_c, otS_o, rvK_v, rvK_t, rvK_s, rvS_v, rvS_o, slOf, lsFrom, wipeE, restE, List.map_cons, List.map_nil, List.length_cons, List.length_nil, List.replicate, List.append_nil, List.cons_append, List.nil_append, List.getElem?_cons_zero, List.getElem?_cons_succ, List.getElem?_nil, List.set_cons_zero, List.set_cons_succ, List.set_nil, Option.getD_some, Option.getD_none, Option.map_some, Option.map_none, Option.some.injEq, Rs.val.injEq, Rs.tmp.injEq, Rs.slot.injEq, Sl.own.injEq, Sl.val.injEq, PyData.int.injEq, PyData.bool.injEq, PyData.str.injEq, PyData.list.injEq, PyData.tuple.injEq, Prod.mk.injEq, Nat.sub_self, Nat.zero_add, Nat.reduceAdd, Nat.reduceSub, Nat.add_zero, isTy_int_int, isTy_bool_int, isTy_int_bool, isTy_bool_bool, isTy_int_tup, isTy_int_lst, isTy_int_non, isTy_int_str, isTy_tup_tup, isTy_tup_lst, isTy_tup_int, isTy_tup_bool, isTy_tup_non, isTy_tup_str, isTy_lst_lst, isTy_lst_tup, isTy_lst_int, exists_eq_left', exists_eq_left, exists_and_left, exists_eq_right, exists_eq, exists_eq', exists_const, true_and, and_true, and_self, Bool.not_true, Bool.not_false, if_true, if_false, Bool.false_eq_true, reduceIte, reduceCtorEq, List.nodup_nil, decide_eq_true_eq, atI_0, atI_1, atI_2, atI_3, atI_4, atI_5, atI_6, atI_7, atI_8, atI_9, atI_10, atI_11, ixN_3_0, ixN_3_1, ixN_3_2, sh_int, sh_bool, sh_non, and_assoc, nd1, nd_true, eq_self, decide_true, decide_false, Int.cast_ofNat_Int, not_true_eq_false, not_false_eq_true, eqv_ii, eqv_bb, wRaise0, e_raiseG, grK_i, e_raise1, onK_i, e_callX, xa_1, xa_2, xa_3, xa_4, xa_5, xa_6, xa_7, e_many, e_most, e_number, e_row, isLst_l, lsK_l, e_rd, e_br, brS_o, brS_v, arS_o, arS_v, avbK_n, avbK_f, avbK_l, scK_b, scK_i, scK_n, scK_s, e_callS, tmK_t, e_rep, enK_l, e_ienum, wTry, eqv_ss, tpK_v, txK_1, tutK_t, e_repT, e_callT, enTK_t, e_ienumT, r3K_i, e_rng3, e_newD, e_putD, e_lenD, e_listD, dcS_d, dcB_d, pvK_b, pvK_i, tkK_m, tkK_2, e_ssetI, oMinL_c, e_lset, e_lstZ, zlK_c, e_ins, e_callF, $xs,*] $[$l]?)
/-- as drawn clocks are: their round is at most 720 -/
def Ck7 (c : Int × Int) : Prop := CkOk 24 c ∧ c.1 ∣ 720
theorem Ck7.all {cs : List (Int × Int)} (h : ∀ c ∈ cs, Ck7 c) : ∀ c ∈ cs, CkOk 24 c := fun c hc => (h c hc).1
theorem em_mul {n st k : Int} (h : 1 ≤ st) : n % (st * k) = n % st + st * (n / st % k) := by
  have e : n / (st * k) = n / st / k := by
    rw [Int.ediv_ediv, if_neg (fun h => by have := h.1; omega), Int.sub_zero]
  rw [Int.emod_def, Int.emod_def n st, Int.emod_def (n / st) k, Int.mul_sub, e, Int.mul_assoc]
  omega
/-- just one rings, always; short ones have small steps -/
def SpW (cs : List (Int × Int)) : Prop := (∀ n, (rgF cs n).length = 1) ∧ ∀ c ∈ cs, 2 * c.1 ≤ 2 ^ cs.length
theorem SpW.one : SpW [(1, 0)] := ⟨fun n => by
  have : n % 1 = 0 := Int.emod_one n
  simp [rgF, this], fun c h => by
  rw [List.mem_singleton] at h
  subst h
  decide⟩
theorem rg_aux {N st re k r v : Int} (e : N = r + st * v) (h2 : 0 ≤ re) (h3 : re < st) (r0 : 0 ≤ r) (r1 : r < st) (v0 : 0 ≤ v) (v1 : v < k) (hk : 2 ≤ k ∧ k ≤ 3) :
    ((List.range k.toNat).filter fun (i : Nat) => decide (N = re + st * (i : Int))).length = if r = re then 1 else 0 := by
  subst e
  obtain rfl | rfl : k = 2 ∨ k = 3 := by omega
  · rw [show (List.range (2 : Int).toNat) = [0, 1] from rfl]
    simp only [List.filter_cons, List.filter_nil, decide_eq_true_eq]
    rw [show st * ((0 : Nat) : Int) = 0 from Int.mul_zero st, show st * ((1 : Nat) : Int) = st from Int.mul_one st]
    obtain rfl | rfl : v = 0 ∨ v = 1 := by omega
    · rw [Int.mul_zero]
      repeat' split
      all_goals (try simp only [List.length_cons, List.length_nil]) <;> omega
    · rw [Int.mul_one]
      repeat' split
      all_goals (try simp only [List.length_cons, List.length_nil]) <;> omega
  · rw [show (List.range (3 : Int).toNat) = [0, 1, 2] from rfl]
    simp only [List.filter_cons, List.filter_nil, decide_eq_true_eq]
    rw [show st * ((0 : Nat) : Int) = 0 from Int.mul_zero st, show st * ((1 : Nat) : Int) = st from Int.mul_one st, show st * ((2 : Nat) : Int) = st + st by rw [show ((2 : Nat) : Int) = 1 + 1 from rfl, Int.mul_add, Int.mul_one]]
    obtain rfl | rfl | rfl : v = 0 ∨ v = 1 ∨ v = 2 := by omega
    · rw [Int.mul_zero]
      repeat' split
      all_goals (try simp only [List.length_cons, List.length_nil]) <;> omega
    · rw [Int.mul_one]
      repeat' split
      all_goals (try simp only [List.length_cons, List.length_nil]) <;> omega
    · rw [show st * (2 : Int) = st + st by omega]
      repeat' split
      all_goals (try simp only [List.length_cons, List.length_nil]) <;> omega
theorem rg_parts {n st re k : Int} (h1 : 1 ≤ st) (h2 : 0 ≤ re) (h3 : re < st) (hk : 2 ≤ k ∧ k ≤ 3) : (rgF ((List.range k.toNat).map fun (i : Nat) => (st * k, re + st * (i : Int))) n).length = (rgF [(st, re)] n).length := by
  have e := rg_aux (em_mul (n := n) (k := k) h1) h2 h3 (Int.emod_nonneg n (show st ≠ 0 by omega)) (Int.emod_lt_of_pos n (show 0 < st by omega)) (Int.emod_nonneg (n / st) (show k ≠ 0 by omega)) (Int.emod_lt_of_pos (n / st) (show 0 < k by omega)) hk
  unfold rgF
  rw [List.filter_map, List.length_map]
  refine Eq.trans e ?_
  rw [List.filter_cons, List.filter_nil]
  by_cases z : n % st = re
  · rw [if_pos z, if_pos (decide_eq_true z)]
    rfl
  · rw [if_neg z, if_neg (by rw [decide_eq_false z]; decide)]
    rfl
theorem SpW.put {cs : List (Int × Int)} {j : Nat} {k : Int} (h : SpW cs) (hj : j < cs.length) (h1 : 1 ≤ cs[j].1) (h2 : 0 ≤ cs[j].2) (h3 : cs[j].2 < cs[j].1) (hk : 2 ≤ k ∧ k ≤ 3) :
    SpW (cs.take j ++ ((List.range k.toNat).map fun (i : Nat) => (cs[j].1 * k, cs[j].2 + cs[j].1 * (i : Int))) ++ cs.drop (j + 1)) := by
  have sp : cs = cs.take j ++ cs[j] :: cs.drop (j + 1) := by rw [← List.drop_eq_getElem_cons hj, List.take_append_drop]
  have hl : (cs.take j ++ ((List.range k.toNat).map fun (i : Nat) => (cs[j].1 * k, cs[j].2 + cs[j].1 * (i : Int))) ++ cs.drop (j + 1)).length = cs.length + k.toNat - 1 := by
    simp only [List.length_append, List.length_map, List.length_range, List.length_take, List.length_drop]
    omega
  refine ⟨fun n => ?_, fun c hc => ?_⟩
  · have e := h.1 n
    rw [sp] at e
    have e2 := rg_parts (n := n) (k := k) h1 h2 h3 hk
    unfold rgF at *
    rw [List.filter_append, List.length_append, List.filter_cons] at e
    rw [List.filter_append, List.filter_append, List.length_append, List.length_append, e2, List.filter_cons, List.filter_nil]
    by_cases z : n % cs[j].1 = cs[j].2
    · rw [if_pos (decide_eq_true z)] at e ⊢
      simp only [List.length_cons, List.length_nil] at e ⊢
      omega
    · rw [if_neg (by rw [decide_eq_false z]; decide)] at e ⊢
      simp only [List.length_nil] at e ⊢
      omega
  · rw [hl]
    have up : (2 : Int) ^ (cs.length + k.toNat - 1) = 2 ^ cs.length * 2 ^ (k.toNat - 1) := by rw [← Int.pow_add]; congr 1; omega
    have p0 : (0 : Int) < 2 ^ cs.length := Int.pow_pos (by decide)
    have old : ∀ d ∈ cs, 2 * d.1 ≤ 2 ^ (cs.length + k.toNat - 1) := fun d hd => by
      have := h.2 d hd
      rw [up]
      obtain rfl | rfl : k = 2 ∨ k = 3 := by omega
      · rw [show (2 : Int) ^ ((2 : Int).toNat - 1) = 2 from rfl]; omega
      · rw [show (2 : Int) ^ ((3 : Int).toNat - 1) = 4 from rfl]; omega
    rcases List.mem_append.mp hc with hc | hc
    · rcases List.mem_append.mp hc with hc | hc
      · exact old c (List.mem_of_mem_take hc)
      · obtain ⟨i, _, rfl⟩ := List.mem_map.mp hc
        have := h.2 _ (List.getElem_mem hj)
        show 2 * (cs[j].1 * k) ≤ _
        rw [up]
        generalize cs[j].1 = s at *
        obtain rfl | rfl : k = 2 ∨ k = 3 := by omega
        · rw [show (2 : Int) ^ ((2 : Int).toNat - 1) = 2 from rfl]; omega
        · rw [show (2 : Int) ^ ((3 : Int).toNat - 1) = 4 from rfl]; omega
    · exact old c (List.mem_of_mem_drop hc)
theorem cle_total (a b : Int × Int) : (cle a b || cle b a) = true := by
  unfold cle
  simp only [Bool.or_eq_true, decide_eq_true_eq]
  omega
theorem cle_trans (a b c : Int × Int) (h1 : cle a b = true) (h2 : cle b c = true) : cle a c = true := by
  unfold cle at *
  simp only [decide_eq_true_eq] at *
  omega
theorem sort_clt {cs : List (Int × Int)} (nd : cs.Nodup) : (cs.mergeSort cle).Pairwise clt := by
  have h1 : (cs.mergeSort cle).Pairwise (fun a b => cle a b = true) := List.pairwise_mergeSort (fun a b c => cle_trans a b c) (fun a b => cle_total a b) cs
  have h2 : (cs.mergeSort cle).Nodup := (List.mergeSort_perm cs cle).nodup_iff.mpr nd
  refine List.Pairwise.imp (fun {a b} ⟨x, y⟩ => ?_) (h1.and h2)
  unfold cle at x
  simp only [decide_eq_true_eq] at x
  unfold clt
  by_cases e : a.1 = b.1
  · have : a.2 ≠ b.2 := fun z => y (Prod.ext e z)
    omega
  · omega
end Dl
end L2

/-! The plain half, 15: small helpers. -/
namespace L2
namespace Dl
open PySem PySem.Spec PyProof.Rows
theorem eqv_tnil (xs : List PyData) : PyData.eqv (.tuple xs) (.tuple []) = xs.isEmpty := by cases xs <;> rfl
theorem eqv_lnil (xs : List PyData) : PyData.eqv (.list xs) (.list []) = xs.isEmpty := by cases xs <;> rfl
def iv : PyData → Int
  | .int n => n
  | _ => 0
end Dl
end L2

/-! The plain half, 16: refusals; rounds gone through. -/
namespace L2
namespace Dl
open PySem PySem.Spec PyProof.Rows
/-- clocks as all are -/
structure GC (cs : List (Int × Int)) : Prop where
  ok : ∀ c ∈ cs, CkOk 1000 c
  len : cs.length ≤ 100
theorem GC.one {cs : List (Int × Int)} (h : GC cs) : ∀ c ∈ cs, 1 ≤ c.1 := fun c z => (h.ok c z).1
theorem GC.pb3 {cs : List (Int × Int)} (h : GC cs) : (prodS cs).natAbs < 2 ^ 3000 := prodS_b3 h.ok h.len
theorem GC.pb {cs : List (Int × Int)} (h : GC cs) : (prodS cs).natAbs < 2 ^ 8000 := prodS_b h.ok h.len
theorem GC.rp {cs : List (Int × Int)} (h : GC cs) : 0 < rnd 1 cs := (rnd_spec cs 1 (by decide) h.one).1
theorem GC.rb {cs : List (Int × Int)} (h : GC cs) : (rnd 1 cs).natAbs < 2 ^ 3000 := nab_lt (by have := h.rp; omega) (by have := rnd_le (f := 1) (by decide) h.one; omega) h.pb3
theorem GC.rok {cs : List (Int × Int)} (h : GC cs) {Q : List (Int × Int) → Prop} (q : Q cs) : RndOk (cks cs) Q := ⟨cs, rfl, h.one, h.pb, q⟩
theorem GC.nil : GC [] := ⟨fun _ z => (by cases z), by decide⟩
theorem GC.of {m : Int} {cs : List (Int × Int)} (hm : m ≤ 1000) (h : ∀ c ∈ cs, CkOk m c) (hl : cs.length ≤ 100) : GC cs := ⟨ck_mono hm h, hl⟩
/-- 0, 1, .. below n -/
def rgI (n : Int) : List Int := (List.range n.toNat).map fun (i : Nat) => (i : Int)
theorem rgI_d (n : Int) : ((List.range n.toNat).map fun (i : Nat) => PyData.int (i : Int)) = (rgI n).map .int := by
  unfold rgI
  rw [List.map_map]
  rfl
theorem rgI_len (n : Int) : (rgI n).length = n.toNat := by unfold rgI; rw [List.length_map, List.length_range]
theorem rgI_mem {n m : Int} : m ∈ rgI n ↔ 0 ≤ m ∧ m < n := by
  unfold rgI
  constructor
  · intro h
    obtain ⟨i, hi, rfl⟩ := List.mem_map.mp h
    have := List.mem_range.mp hi
    omega
  · intro ⟨h1, h2⟩
    exact List.mem_map.mpr ⟨m.toNat, List.mem_range.mpr (by omega), by omega⟩
/-- a for that returns the first that is so -/
theorem each_find {β : Type} {g : WG} {t : WS} {k : Ken} (en : β → PyData) (xs : List β) (p : β → Bool) (J : Ev → Prop) (fin : ∀ e, J e → xs.find? p = none → k.nx e)
    (step : ∀ n ∈ xs, ∀ e (R : Ev → Prop), J e → (p n = true → xs.find? p = some n) → (p n = false → ∀ e2, J e2 → R e2) → g (en n) e (fun e1 => t e1 { k with nx := R, ct := R, bk := k.nx })) :
    ∀ e, J e → wEach g t (xs.map en) e k := by
  have gen : ∀ (l : List β) e, (∀ n ∈ l, n ∈ xs) → xs.find? p = l.find? p → J e → wEach g t (l.map en) e k := by
    intro l
    induction l with
    | nil => intro e _ hf h; exact fin e h (by rw [hf]; rfl)
    | cons n l ih =>
      intro e hs hf h
      refine step n (hs n List.mem_cons_self) e _ h (fun hp => by rw [hf, List.find?_cons_of_pos hp]) fun hp e2 h2 => ?_
      exact ih e2 (fun m hm => hs m (List.mem_cons_of_mem _ hm)) (by rw [hf, List.find?_cons_of_neg (by rw [hp]; decide)]) h2
  exact fun e h => gen xs e (fun _ z => z) rfl h
/-! ### what an exception is called -/
end Dl
end L2

/-! The plain half, 17: what goes round: missed numbers. -/
namespace L2
namespace Dl
open PySem PySem.Spec PyProof.Rows
/-! a list that is as it is due, of whole numbers -/
theorem ints_inj : ∀ {a b : List Int}, a.map PyData.int = b.map PyData.int → a = b
  | [], [], _ => rfl
  | [], _ :: _, h => by cases h
  | _ :: _, [], h => by cases h
  | x :: a, y :: b, h => by
    simp only [List.map_cons, List.cons.injEq, PyData.int.injEq] at h
    rw [h.1, ints_inj h.2]
theorem io_ints (ns : List Int) : io.ioAll (ns.map .int) = true := io_all fun d h => by
  obtain ⟨c, _, rfl⟩ := List.mem_map.mp h
  rfl
theorem eqv_lin (a b : List Int) : PyData.eqv (.list (a.map .int)) (.list (b.map .int)) = decide (a = b) := by
  have q := eqv_io (.list (a.map .int)) (.list (b.map .int)) (io_ints a) (io_ints b)
  by_cases h : a = b
  · subst h
    rw [decide_eq_true rfl]
    exact q.mpr rfl
  · rw [decide_eq_false h]
    cases e : PyData.eqv (.list (a.map .int)) (.list (b.map .int)) with
    | false => rfl
    | true => exact absurd (ints_inj (by simpa using q.mp e)) h
theorem eqv_tin (a b : List Int) : PyData.eqv (.tuple (a.map .int)) (.tuple (b.map .int)) = decide (a = b) := eqv_lin a b

end Dl
end L2

/-! The plain half, 18: clocks in order, stretched, put in. -/
namespace L2
namespace Dl
open PySem PySem.Spec PyProof.Rows
/-! clocks rising, each once -/
theorem clt_tr {a b c : Int × Int} (h1 : clt a b) (h2 : clt b c) : clt a c := by
  unfold clt at *
  omega
theorem clt_ir {a : Int × Int} (h : clt a a) : False := by
  unfold clt at h
  omega
theorem clt_uniq : ∀ {M N : List (Int × Int)}, M.Pairwise clt → N.Pairwise clt → (∀ c, c ∈ M ↔ c ∈ N) → M = N
  | [], [], _, _, _ => rfl
  | [], b :: N, _, _, h => by cases (h b).mpr List.mem_cons_self
  | a :: M, [], _, _, h => by cases (h a).mp List.mem_cons_self
  | a :: M, b :: N, h1, h2, h => by
    obtain ⟨p1, q1⟩ := List.pairwise_cons.mp h1
    obtain ⟨p2, q2⟩ := List.pairwise_cons.mp h2
    have e : a = b := by
      rcases List.mem_cons.mp ((h a).mp List.mem_cons_self) with z | z
      · exact z
      · rcases List.mem_cons.mp ((h b).mpr List.mem_cons_self) with y | y
        · exact y.symm
        · exact (clt_ir (clt_tr (p1 b y) (p2 a z))).elim
    subst e
    rw [clt_uniq q1 q2 fun c => ?_]
    constructor
    · intro hc
      rcases List.mem_cons.mp ((h c).mp (List.mem_cons_of_mem _ hc)) with z | z
      · subst z; exact (clt_ir (p1 c hc)).elim
      · exact z
    · intro hc
      rcases List.mem_cons.mp ((h c).mpr (List.mem_cons_of_mem _ hc)) with z | z
      · subst z; exact (clt_ir (p2 c hc)).elim
      · exact z
/-- each once, rising -/
def ordC (cs : List (Int × Int)) : List (Int × Int) := cs.eraseDups.mergeSort cle
theorem clt_nodup {cs : List (Int × Int)} (h : cs.Pairwise clt) : cs.Nodup := h.imp fun {a b} z e => by subst e; exact clt_ir z
def InO (ds : List PyData) (K : List (Int × Int) → Prop) : Prop := ∃ (m : Int) (cs : List (Int × Int)), ds = cks cs ∧ m ≤ 2 ^ 60 ∧ (∀ c ∈ cs, CkOk m c) ∧ cs.length < 64 ∧ K (ordC cs)
theorem InO.mk {m : Int} {cs : List (Int × Int)} {K : List (Int × Int) → Prop} (hm : m ≤ 2 ^ 60) (h : ∀ c ∈ cs, CkOk m c) (hl : cs.length < 64) (k : K (ordC cs)) : InO (cks cs) K := ⟨m, cs, rfl, hm, h, hl, k⟩
theorem sh_ck (c : Int × Int) : SeqAt.shaped (ck c) = true := (ShN.ck c).sh (by decide)
/-! what is told of a refusal -/
end Dl
end L2

/-! The plain half, 19: clocks that ring alone; no places. -/
namespace L2
namespace Dl
open PySem PySem.Spec PyProof.Rows

def optI : Option Int → PyData
  | some n => .int n
  | none => .none
theorem each_all {β : Type} {g : WG} {t : WS} {k : Ken} (en : β → PyData) (xs : List β) (J : Ev → Prop) (fin : ∀ e, J e → k.nx e)
    (step : ∀ n ∈ xs, ∀ e (R : Ev → Prop), J e → (∀ e2, J e2 → R e2) → g (en n) e (fun e1 => t e1 { k with nx := R, ct := R, bk := k.nx })) :
    ∀ e, J e → wEach g t (xs.map en) e k :=
  each_find en xs (fun _ => false) J (fun e h _ => fin e h) fun n hn e R h _ ih => step n hn e R h (ih rfl)
theorem lc_fl {β : Type} {vs : List Nat} {g : WG} {ct : WT} {we : WE} {K : Ev → List PyData → Prop} {env : Ev} (en : β → PyData) (p : β → Bool) (xs : List β) (hl : xs.length ≤ 100000)
    (h : ∀ c ∈ xs, ∀ (A : PyData → Ev → Prop) (N : Ev → Prop), (if p c = true then A (en c) env else N env) → g (en c) env (fun e1 => ct e1 (fun e2 b => if b = true then wFz we e2 (fun e3 y => A y (wipeE e3 vs)) NoX else N (wipeE e2 vs)) NoX))
    (hK : K env ((xs.filter p).map en)) : wLcE vs g ct we (xs.map en) [] env K := by
  refine lc_fm en (fun c => if p c = true then some (en c) else none) xs [] (fun c hn A N hA => h c hn A N ?_) (small100000 (by rw [List.length_nil]; omega)) ?_
  · generalize p c = z at *
    cases z with
    | true => exact hA
    | false => exact hA
  · have e : xs.filterMap (fun c => if p c = true then some (en c) else none) = (xs.filter p).map en := by
      clear hK h hl
      induction xs with
      | nil => rfl
      | cons x xs ih =>
        rw [List.filterMap_cons, List.filter_cons]
        cases hx : p x with
        | true =>
          simp only [if_true, List.map_cons]
          rw [ih]
        | false =>
          simp only [Bool.false_eq_true, if_false]
          rw [ih]
    rw [List.nil_append, e]
    exact hK


end Dl
end L2

/-! The plain half, 20: clocks mirrored, stretched; numbers; what rings. -/
namespace L2
namespace Dl
open PySem PySem.Spec PyProof.Rows
end Dl
end L2

/-! The plain half, 21: what is a clock; where two meet, by looking. -/
namespace L2
namespace Dl
open PySem PySem.Spec PyProof.Rows
theorem Meets.mod {c d : Int × Int} {x : Int} : Meets c d (x % lcm2 c d) ↔ Meets c d x := by
  unfold Meets
  rw [Rg.mod (lcm2_l c d), Rg.mod (lcm2_r c d)]
end Dl
end L2

/-! The plain half, 22: clocks good or not, told by anybody. -/
namespace L2
namespace Dl
open PySem PySem.Spec PyProof.Rows
def cltB (c d : Int × Int) : Bool := decide (c.1 < d.1 ∨ (c.1 = d.1 ∧ c.2 < d.2))
theorem dlt_ck (c d : Int × Int) : PySem.W.dataLt (ck c) (ck d) = cltB c d := PySem.W.dataLt_ii _ _ _ _
theorem cltB_iff {c d : Int × Int} : cltB c d = true ↔ clt c d := by unfold cltB clt; exact decide_eq_true_iff
end Dl
end L2

/-! The plain half, 23: papers of cases. -/
namespace L2
namespace Dl
open PySem PySem.Spec PyProof.Rows
/-- set rests, None where none is -/
abbrev kps (ks : List (Option Int)) : List PyData := ks.map optI
def fr (ks : List (Option Int)) (i : Nat) : Bool := match ks[i]? with
  | some none => true
  | _ => false
/-- the places of those not set, below m -/
def freeU (ks : List (Option Int)) (m : Nat) : List Nat := (List.range m).filter (fr ks)
abbrev freeI (ks : List (Option Int)) : List Nat := freeU ks ks.length
end Dl
end L2

/-! The plain half, 24: comprehensions that draw. -/
namespace L2
namespace Dl
open PySem PySem.Spec PyProof.Rows
/-- a comprehension whose items draw (no if) -/
theorem lc_st {β : Type} {vs : List Nat} {g : WG} {we : WE} {K : Ev → List PyData → Prop} (en : β → PyData) (Q : PyData → Prop) (J : Ev → Prop) : ∀ (xs : List β) (acc : List PyData) (e : Ev), J e → (∀ d ∈ acc, Q d) → acc.length + xs.length ≤ 100000 →
    (∀ acc' e, J e → (∀ d ∈ acc', Q d) → acc'.length = acc.length + xs.length → K e acc') →
    (∀ x ∈ xs, ∀ e, J e → ∀ (A : PyData → Ev → Prop), (∀ y e2, Q y → J e2 → A y e2) → g (en x) e (fun e1 => wFz we e1 (fun e3 y => A y (wipeE e3 vs)) NoX)) → wLcE vs g wYes we (xs.map en) acc e K
  | [], acc, e, h1, h2, _, hf, _ => hf acc e h1 h2 (by rw [List.length_nil, Nat.add_zero])
  | x :: xs, acc, e, h1, h2, h3, hf, hs => by
    show g (en x) e (fun e1 => wFz we e1 (fun e3 y => acc.length < sizeLine ∧ wLcE vs g wYes we (xs.map en) (acc ++ [y]) (wipeE e3 vs) K) NoX)
    refine hs x List.mem_cons_self e h1 (fun y e2 => acc.length < sizeLine ∧ wLcE vs g wYes we (xs.map en) (acc ++ [y]) e2 K) fun y e2 hy he => ?_
    rw [List.length_cons] at h3
    refine ⟨Nat.lt_of_lt_of_le (by omega : acc.length < 100000) (by decide), lc_st en Q J xs _ e2 he (fun d hd => ?_) (by rw [List.length_append, List.length_singleton]; omega) (fun acc' e' j1 j2 j3 => hf acc' e' j1 j2 (by rw [j3, List.length_append, List.length_singleton, List.length_cons]; omega)) fun x hx => hs x (List.mem_cons_of_mem _ hx)⟩
    rcases List.mem_append.mp hd with z | z
    · exact h2 d z
    · simp only [List.mem_singleton] at z
      subst z
      exact hy
end Dl
end L2

/-! The plain half, 25: steps, and rests that cover. -/
namespace L2
namespace Dl
open PySem PySem.Spec PyProof.Rows
def st0 (ns : List Int) : List (Int × Int) := ns.map fun s => (s, 0)
def stp : PyData → Bool
  | .int s => decide (2 ≤ s) && decide (s ≤ 24)
  | _ => false
def stB : PyData → Bool
  | .list xs => decide (1 ≤ xs.length) && (decide (xs.length ≤ 6) && xs.all stp)
  | _ => false
theorem stB_at (xs : List PyData) : stB (.list xs) = (decide (1 ≤ xs.length) && (decide (xs.length ≤ 6) && xs.all stp)) := rfl
theorem stB_ints {ns : List Int} (h1 : 1 ≤ ns.length) (h6 : ns.length ≤ 6) (hs : ∀ s ∈ ns, 2 ≤ s ∧ s ≤ 24) : stB (.list (ns.map .int)) = true := by
  rw [stB_at, List.length_map, decide_eq_true h1, decide_eq_true h6, Bool.true_and, Bool.true_and, List.all_map, List.all_eq_true]
  intro s h
  have := hs s h
  show (decide (2 ≤ s) && decide (s ≤ 24)) = true
  rw [decide_eq_true this.1, decide_eq_true this.2]
  rfl
/-- what steps are refused, and what is told of the others -/
def StK (d : PyData) (X : Prop) (K : List Int → Prop) : Prop := (stB d = false → X) ∧ ∀ ns : List Int, d = .list (ns.map .int) → 1 ≤ ns.length → ns.length ≤ 6 → (∀ s ∈ ns, 2 ≤ s ∧ s ≤ 24) → K ns
end Dl
end L2

/-! The plain half, 26: rests found and not found; papers of cases. -/
namespace L2
namespace Dl
open PySem PySem.Spec PyProof.Rows
/-! ### papers of cases -/
theorem each_rg {g : WG} {t : WS} {k : Ken} {n : Nat} (f : Nat → PyData) (J : Nat → Ev → Prop) (fin : ∀ e, J n e → k.nx e)
    (step : ∀ (i : Nat) e (R : Ev → Prop), i < n → J i e → (∀ e2, J (i + 1) e2 → R e2) → g (f i) e (fun e1 => t e1 { k with nx := R, ct := R, bk := k.nx })) (env : Ev) (h : J 0 env) : wEach g t ((List.range n).map f) env k := by
  have gen : ∀ (c a : Nat) e, a + c = n → J a e → wEach g t ((List.range' a c).map f) e k := by
    intro c
    induction c with
    | zero =>
      intro a e ha hJ
      have : a = n := by omega
      subst this
      exact fin e hJ
    | succ c ih =>
      intro a e ha hJ
      rw [List.range'_succ]
      exact step a e _ (by omega) hJ fun e2 h2 => ih (a + 1) e2 (by omega) h2
  rw [List.range_eq_range']
  exact gen n 0 env (by omega) h
theorem rgI_nodup (n : Int) : (rgI n).Nodup := by
  unfold rgI
  refine List.pairwise_map.mpr (List.nodup_range.imp fun {a b} h e => h (by omega))
end Dl
end L2

/-! The plain half, 27: marks. -/
namespace L2
namespace Dl
open PySem PySem.Spec PyProof.Rows
def rp : Int × PyData → Bool
  | (s, .int r) => decide (0 ≤ r) && decide (r < s)
  | _ => false
end Dl
end L2

/-! The plain half, 28: all rests, counted. -/
namespace L2
namespace Dl
open PySem PySem.Spec PyProof.Rows
/-- a for, by what it has gone over -/
theorem each_pre {β : Type} {g : WG} {t : WS} {k : Ken} (en : β → PyData) (all : List β) (J : List β → Ev → Prop) (fin : ∀ e, J all e → k.nx e)
    (step : ∀ (pre : List β) (x : β) (post : List β), all = pre ++ x :: post → ∀ e (R : Ev → Prop), J pre e → (∀ e2, J (pre ++ [x]) e2 → R e2) → g (en x) e (fun e1 => t e1 { k with nx := R, ct := R, bk := k.nx })) (e : Ev) (h : J [] e) : wEach g t (all.map en) e k := by
  have gen : ∀ (post pre : List β) (e : Ev), all = pre ++ post → J pre e → wEach g t (post.map en) e k := by
    intro post
    induction post with
    | nil =>
      intro pre e he hJ
      rw [List.append_nil] at he
      subst he
      exact fin e hJ
    | cons x post ih =>
      intro pre e he hJ
      exact step pre x post he e _ hJ fun e2 h2 => ih (pre ++ [x]) e2 (by rw [he, List.append_assoc]; rfl) h2
  exact gen all [] e rfl h
abbrev nats (ms : List Nat) : List PyData := ms.map fun (m : Nat) => PyData.int (m : Int)
theorem StK.good {ns : List Int} {X : Prop} {K : List Int → Prop} (h1 : 1 ≤ ns.length) (h6 : ns.length ≤ 6) (hs : ∀ s ∈ ns, 2 ≤ s ∧ s ≤ 24) (k : K ns) : StK (.list (ns.map .int)) X K := by
  refine ⟨fun h => ?_, fun ms e _ _ _ => ?_⟩
  · rw [stB_ints h1 h6 hs] at h
    cases h
  · have e2 : ns = ms := ints_inj (PyData.list.inj e)
    rw [← e2]
    exact k
end Dl
end L2

/-! The plain half, 29: the law's own look at rests. -/
namespace L2
namespace Dl
open PySem PySem.Spec PyProof.Rows

theorem rnd_c (f : Int) (c : Int × Int) (cs : List (Int × Int)) : rnd f (c :: cs) = rnd (f * c.1 / (Int.gcd f c.1 : Nat)) cs := rfl
end Dl
end L2

/-! The plain half, 30: clocks split; split papers. -/
namespace L2
namespace Dl
open PySem PySem.Spec PyProof.Rows
/-- no deeper than n, no wider than 8 -/
def SpN : Nat → PyData → Prop
  | 0, _ => False
  | n + 1, d => ∀ k ps, d = .tuple [k, .tuple ps] → ps.length ≤ 8 ∧ ∀ p ∈ ps, SpN n p
def pgB : Nat → PyData → Bool
  | 0, _ => false
  | _ + 1, .none => true
  | n + 1, .tuple [.int k, .tuple ps] => decide (2 ≤ k) && (decide ((ps.length : Int) = k) && ps.all (pgB n))
  | _ + 1, _ => false
theorem pgB_at (n : Nat) (k : Int) (ps : List PyData) : pgB (n + 1) (.tuple [.int k, .tuple ps]) = (decide (2 ≤ k) && (decide ((ps.length : Int) = k) && ps.all (pgB n))) := rfl
theorem SpN.up : ∀ {n : Nat} {d : PyData}, SpN n d → SpN (n + 1) d
  | 0, _, h => h.elim
  | n + 1, d, h => fun k ps e => ⟨(h k ps e).1, fun p hp => ((h k ps e).2 p hp).up⟩
theorem SpN.mono {m n : Nat} {d : PyData} (h : SpN m d) (hm : m ≤ n) : SpN n d := by
  induction n with
  | zero =>
    have : m = 0 := by omega
    subst this
    exact h
  | succ n ih =>
    by_cases e : m = n + 1
    · subst e
      exact h
    · exact (ih (by omega)).up
def PpN : Nat → PyData → Prop
  | 0, d => d = .none
  | n + 1, d => d = .none ∨ ∃ ps : List PyData, d = .tuple [.int (ps.length : Int), .tuple ps] ∧ 2 ≤ ps.length ∧ ps.length ≤ 7 ∧ ∀ p ∈ ps, PpN n p
theorem PpN.sp : ∀ {n : Nat} {d : PyData}, PpN n d → SpN (n + 1) d
  | 0, d, h => fun k ps e => by
    have h : d = .none := h
    subst h
    cases e
  | n + 1, d, h => fun k ps e => by
    rcases h with rfl | ⟨qs, rfl, h2, h7, hq⟩
    · cases e
    · cases e
      exact ⟨by omega, fun p hp => (hq p hp).sp⟩
theorem PpN.pg : ∀ {n : Nat} {d : PyData}, PpN n d → pgB (n + 1) d = true
  | 0, d, h => by
    have h : d = .none := h
    subst h
    rfl
  | n + 1, d, h => by
    rcases h with rfl | ⟨qs, rfl, h2, h7, hq⟩
    · rfl
    · rw [pgB_at, decide_eq_true (show (2 : Int) ≤ (qs.length : Int) by omega), decide_eq_true rfl, Bool.true_and, Bool.true_and, List.all_eq_true]
      exact fun p hp => (hq p hp).pg
end Dl
end L2

/-! The plain half, 31: split papers by least primes. -/
namespace L2
namespace Dl
open PySem PySem.Spec PyProof.Rows
end Dl
end L2

/-! The plain half, 33: cover papers looked at by anybody. -/
namespace L2
namespace Dl
open PySem PySem.Spec PyProof.Rows
end Dl
end L2

/-! The plain half, 34: cover papers found. -/
namespace L2
namespace Dl
open PySem PySem.Spec PyProof.Rows

end Dl
end L2

/-! The plain half, 35: misses, tallies, exactness, splits. -/
namespace L2
namespace Dl
open PySem PySem.Spec PyProof.Rows
theorem GC.put {cs : List (Int × Int)} {c : Int × Int} (h : GC cs) (hl : cs.length ≤ 90) (hc : CkOk 1000 c) : GC (cs ++ [c]) := ⟨fun d hd => by
  rcases List.mem_append.mp hd with z | z
  · exact h.ok d z
  · simp only [List.mem_singleton] at z
    rw [z]
    exact hc, by rw [List.length_append, List.length_singleton]; omega⟩
theorem shn_pr (a b : Int) : ShN 1 (.tuple [.int a, .int b]) := ShN.ck (a, b)
theorem sh_pr (a b : Int) : SeqAt.shaped (.tuple [.int a, .int b]) = true := (shn_pr a b).sh (by decide)
end Dl
end L2

/-! The plain half, 36: exact clocks cover; sums over a round. -/
namespace L2
namespace Dl
open PySem PySem.Spec PyProof.Rows
def sumN (f : Nat → Int) : Nat → Int
  | 0 => 0
  | n + 1 => sumN f n + f n
theorem sumN_add (f : Nat → Int) (a : Nat) : ∀ b, sumN f (a + b) = sumN f a + sumN (fun n => f (a + n)) b
  | 0 => by show sumN f a = sumN f a + 0; omega
  | b + 1 => by
    show sumN f (a + b) + f (a + b) = sumN f a + (sumN (fun n => f (a + n)) b + f (a + b))
    rw [sumN_add f a b]
    omega
theorem sumN_congr {f g : Nat → Int} : ∀ {n : Nat}, (∀ i < n, f i = g i) → sumN f n = sumN g n
  | 0, _ => rfl
  | n + 1, h => by
    show sumN f n + f n = sumN g n + g n
    rw [sumN_congr fun i hi => h i (by omega), h n (by omega)]
theorem sumN_plus (f g : Nat → Int) : ∀ n, sumN (fun i => f i + g i) n = sumN f n + sumN g n
  | 0 => rfl
  | n + 1 => by
    show sumN (fun i => f i + g i) n + (f n + g n) = sumN f n + f n + (sumN g n + g n)
    rw [sumN_plus f g n]
    omega
theorem sumN_zero : ∀ n, sumN (fun _ => 0) n = 0
  | 0 => rfl
  | n + 1 => by
    show sumN (fun _ => 0) n + 0 = 0
    rw [sumN_zero n]
    rfl
/-- it rings there -/
def indC (c : Int × Int) (n : Nat) : Int := if (n : Int) % c.1 = c.2 then 1 else 0
theorem ind_blk {s r : Nat} (hr : r < s) : ∀ m ≤ s, sumN (indC ((s : Int), (r : Int))) m = if r < m then 1 else 0
  | 0, _ => by rw [if_neg (by omega)]; rfl
  | m + 1, h => by
    show sumN (indC ((s : Int), (r : Int))) m + indC ((s : Int), (r : Int)) m = _
    rw [ind_blk hr m (by omega)]
    unfold indC
    simp only
    rw [Int.emod_eq_of_lt (by omega) (by omega)]
    by_cases e : m = r
    · subst e
      rw [if_pos rfl, if_neg (by omega), if_pos (by omega)]
      rfl
    · rw [if_neg (show ¬ (m : Int) = (r : Int) by omega)]
      by_cases l : r < m
      · rw [if_pos l, if_pos (by omega)]; rfl
      · rw [if_neg l, if_neg (by omega)]; rfl
theorem ind_all {s r : Nat} (hr : r < s) : ∀ q : Nat, sumN (indC ((s : Int), (r : Int))) (s * q) = q
  | 0 => rfl
  | q + 1 => by
    rw [Nat.mul_succ, sumN_add, ind_all hr q]
    have e : sumN (fun n => indC ((s : Int), (r : Int)) (s * q + n)) s = sumN (indC ((s : Int), (r : Int))) s := sumN_congr fun i hi => by
      unfold indC
      simp only
      rw [Int.natCast_add, Int.natCast_mul, Int.mul_add_emod_self_left]
    rw [e, ind_blk hr s (Nat.le_refl _), if_pos hr]
    omega
theorem ind_cnt {c : Int × Int} {M : Int} (hc : CkOk 1000 c) (hd : c.1 ∣ M) (hM : 0 ≤ M) : sumN (indC c) M.toNat = M / c.1 := by
  obtain ⟨s, r⟩ := c
  obtain ⟨h1, h2, h3, h4⟩ := hc
  simp only at *
  obtain ⟨q, rfl⟩ := hd
  obtain ⟨s, rfl⟩ := Int.eq_ofNat_of_zero_le (show 0 ≤ s by omega)
  obtain ⟨r, rfl⟩ := Int.eq_ofNat_of_zero_le h3
  have q0 : 0 ≤ q := by
    by_cases z : 0 ≤ q
    · exact z
    · have := Int.mul_le_mul_of_nonneg_left (show q ≤ -1 by omega) (show (0 : Int) ≤ (s : Int) by omega)
      omega
  obtain ⟨q, rfl⟩ := Int.eq_ofNat_of_zero_le q0
  rw [Int.mul_ediv_cancel_left _ (by omega), show ((s : Int) * (q : Int)).toNat = s * q by rw [← Int.natCast_mul]; rfl]
  exact ind_all (by omega) q
/-- how many ring, all numbers of a round together -/
theorem rg_sum {M : Int} (hM : 0 ≤ M) : ∀ {cs : List (Int × Int)}, (∀ c ∈ cs, CkOk 1000 c ∧ c.1 ∣ M) → sumN (fun n => ((rgF cs (n : Int)).length : Int)) M.toNat = (cs.map fun c => M / c.1).sum
  | [], _ => by
    show sumN (fun _ => 0) _ = 0
    exact sumN_zero _
  | c :: cs, h => by
    rw [List.map_cons, List.sum_cons, ← rg_sum hM fun d hd => h d (List.mem_cons_of_mem _ hd), ← ind_cnt (h c List.mem_cons_self).1 (h c List.mem_cons_self).2 hM, ← sumN_plus]
    refine sumN_congr fun i _ => ?_
    unfold rgF indC
    rw [List.filter_cons]
    by_cases e : (i : Int) % c.1 = c.2
    · rw [if_pos e, if_pos (decide_eq_true e), List.length_cons]
      omega
    · rw [if_neg e, if_neg (by rw [decide_eq_false e]; decide)]
      omega
end Dl
end L2

/-! The plain half, 37: tuples of places, sorted. -/
namespace L2
namespace Dl
open PySem PySem.Spec PyProof.Rows
theorem alike_ints : ∀ a b : List Int, PySem.W.alikeAll (a.map .int) (b.map .int) = true
  | [], _ => by simp [PySem.W.alikeAll]
  | _ :: _, [] => by simp [PySem.W.alikeAll]
  | x :: a, y :: b => by
    have := alike_ints a b
    simp [PySem.W.alikeAll, PySem.W.alike, this]
end Dl
end L2

/-! The plain half, 38: marks of clocks; least covers. -/
namespace L2
namespace Dl
open PySem PySem.Spec PyProof.Rows
/-! the law's own way -/
def kc (c : Int × Int) : List Int := [c.1, c.2]
theorem keys_put (kvs : List (List Int × PyData)) (k : List Int) (d : PyData) : (putD kvs k d).map (·.1) = if k ∈ kvs.map (·.1) then kvs.map (·.1) else kvs.map (·.1) ++ [k] := by
  unfold putD
  by_cases h : (kvs.any fun p => decide (p.1 = k)) = true
  · have hm : k ∈ kvs.map (·.1) := by
      obtain ⟨p, hp, e⟩ := List.any_eq_true.mp h
      exact List.mem_map.mpr ⟨p, hp, of_decide_eq_true e⟩
    rw [if_pos h, if_pos hm, List.map_map]
    refine List.map_congr_left fun p _ => ?_
    show ((if p.1 = k then (p.1, d) else p) : List Int × PyData).1 = p.1
    split <;> rfl
  · have hm : ¬ k ∈ kvs.map (·.1) := fun z => by
      obtain ⟨p, hp, e⟩ := List.mem_map.mp z
      exact h (List.any_eq_true.mpr ⟨p, hp, decide_eq_true e⟩)
    rw [if_neg h, if_neg hm, List.map_append]
    rfl
theorem nd_len {α : Type} [DecidableEq α] : ∀ {L M : List α}, L.Nodup → (∀ x ∈ L, x ∈ M) → L.length ≤ M.length
  | [], _, _, _ => Nat.zero_le _
  | x :: L, M, nd, h => by
    rw [List.nodup_cons] at nd
    have hx := h x List.mem_cons_self
    have := nd_len (L := L) (M := M.erase x) nd.2 fun y hy => (List.mem_erase_of_ne (fun e => nd.1 (by subst e; exact hy))).mpr (h y (List.mem_cons_of_mem _ hy))
    rw [List.length_erase_of_mem hx] at this
    have := List.length_pos_of_mem hx
    rw [List.length_cons]
    omega
/-- those that rang alone up to here -/
def AlI (sm : List (Int × Int)) (pre : List Int) (kvs : List (List Int × PyData)) : Prop := (kvs.map (·.1)).Nodup ∧ ∀ k, k ∈ kvs.map (·.1) ↔ ∃ n ∈ pre, ∃ c, rgF sm n = [c] ∧ k = kc c
theorem AlI.put {sm : List (Int × Int)} {pre : List Int} {kvs : List (List Int × PyData)} {n : Int} {c : Int × Int} {d : PyData} (h : AlI sm pre kvs) (hc : rgF sm n = [c]) : AlI sm (pre ++ [n]) (putD kvs (kc c) d) := by
  obtain ⟨nd, mem⟩ := h
  unfold AlI
  rw [keys_put]
  by_cases hm : kc c ∈ kvs.map (·.1)
  · rw [if_pos hm]
    refine ⟨nd, fun k => ?_⟩
    rw [mem k]
    constructor
    · rintro ⟨m, hm, z⟩
      exact ⟨m, List.mem_append_left _ hm, z⟩
    · rintro ⟨m, hmm, e, h1, h2⟩
      rcases List.mem_append.mp hmm with z | z
      · exact ⟨m, z, e, h1, h2⟩
      · rw [List.mem_singleton] at z
        subst z
        rw [hc] at h1
        cases h1
        subst h2
        exact (mem _).mp hm
  · rw [if_neg hm]
    refine ⟨?_, fun k => ?_⟩
    · rw [List.nodup_append]
      refine ⟨nd, by simp, fun a ha b hb e => ?_⟩
      rw [List.mem_singleton] at hb
      subst hb e
      exact hm ha
    · rw [List.mem_append, mem k, List.mem_singleton]
      constructor
      · rintro (⟨m, hm, z⟩ | rfl)
        · exact ⟨m, List.mem_append_left _ hm, z⟩
        · exact ⟨n, List.mem_append_right _ List.mem_cons_self, c, hc, rfl⟩
      · rintro ⟨m, hmm, e, h1, h2⟩
        rcases List.mem_append.mp hmm with z | z
        · exact .inl ⟨m, z, e, h1, h2⟩
        · rw [List.mem_singleton] at z
          subst z
          rw [hc] at h1
          cases h1
          exact .inr h2
theorem AlI.len {sm : List (Int × Int)} {pre : List Int} {kvs : List (List Int × PyData)} (h : AlI sm pre kvs) : kvs.length ≤ sm.length := by
  have := nd_len (M := sm.map kc) h.1 fun k hk => by
    obtain ⟨n, _, c, h1, rfl⟩ := (h.2 k).mp hk
    have : c ∈ rgF sm n := by rw [h1]; exact List.mem_cons_self
    exact List.mem_map_of_mem (List.mem_filter.mp this).1
  rwa [List.length_map, List.length_map] at this
end Dl
end L2

/-! The plain half, 39: least covers: what they are, drawn clocks. -/
namespace L2
namespace Dl
open PySem PySem.Spec PyProof.Rows

/-! rising tuples of places -/
end Dl
end L2

/-! The plain half, 40: all sets of places; least covers in order. -/
namespace L2
namespace Dl
open PySem PySem.Spec PyProof.Rows

end Dl
end L2

/-! The plain half, 41: clocks seen within a clock. -/
namespace L2
namespace Dl
open PySem PySem.Spec PyProof.Rows
end Dl
end L2

/-! The plain half, 42: exact clocks are those of which just one rings; changed clocks. -/
namespace L2
namespace Dl
open PySem PySem.Spec PyProof.Rows
/-- just one rings -/
def One (cs : List (Int × Int)) : Prop := ∀ n, (rgF cs n).length = 1
theorem rg_mem {cs : List (Int × Int)} {n : Int} {c : Int × Int} : c ∈ rgF cs n ↔ c ∈ cs ∧ n % c.1 = c.2 := by
  unfold rgF
  rw [List.mem_filter, decide_eq_true_iff]
theorem One.perm {cs ds : List (Int × Int)} (h : One cs) (p : cs.Perm ds) : One ds := fun n => by
  rw [← h n]
  exact (p.filter _).length_eq.symm
/-! mirrored -/
theorem rnd_eq {cs ds : List (Int × Int)} (hc : ∀ c ∈ cs, 1 ≤ c.1) (hd : ∀ c ∈ ds, 1 ≤ c.1) (h1 : ∀ c ∈ cs, ∃ d ∈ ds, d.1 = c.1) (h2 : ∀ d ∈ ds, ∃ c ∈ cs, c.1 = d.1) : rnd 1 cs = rnd 1 ds := by
  obtain ⟨a1, a2, a3, a4⟩ := rnd_spec cs 1 (by decide) hc
  obtain ⟨b1, b2, b3, b4⟩ := rnd_spec ds 1 (by decide) hd
  have l1 := Int.le_of_dvd b1 (a4 (rnd 1 ds) (Int.one_dvd _) fun c h => by
    obtain ⟨d, hd, e⟩ := h1 c h
    rw [← e]
    exact b3 d hd)
  have l2 := Int.le_of_dvd a1 (b4 (rnd 1 cs) (Int.one_dvd _) fun d h => by
    obtain ⟨c, hc, e⟩ := h2 d h
    rw [← e]
    exact a3 c hc)
  omega
/-! stretched, and seen -/
/-! put in -/
/-- short covers by splits -/
theorem SpW.ok {cs : List (Int × Int)} (h : SpW cs) (hl : cs.length ≤ 3) (hc : ∀ c ∈ cs, CkOk 1000 c) : ∀ c ∈ cs, CkOk 4 c ∧ c.1 ∣ 12 := fun c hcm => by
  have h1 := h.2 c hcm
  obtain ⟨a1, a2, a3, a4⟩ := hc c hcm
  have h4 : c.1 ≤ 4 := by
    have : cs.length = 0 ∨ cs.length = 1 ∨ cs.length = 2 ∨ cs.length = 3 := by omega
    rcases this with e | e | e | e <;> rw [e] at h1
    · have : (2 : Int) ^ 0 = 1 := rfl
      omega
    · have : (2 : Int) ^ 1 = 2 := rfl
      omega
    · have : (2 : Int) ^ 2 = 4 := rfl
      omega
    · have : (2 : Int) ^ 3 = 8 := rfl
      omega
  refine ⟨⟨a1, h4, a3, a4⟩, ?_⟩
  have : c.1 = 1 ∨ c.1 = 2 ∨ c.1 = 3 ∨ c.1 = 4 := by omega
  rcases this with e | e | e | e <;> rw [e] <;> decide
end Dl
end L2

/-! The plain half, 43: papers of needs; least covers: there are some, none is part of another, the fewest. -/
namespace L2
namespace Dl
open PySem PySem.Spec PyProof.Rows
theorem lt_uniq : ∀ {M N : List Int}, M.Pairwise (· < ·) → N.Pairwise (· < ·) → (∀ c, c ∈ M ↔ c ∈ N) → M = N
  | [], [], _, _, _ => rfl
  | [], y :: N, _, _, h => by cases (h y).mpr List.mem_cons_self
  | x :: M, [], _, _, h => by cases (h x).mp List.mem_cons_self
  | x :: M, y :: N, h1, h2, h => by
    rw [List.pairwise_cons] at h1 h2
    have e : x = y := by
      rcases List.mem_cons.mp ((h x).mp List.mem_cons_self) with z | z
      · exact z
      · rcases List.mem_cons.mp ((h y).mpr List.mem_cons_self) with z2 | z2
        · exact z2.symm
        · have := h1.1 y z2
          have := h2.1 x z
          omega
    subst e
    rw [lt_uniq h1.2 h2.2 fun c => ⟨fun hc => ?_, fun hc => ?_⟩]
    · rcases List.mem_cons.mp ((h c).mp (List.mem_cons_of_mem _ hc)) with z | z
      · subst z
        have := h1.1 _ hc
        omega
      · exact z
    · rcases List.mem_cons.mp ((h c).mpr (List.mem_cons_of_mem _ hc)) with z | z
      · subst z
        have := h2.1 _ hc
        omega
      · exact z
theorem rgI_lt (n : Int) : (rgI n).Pairwise (· < ·) := by
  unfold rgI
  rw [List.pairwise_map]
  exact List.pairwise_lt_range.imp fun h => by omega
end Dl
end L2

/-! The plain half, 44: rests that cover, going round; all rests; the share. -/
namespace L2
namespace Dl
open PySem PySem.Spec PyProof.Rows
theorem rnd_fst : ∀ (cs : List (Int × Int)) (f : Int), rnd f cs = rnd f (st0 (cs.map (·.1)))
  | [], _ => rfl
  | c :: cs, f => by
    rw [rnd_c, rnd_fst cs]
    rfl
end Dl
end L2

/-! The plain half, 45: rests that cover: as many in another order; steps put in their stead; shares. -/
namespace L2
namespace Dl
open PySem PySem.Spec PyProof.Rows

/-! shares -/
theorem sumN_ge {f : Nat → Int} : ∀ {n : Nat}, (∀ i < n, 1 ≤ f i) → (n : Int) ≤ sumN f n
  | 0, _ => Int.le_refl _
  | n + 1, h => by
    have a := sumN_ge (f := f) (n := n) fun i hi => h i (by omega)
    have b := h n (by omega)
    show ((n + 1 : Nat) : Int) ≤ sumN f n + f n
    omega
/-! steps in the stead of others -/
end Dl
end L2

/-! The plain half, 46: tallies summed, clashes and unlike counts told. -/
namespace L2
namespace Dl
open PySem PySem.Spec PyProof.Rows
end Dl
end L2

/-! The plain half, 47: tuples of clocks, sorted. -/
namespace L2
namespace Dl
open PySem PySem.Spec PyProof.Rows
def tcl (c : List (Int × Int)) : PyData := .tuple (cks c)
def flC : List (Int × Int) → List Int
  | [] => []
  | c :: a => c.1 :: c.2 :: flC a
theorem flC_inj : ∀ {a b : List (Int × Int)}, flC a = flC b → a = b
  | [], [], _ => rfl
  | [], _ :: _, h => by cases h
  | _ :: _, [], h => by cases h
  | c :: a, d :: b, h => by
    simp only [flC, List.cons.injEq] at h
    rw [flC_inj h.2.2, Prod.ext h.1 h.2.1]
theorem alike_ck (c d : Int × Int) : PySem.W.alike (ck c) (ck d) = true := rfl
theorem alike_cks : ∀ a b : List (Int × Int), PySem.W.alikeAll (cks a) (cks b) = true
  | [], _ => by simp [PySem.W.alikeAll, cks]
  | _ :: _, [] => by simp [PySem.W.alikeAll, cks]
  | c :: a, d :: b => by
    have := alike_cks a b
    show PySem.W.alikeAll (ck c :: cks a) (ck d :: cks b) = true
    simp only [PySem.W.alikeAll, alike_ck, this, Bool.and_self]
theorem rows_ck : ∀ a b : List (Int × Int), PySem.W.rowLt (cks a) (cks b) = decide (flC a < flC b)
  | [], [] => PySem.W.dataLt_ints [] []
  | [], d :: b => by
    have e : PySem.W.rowLt [] (ck d :: cks b) = true := by
      unfold PySem.W.rowLt
      rw [PySem.W.toks_all_cons]
      simp only [PySem.W.keyToksAll]
      rw [PyProof.Rows.lex_diff (O := PyProof.Rows.itemOrd) (by simp)]
      rfl
    show PySem.W.rowLt [] (ck d :: cks b) = _
    rw [e]
    simp [flC]
  | c :: a, [] => by
    have e : PySem.W.rowLt (ck c :: cks a) [] = false := by
      unfold PySem.W.rowLt
      rw [PySem.W.toks_all_cons]
      simp only [PySem.W.keyToksAll]
      rw [PyProof.Rows.lex_diff (O := PyProof.Rows.itemOrd) (by simp)]
      rfl
    show PySem.W.rowLt (ck c :: cks a) [] = _
    rw [e]
    simp [flC]
  | c :: a, d :: b => by
    have e : PySem.W.rowLt (ck c :: cks a) (ck d :: cks b) = if PyData.eqv (ck c) (ck d) = true then PySem.W.rowLt (cks a) (cks b) else PySem.W.dataLt (ck c) (ck d) := PySem.W.dataLt_cons (alike_ck c d) _ _
    show PySem.W.rowLt (ck c :: cks a) (ck d :: cks b) = _
    rw [e, rows_ck a b, eqv_ck]
    rw [show PySem.W.dataLt (ck c) (ck d) = decide (c.1 < d.1 ∨ (c.1 = d.1 ∧ c.2 < d.2)) from PySem.W.dataLt_ii _ _ _ _]
    simp only [flC, List.cons_lt_cons_iff]
    by_cases h : c = d
    · subst h
      rw [decide_eq_true rfl, if_pos rfl]
      exact decide_eq_decide.mpr (by
        constructor
        · exact fun z => .inr ⟨rfl, .inr ⟨rfl, z⟩⟩
        · rintro (z | ⟨_, z | ⟨_, z⟩⟩)
          · omega
          · omega
          · exact z)
    · rw [decide_eq_false h, if_neg (by decide)]
      exact decide_eq_decide.mpr (by
        constructor
        · rintro (z | ⟨z, y⟩)
          · exact .inl z
          · exact .inr ⟨z, .inl y⟩
        · rintro (z | ⟨z, y | ⟨y, _⟩⟩)
          · exact .inl z
          · exact .inr ⟨z, y⟩
          · exact (h (Prod.ext z y)).elim)
def lfC (a b : List (Int × Int)) : Bool := decide (flC a ≤ flC b)
theorem srt_tcls {xs : List (List (Int × Int))} (h : ∀ l ∈ xs, l ≠ []) : Srts (xs.map tcl) := by
  refine ⟨fun d hd e he => ?_, .inl fun d hd => ?_, fun d hd => ?_⟩
  · obtain ⟨c, _, rfl⟩ := List.mem_map.mp hd
    obtain ⟨c2, _, rfl⟩ := List.mem_map.mp he
    show PySem.W.alike (.tuple _) (.tuple _) = true
    simp only [PySem.W.alike]
    exact alike_cks c c2
  · obtain ⟨c, hc, rfl⟩ := List.mem_map.mp hd
    cases c with
    | nil => exact (h [] hc rfl).elim
    | cons x c => exact ⟨_, _, rfl⟩
  · obtain ⟨c, _, rfl⟩ := List.mem_map.mp hd
    exact sh_tck c
theorem sort_tcls (xs : List (List (Int × Int))) : (xs.map tcl).mergeSort dLe = (xs.mergeSort lfC).map tcl := by
  refine (PySem.W.sort_maps tcl fun a _ b _ => ?_).symm
  show lfC a b = (!PySem.W.dataLt (.tuple (cks b)) (.tuple (cks a)))
  rw [PySem.W.dataLt_tuple]
  show lfC a b = (!PySem.W.rowLt (cks b) (cks a))
  rw [rows_ck]
  unfold lfC
  by_cases h : flC b < flC a
  · have h' : ¬ flC a ≤ flC b := fun r => List.not_lt.mpr r h
    simp [h, h']
  · have h' : flC a ≤ flC b := List.not_lt.mp h
    simp [h, h']
end Dl
end L2

/-! The plain half, 48: exact clocks of a round, filled. -/
namespace L2
namespace Dl
open PySem PySem.Spec PyProof.Rows
def dvF (n : Int) : List Int := ((List.range (n + 1 - 1).toNat).filter fun (m : Nat) => decide (n % (1 + (m : Int)) = 0)).map fun (m : Nat) => 1 + (m : Int)
def owF (n s r : Int) : List Int := (List.range (Builtin.Range.rangeSize r n s).toNat).map fun (m : Nat) => r + (m : Int) * s
/-- all ways to fill what is left, by the least -/
def filF : Nat → Int → List Int → List (List (Int × Int))
  | 0, _, _ => []
  | k + 1, n, left => match left with
    | [] => [[]]
    | l0 :: ls => (dvF n).flatMap fun s => if (owF n s (l0 % s)).all (fun x => decide (x ∈ l0 :: ls)) = true then (filF k n ((l0 :: ls).filter fun x => decide (x ∉ owF n s (l0 % s)))).map fun m => (s, l0 % s) :: m else []
theorem ow_facts : ∀ n ∈ (List.range 17).map (fun (i : Nat) => (i : Int)), ∀ s ∈ dvF n, ∀ l ∈ (List.range n.toNat).map (fun (i : Nat) => (i : Int)), l ∈ owF n s (l % s) ∧ (owF n s (l % s)).Nodup ∧ ((owF n s (l % s)).length : Int) = n / s ∧ 1 ≤ s ∧ s ≤ n := by decide +kernel
theorem dv_sum : ∀ n ∈ List.range 17, ((dvF (n : Int)).map fun s => 2 ^ (n - n / s.toNat)).sum ≤ 2 ^ n := by decide +kernel
theorem fil_bd {n : Nat} (hn : n ≤ 16) : ∀ (k : Nat) (left : List Int), left.Nodup → (∀ x ∈ left, 0 ≤ x ∧ x < n) → (filF k n left).length ≤ 2 ^ left.length
  | 0, left, _, _ => Nat.zero_le _
  | k + 1, [], _, _ => Nat.le_refl _
  | k + 1, l0 :: ls, nd, hr => by
    have hN : (n : Int) ∈ (List.range 17).map (fun (i : Nat) => (i : Int)) := List.mem_map.mpr ⟨n, List.mem_range.mpr (by omega), rfl⟩
    have h0 := hr l0 List.mem_cons_self
    have hl : l0 ∈ (List.range ((n : Int)).toNat).map (fun (i : Nat) => (i : Int)) := List.mem_map.mpr ⟨l0.toNat, List.mem_range.mpr (by omega), by omega⟩
    have gen : ∀ ss : List Int, (∀ s ∈ ss, s ∈ dvF n) → (ss.flatMap fun s => if (owF n s (l0 % s)).all (fun x => decide (x ∈ l0 :: ls)) = true then (filF k n ((l0 :: ls).filter fun x => decide (x ∉ owF n s (l0 % s)))).map fun m => (s, l0 % s) :: m else []).length * 2 ^ n ≤ 2 ^ (l0 :: ls).length * (ss.map fun s => 2 ^ (n - n / s.toNat)).sum := by
      intro ss
      induction ss with
      | nil => intro _; simp
      | cons s ss ih =>
        intro hs
        have a := ih fun s h => hs s (List.mem_cons_of_mem _ h)
        obtain ⟨f1, f2, f3, f4, f5⟩ := ow_facts n hN s (hs s List.mem_cons_self) l0 hl
        rw [List.flatMap_cons, List.length_append, Nat.add_mul, List.map_cons, List.sum_cons, Nat.mul_add]
        refine Nat.add_le_add ?_ a
        split
        · rename_i hall
          rw [List.all_eq_true] at hall
          rw [List.length_map]
          have b := fil_bd hn k ((l0 :: ls).filter fun x => decide (x ∉ owF n s (l0 % s))) (nd.filter _) fun x hx => hr x (List.mem_filter.mp hx).1
          have c : (owF n s (l0 % s) ++ (l0 :: ls).filter fun x => decide (x ∉ owF n s (l0 % s))).length ≤ (l0 :: ls).length := nd_len (List.nodup_append.mpr ⟨f2, nd.filter _, fun x hx y hy e => by
            subst e
            exact (of_decide_eq_true (List.mem_filter.mp hy).2) hx⟩) fun x hx => by
              rcases List.mem_append.mp hx with z | z
              · exact of_decide_eq_true (hall x z)
              · exact (List.mem_filter.mp z).1
          rw [List.length_append] at c
          have e1 : (owF n s (l0 % s)).length = n / s.toNat := by
            have : ((n / s.toNat : Nat) : Int) = (n : Int) / s := by rw [Int.natCast_ediv, Int.toNat_of_nonneg (by omega)]
            omega
          generalize ((l0 :: ls).filter fun x => decide (x ∉ owF n s (l0 % s))) = rest at *
          have e2 : n / s.toNat ≤ n := Nat.div_le_self _ _
          calc (filF k n rest).length * 2 ^ n ≤ 2 ^ rest.length * 2 ^ n := Nat.mul_le_mul_right _ b
            _ = 2 ^ (rest.length + n / s.toNat) * 2 ^ (n - n / s.toNat) := by rw [← Nat.pow_add, ← Nat.pow_add]; congr 1; omega
            _ ≤ 2 ^ (l0 :: ls).length * 2 ^ (n - n / s.toNat) := Nat.mul_le_mul_right _ (Nat.pow_le_pow_right (by decide) (by omega))
        · rw [List.length_nil, Nat.zero_mul]
          exact Nat.zero_le _
    have g := gen (dvF n) fun s h => h
    have d := dv_sum n (List.mem_range.mpr (by omega))
    have e : (filF (k + 1) n (l0 :: ls)).length * 2 ^ n ≤ 2 ^ (l0 :: ls).length * 2 ^ n := Nat.le_trans g (Nat.mul_le_mul_left _ d)
    exact Nat.le_of_mul_le_mul_right e (Nat.pow_pos (by decide))
end Dl
end L2

/-! The plain half, 49: clocks met of all choices. -/
namespace L2
namespace Dl
open PySem PySem.Spec PyProof.Rows
def MetOk (R : Int) (m : Int × Int) : Prop := 1 ≤ m.1 ∧ 0 ≤ m.2 ∧ m.2 < m.1 ∧ m.1 ∣ R
theorem MetOk.rg {R : Int} {m : Int × Int} (h : MetOk R m) (x : Int) : Rg m x ↔ x % m.1 = m.2 := Rg_mod h.2.1 h.2.2.1
abbrev lsD (L : List (List (Int × Int))) : List (List PyData) := L.map cks
end Dl
end L2

/-! The plain half, 50: numbers counted below a bound. -/
namespace L2
namespace Dl
open PySem PySem.Spec PyProof.Rows
theorem sumN_mul (c : Int) (f : Nat → Int) : ∀ n, sumN (fun i => c * f i) n = c * sumN f n
  | 0 => (Int.mul_zero c).symm
  | n + 1 => by
    show sumN (fun i => c * f i) n + c * f n = c * (sumN f n + f n)
    rw [sumN_mul c f n, Int.mul_add]
/-- how many below b are rung by just k -/
def cnt (cs : List (Int × Int)) (k : Nat) (b : Nat) : Int := sumN (fun x => if (rgF cs (x : Int)).length = k then 1 else 0) b
end Dl
end L2

/-! The plain half, 51: counts over rounds. -/
namespace L2
namespace Dl
open PySem PySem.Spec PyProof.Rows
end Dl
end L2

/-! The plain half, 52: the missed ones numbered. -/
namespace L2
namespace Dl
open PySem PySem.Spec PyProof.Rows
/-- how many are missed below b -/
abbrev msd (cs : List (Int × Int)) (b : Nat) : Int := cnt cs 0 b
/-- all that is asked of clocks with a round that is not too great -/
structure FarOk (cs : List (Int × Int)) : Prop where
  gc : GC cs
  rb : rnd 1 cs < 2 ^ 40



end Dl
end L2

/-! The plain half, 53: so many clocks that ring at 2 ^ n numbers, one behind the other, ring at all. -/
namespace L2
namespace Dl
open PySem PySem.Spec PyProof.Rows
def ordGo (p g : Nat) : Nat → Nat → Bool
  | 0, x => x == 1
  | k + 1, x => (Nat.gcd (x + (p - 1)) p == 1) && ordGo p g k (x * g % p)
def ordOk (p g T : Nat) : Bool := decide (1 < p) && (decide (g < p) && ordGo p g (T - 1) g)
theorem ordGo_spec {p g : Nat} (hp : 1 < p) : ∀ (k x : Nat), x < p → ordGo p g k x = true → (∀ e < k, Nat.gcd ((x * g ^ e) % p + (p - 1)) p = 1) ∧ x * g ^ k % p = 1
  | 0, x, hx, h => by
    have h : x = 1 := eq_of_beq h
    subst h
    exact ⟨fun e he => by omega, by rw [Nat.pow_zero]; exact Nat.mod_eq_of_lt hp⟩
  | k + 1, x, hx, h => by
    have h : ((Nat.gcd (x + (p - 1)) p == 1) && ordGo p g k (x * g % p)) = true := h
    rw [Bool.and_eq_true] at h
    obtain ⟨h1, h2⟩ := ordGo_spec hp k (x * g % p) (Nat.mod_lt _ (by omega)) h.2
    have e : ∀ e, x * g % p * g ^ e % p = x * g ^ (e + 1) % p := fun e => by
      rw [Nat.mod_mul_mod, Nat.mul_assoc, Nat.pow_succ, Nat.mul_comm g]
    refine ⟨fun i hi => ?_, by rw [← e]; exact h2⟩
    cases i with
    | zero =>
      rw [Nat.pow_zero, Nat.mul_one, Nat.mod_eq_of_lt hx]
      exact eq_of_beq h.1
    | succ i =>
      rw [← e]
      exact h1 i (by omega)
theorem ordOk_spec {p g T : Nat} (hT : 1 ≤ T) (h : ordOk p g T = true) : 1 < p ∧ g ^ T % p = 1 ∧ ∀ e, e % T ≠ 0 → Nat.gcd (g ^ e % p + (p - 1)) p = 1 := by
  unfold ordOk at h
  rw [Bool.and_eq_true, Bool.and_eq_true, decide_eq_true_iff, decide_eq_true_iff] at h
  obtain ⟨hp, hg, h⟩ := h
  obtain ⟨h1, h2⟩ := ordGo_spec hp _ _ hg h
  have e1 : g * g ^ (T - 1) = g ^ T := by rw [Nat.mul_comm, ← Nat.pow_succ, show (T - 1).succ = T by omega]
  rw [e1] at h2
  refine ⟨hp, h2, fun e he => ?_⟩
  have red : g ^ e % p = g ^ (e % T) % p := by
    have hq : ∀ q r, g ^ (T * q + r) % p = g ^ r % p := fun q r => by
      induction q with
      | zero => rw [Nat.mul_zero, Nat.zero_add]
      | succ q ih =>
        rw [show T * (q + 1) + r = T + (T * q + r) by rw [Nat.mul_succ]; omega, Nat.pow_add, Nat.mul_mod, h2, Nat.one_mul, Nat.mod_mod, ih]
    have := hq (e / T) (e % T)
    rw [Nat.div_add_mod] at this
    exact this
  rw [red]
  have hl := Nat.mod_lt e (show 0 < T by omega)
  have := h1 (e % T - 1) (by omega)
  rw [show g * g ^ (e % T - 1) = g ^ (e % T) by rw [Nat.mul_comm, ← Nat.pow_succ, show (e % T - 1).succ = e % T by omega]] at this
  exact this
/-- a unit: what it divides times it, it divides -/
theorem cop_of {p g e : Nat} (hp : 1 < p) (h : Nat.gcd (g ^ e % p + (p - 1)) p = 1) {y : Int} (hd : (p : Int) ∣ (1 - ((g ^ e : Nat) : Int)) * y) : (p : Int) ∣ y := by
  have h2 : (p : Int) ∣ ((g ^ e % p + (p - 1) : Nat) : Int) * y := by
    have e1 : ((g ^ e % p + (p - 1) : Nat) : Int) = (p : Int) * (1 - ((g ^ e / p : Nat) : Int)) - (1 - ((g ^ e : Nat) : Int)) := by
      have := Nat.div_add_mod (g ^ e) p
      have : ((p * (g ^ e / p) + g ^ e % p : Nat) : Int) = ((g ^ e : Nat) : Int) := by rw [this]
      rw [Int.natCast_add, Int.natCast_mul] at this
      rw [Int.mul_sub, Int.mul_one]
      omega
    rw [e1, Int.sub_mul]
    exact Int.dvd_sub (Int.dvd_trans (Int.dvd_mul_right _ _) (Int.dvd_mul_right _ _)) hd
  have h3 : p ∣ (g ^ e % p + (p - 1)) * y.natAbs := by
    have := Int.natAbs_dvd_natAbs.mpr h2
    rw [Int.natAbs_mul, Int.natAbs_natCast, Int.natAbs_natCast] at this
    exact this
  have h4 : p ∣ y.natAbs := Nat.Coprime.dvd_of_dvd_mul_left (by rw [Nat.Coprime, Nat.gcd_comm]; exact h) h3
  exact Int.ofNat_dvd_left.mpr h4
end Dl
end L2

/-! The plain half, 54: so many, one behind the other, are all. -/
namespace L2
namespace Dl
open PySem PySem.Spec PyProof.Rows
end Dl
end L2

/-! The plain half, 55: exact clocks of a round, told. -/
namespace L2
namespace Dl
open PySem PySem.Spec PyProof.Rows
local macro_rules | `(tactic| dsimp? [$xs,*] $[$l]?) => `(tactic| simp only [wSeq, wNext, wBreak, wCont, wDrop, wRet, wRetN, wIfS, wSet, wAsgT, e_aug, e_setIx, e_par, e_gN, getS_0, getS_s, setS_0, setS_s, e_var, varK_v, varK_o, varK_u, wC, wBin, rdK_v, rdK_t, rdK_s, rdS_v, rdS_o, rdS_u, fzK_v, fzK_t, fzK_s, fzS_v, fzS_o, fzS_l, fzS_u, e_fz, asg_v, asg_t, asg_s, e_tb, tbK_b, wAnd, wOr, wNot, e_notV, e_andV, e_orV, wBV, wIf, e_neg, intK_i, e_oso, wONo, e_rng1, e_rng2, wFNil, wFCons, wANil, wACons, wTup, wLst, e_callB, rdAllK_n, rdAllK_c, wIsi, e_call, wMNil, wMCons, e_ld, lnsOf, avsK_n, avsK_f, avsK_l, lnS_o, lnS_v, lnS_u, poK_n, poK_c, poS_o, inS_0, inS_s, rsK_v, rsK_o, wSl, e_ownF, e_own0, ownB_o, oS_o, oS_v, oS_u, agS_i, muApp, oAdd_i, oAdd_l, oAdd_t, oAdd_s, oSub_i, oMul_i, oFdiv_i, oMod_i, oPow_i, oShl_i, oShr_i, oOr_i, oAndB_i, oLt_i, oLe_i, oGt_i, oGe_i, oEq_i, oNe_i, oEq, oNe, oIx_l, oIx_t, oLen_l, oLen_t, oInt_i, oInt_b, oMax_i, oMin_i, oList_l, oList_t, oTuple_l, oTuple_t, oSorted_l, oSorted_t, oIs_n, oIsN_n, oIs_b, oIsN_b, isNone_n, isNone_t, isNone_l, isNone_i, isNone_s, isNone_b, oSl_l, oSl_t, oIn, gT_t, gC_c, gNil', e_iseq, sqK_l, sqK_t, e_isq, sq2K_l, sq2K_t, e_sset, ssK_l, ssK_t, e_chain, e_lr1, e_lr2, wRev, rvD_l, rvD_t, e_in1, e_in2, negB_f, negB_t, wIZip, zpK_l, zpK_t, zpK_m, e_extend, extR_t, wYes, startEv, kenD_nx, kenD_rt, kenD_bk, kenD_ct, kenD_ex, outK_n, outK_c, otS_o, rvK_v, rvK_t, rvK_s, rvS_v, rvS_o, slOf, lsFrom, wipeE, restE, List.map_cons, List.map_nil, List.length_cons, List.length_nil, List.replicate, List.append_nil, List.cons_append, List.nil_append, List.getElem?_cons_zero, List.getElem?_cons_succ, List.getElem?_nil, List.set_cons_zero, List.set_cons_succ, List.set_nil, Option.getD_some, Option.getD_none, Option.map_some, Option.map_none, Option.some.injEq, Rs.val.injEq, Rs.tmp.injEq, Rs.slot.injEq, Sl.own.injEq, Sl.val.injEq, PyData.int.injEq, PyData.bool.injEq, PyData.str.injEq, PyData.list.injEq, PyData.tuple.injEq, Prod.mk.injEq, Nat.sub_self, Nat.zero_add, Nat.reduceAdd, Nat.reduceSub, Nat.add_zero, isTy_int_int, isTy_bool_int, isTy_int_bool, isTy_bool_bool, isTy_int_tup, isTy_int_lst, isTy_int_non, isTy_int_str, isTy_tup_tup, isTy_tup_lst, isTy_tup_int, isTy_tup_bool, isTy_tup_non, isTy_tup_str, isTy_lst_lst, isTy_lst_tup, isTy_lst_int, exists_eq_left', exists_eq_left, exists_and_left, exists_eq_right, exists_eq, exists_eq', exists_const, true_and, and_true, and_self, Bool.not_true, Bool.not_false, if_true, if_false, Bool.false_eq_true, reduceIte, reduceCtorEq, List.nodup_nil, decide_eq_true_eq, atI_0, atI_1, atI_2, atI_3, atI_4, atI_5, atI_6, atI_7, atI_8, atI_9, atI_10, atI_11, ixN_3_0, ixN_3_1, ixN_3_2, sh_int, sh_bool, sh_non, and_assoc, nd1, nd_true, eq_self, decide_true, decide_false, Int.cast_ofNat_Int, not_true_eq_false, not_false_eq_true, eqv_ii, eqv_bb, wRaise0, e_raiseG, grK_i, e_raise1, onK_i, e_callX, xa_1, xa_2, xa_3, xa_4, xa_5, xa_6, xa_7, e_many, e_most, e_number, e_row, isLst_l, lsK_l, e_rd, e_br, brS_o, brS_v, arS_o, arS_v, avbK_n, avbK_f, avbK_l, scK_b, scK_i, scK_n, scK_s, e_callS, tmK_t, e_rep, enK_l, e_ienum, wTry, eqv_ss, tpK_v, txK_1, tutK_t, e_repT, e_callT, enTK_t, e_ienumT, r3K_i, e_rng3, e_newD, e_putD, e_lenD, e_listD, dcS_d, dcB_d, pvK_b, pvK_i, tkK_m, tkK_2, e_ssetI, oMinL_c, e_lset, e_lstZ, zlK_c, e_ins, e_callF, $xs,*] $[$l]?)
def sp_steps_of : Spc := fun avs Kr Kx => match avs with
  | [.val (.int n)] => 1 ≤ n ∧ n ≤ 16 ∧ Kr [] (.own ((dvF n).map .int))
  | _ => False
def w_steps_of_C1 : WE :=
  wLc [1] (wIRng2 (wC (.int 1)) (wBin oAdd (wVar 0) (wC (.int 1)))) (gN 1) (wTB (wBin oEq (wBin oMod (wVar 0) (wVar 1)) (wC (.int 0)))) (wVar 1)
/-- steps_of: 0 n, 1 step -/
def w_steps_of : WS :=
  (wRet w_steps_of_C1)

theorem vc_steps_of : ∀ avs Kr Kx, avs.length = 1 → sp_steps_of avs Kr Kx → lsFrom 0 avs = [] ∧ w_steps_of (startEv 2 avs) (kenD [] Kr Kx) := by
  intro avs Kr Kx hl h
  unfold sp_steps_of at h
  split at h
  · rename_i n
    obtain ⟨n1, n2, q⟩ := h
    refine ⟨rfl, ?_⟩
    dsimp? [w_steps_of, w_steps_of_C1, wLc]
    refine ⟨by decide, by decide, by omega, by omega, ?_⟩
    refine lc_fl (fun (m : Nat) => PyData.int (1 + (m : Int))) (fun (m : Nat) => decide (n % (1 + (m : Int)) = 0)) (List.range (n + 1 - 1).toNat) (by rw [List.length_range]; omega) (fun m hm A N hA => ?_) ?_
    · dsimp? []
      refine ⟨by omega, ?_⟩
      by_cases z : n % (1 + (m : Int)) = 0
      · rw [if_pos z]
        rw [if_pos (decide_eq_true z)] at hA
        exact hA
      · rw [if_neg z]
        rw [if_neg (by rw [decide_eq_false z]; decide)] at hA
        exact hA
    · unfold dvF at q
      rw [List.map_map] at q
      exact q
  · exact h.elim
/-- what a step brings -/
def fbF (k : Nat) (n : Int) (l0 : Int) (ls : List Int) (s : Int) : List (List (Int × Int)) := if (owF n s (l0 % s)).all (fun x => decide (x ∈ l0 :: ls)) = true then (filF k n ((l0 :: ls).filter fun x => decide (x ∉ owF n s (l0 % s)))).map fun m => (s, l0 % s) :: m else []
theorem filF_at (k : Nat) (n l0 : Int) (ls : List Int) : filF (k + 1) n (l0 :: ls) = (dvF n).flatMap (fbF k n l0 ls) := rfl
theorem fil_len : ∀ (k : Nat) (n : Int) (left : List Int), ∀ m ∈ filF k n left, m.length ≤ k
  | 0, _, _, m, h => by cases h
  | k + 1, _, [], m, h => by
    rw [List.mem_singleton.mp h]
    exact Nat.zero_le _
  | k + 1, n, l0 :: ls, m, h => by
    rw [filF_at] at h
    obtain ⟨s, _, hm⟩ := List.mem_flatMap.mp h
    unfold fbF at hm
    split at hm
    · obtain ⟨m0, h0, rfl⟩ := List.mem_map.mp hm
      have := fil_len k n _ m0 h0
      rw [List.length_cons]
      omega
    · cases hm
theorem rgC_ok : ∀ n ∈ (List.range 17).map (fun (i : Nat) => (i : Int)), ∀ s ∈ dvF n, ∀ r ∈ (List.range s.toNat).map (fun (i : Nat) => (i : Int)), Builtin.Range.small r n s = true ∧ 0 ≤ Builtin.Range.rangeSize r n s ∧ Builtin.Range.rangeSize r n s ≤ 16 := by decide +kernel
def spA_fillings (n : Nat) : Spc := fun avs Kr Kx => match avs with
  | [.val (.int m), .val (.tuple xs)] => ∃ (N : Nat) (left : List Int), m = (N : Int) ∧ xs = left.map .int ∧ 1 ≤ N ∧ N ≤ 16 ∧ left.Nodup ∧ (∀ x ∈ left, 0 ≤ x ∧ x < N) ∧ left.length ≤ n ∧ n ≤ 20 ∧ Kr [] (.own ((filF (n + 1) N left).map tcl))
  | _ => False
def sp_fillings : Nat → Spc
  | 0 => fun _ _ _ => False
  | n + 1 => spA_fillings n
def w_fillings_C1 (n : Nat) : WE :=
  wLc [7] (wIRng3 (wFCons (wBin oIx (wVar 4) (wC (.int 1))) (wFCons (wVar 0) (wFCons (wVar 3) wFNil)))) (gN 7) wYes (wVar 7)
def w_fillings_C2 (n : Nat) : WE :=
  wLc [7] (wISeq (wVar 5)) (gN 7) wYes (wBin (oIn false) (wVar 7) (wVar 1))
def w_fillings_C3 (n : Nat) : WE :=
  wLc [7] (wISeq (wVar 1)) (gN 7) (wTB (wBin (oIn true) (wVar 7) (wVar 5))) (wVar 7)
def w_fillings_C4 (n : Nat) : WE :=
  wLc [8] (wISeq (wCall 2 (sp_fillings n) (wMCons (wVar 0) (wMCons (wVar 6) wMNil)))) (gN 8) wYes (wBin oAdd (wTup (wFCons (wVar 4) wFNil)) (wVar 8))
def w_fillings_B1 (n : Nat) : WS :=
  (wSeq (wSet 4 (wTup (wFCons (wVar 3) (wFCons (wBin oMod (wBin oIx (wVar 1) (wC (.int 0))) (wVar 3)) wFNil))))
    (wSeq (wSet 5 ((w_fillings_C1 n)))
    (wIfS (wTB (wCallB oAll (wACons ((w_fillings_C2 n)) wANil))) (wSeq (wSet 6 (wCallB oTuple (wACons ((w_fillings_C3 n)) wANil)))
    (wDrop (wExtend 2 ((w_fillings_C4 n))))) wNext)))
def w_fillings_L1 (n : Nat) : WS :=
  wFor (wISeq (wCall 1 sp_steps_of (wMCons (wVar 0) wMNil))) (gN 3) (w_fillings_B1 n)
def w_fillings_R1 (n : Nat) : WS :=
  (wRet (wVar 2))
/-- fillings: 0 n, 1 left, 2 found, 3 step, 4 clock, 5 own, 6 rest, 7 number, 8 more -/
def w_fillings (n : Nat) : WS :=
  (wSeq (wIfS (wTB (wBin oEq (wVar 1) (wTup wFNil))) (wRet (wLst (wFCons (wTup wFNil) wFNil))) wNext)
    (wSeq (wSet 2 (wLst wFNil))
    (wSeq (w_fillings_L1 n)
    (w_fillings_R1 n))))

theorem vc_fillings : ∀ n avs Kr Kx, avs.length = 2 → sp_fillings (n + 1) avs Kr Kx → lsFrom 0 avs = [] ∧ w_fillings n (startEv 9 avs) (kenD [] Kr Kx) := by
  intro n avs Kr Kx hl h
  replace h : spA_fillings n avs Kr Kx := h
  unfold spA_fillings at h
  split at h
  · rename_i m xs
    obtain ⟨N, left, rfl, rfl, N1, N2, nd, hr, hl, n20, q⟩ := h
    refine ⟨rfl, ?_⟩
    have bd := fil_bd N2 (n + 1) left nd hr
    have l16 : left.length ≤ 16 := by
      have := nd_len (M := (List.range N).map fun (i : Nat) => (i : Int)) nd fun x hx => by
        have := hr x hx
        exact List.mem_map.mpr ⟨x.toNat, List.mem_range.mpr (by omega), by omega⟩
      rw [List.length_map, List.length_range] at this
      omega
    have b2 : (filF (n + 1) N left).length ≤ 65536 := Nat.le_trans bd (Nat.le_trans (Nat.pow_le_pow_right (by decide) l16) (by decide))
    unfold w_fillings
    refine seq_cut fun R hR => ?_
    dsimp? []
    refine ⟨by decide, sh_tin left, sh_tin [], ?_⟩
    rw [show PyData.eqv (.tuple (left.map .int)) (.tuple []) = decide (left = []) from eqv_tin left []]
    cases left with
    | nil =>
      rw [if_pos (decide_eq_true rfl)]
      exact ⟨by decide, by decide, q⟩
    | cons l0 ls =>
      rw [if_neg (by simp)]
      refine hR _ ?_
      rw [filF_at] at q b2
      obtain ⟨n', rfl⟩ : ∃ n', n = n' + 1 := ⟨n - 1, by have : (l0 :: ls).length = ls.length + 1 := rfl; omega⟩
      refine seq_cut fun R hR => ?_
      dsimp? []
      refine ⟨by decide, hR _ ?_⟩
      dsimp? [w_fillings_L1, wFor, sp_steps_of]
      refine ⟨by omega, by omega, ?_⟩
      have hN : (N : Int) ∈ (List.range 17).map (fun (i : Nat) => (i : Int)) := List.mem_map.mpr ⟨N, List.mem_range.mpr (by omega), rfl⟩
      have h0 := hr l0 List.mem_cons_self
      have hl0 : l0 ∈ (List.range ((N : Int)).toNat).map (fun (i : Nat) => (i : Int)) := List.mem_map.mpr ⟨l0.toNat, List.mem_range.mpr (by omega), by omega⟩
      rw [show PyData.int l0 :: ls.map .int = (l0 :: ls).map .int from rfl]
      have hall0 : l0 ∈ l0 :: ls := List.mem_cons_self
      have hl : (l0 :: ls).length ≤ n' + 1 := hl
      refine each_pre PyData.int (dvF N) (fun pre e => ∃ x3 x4 x5 x6, e = [.val (.int N), .val (.tuple ((l0 :: ls).map .int)), .own false ((pre.flatMap (fbF (n' + 1) N l0 ls)).map tcl), x3, x4, x5, x6, .un, .un]) ?_ ?_ _ ⟨_, _, _, _, rfl⟩
      · rintro e ⟨x3, x4, x5, x6, rfl⟩
        dsimp? [w_fillings_R1]
        exact q
      · rintro pre s post he e R9 ⟨x3, x4, x5, x6, rfl⟩ ih
        have hsm : s ∈ dvF N := by rw [he]; exact List.mem_append_right _ List.mem_cons_self
        obtain ⟨f1, f2, f3, f4, f5⟩ := ow_facts N hN s hsm l0 hl0
        have r0 := Int.emod_nonneg l0 (show s ≠ 0 by omega)
        have r1 := Int.emod_lt_of_pos l0 (show 0 < s by omega)
        obtain ⟨g1, g2, g3⟩ := rgC_ok N hN s hsm (l0 % s) (List.mem_map.mpr ⟨(l0 % s).toNat, List.mem_range.mpr (by omega), by omega⟩)
        have fb : (pre.flatMap (fbF (n' + 1) N l0 ls)) ++ fbF (n' + 1) N l0 ls s = (pre ++ [s]).flatMap (fbF (n' + 1) N l0 ls) := by
          rw [List.flatMap_append, List.flatMap_cons, List.flatMap_nil, List.append_nil]
        have fl : (pre.flatMap (fbF (n' + 1) N l0 ls)).length + (fbF (n' + 1) N l0 ls s).length ≤ 65536 := by
          rw [he, List.flatMap_append, List.flatMap_cons, List.length_append, List.length_append] at b2
          omega
        dsimp? []
        unfold w_fillings_B1
        refine seq_cut fun R hR => ?_
        have a0 : atI ((l0 :: ls).map PyData.int) 0 = some (.int l0) := atI_0 _ _
        dsimp? [a0]
        refine ⟨by omega, by decide, hR _ ?_⟩
        refine seq_cut fun R hR => ?_
        dsimp? [w_fillings_C1, wLc]
        refine ⟨_, ⟨by omega, by omega, g1, (Int.toNat_of_nonneg g2).symm⟩, ?_⟩
        unfold rg3
        refine lc_map (fun (m : Nat) => PyData.int (l0 % s + (m : Int) * s)) (fun (m : Nat) => PyData.int (l0 % s + (m : Int) * s)) _ (fun m hm A hA => ?_) (small100000 (by rw [List.length_range]; omega)) ?_
        · dsimp? []
          exact hA
        rw [show ((List.range (Builtin.Range.rangeSize (l0 % s) N s).toNat).map fun (m : Nat) => PyData.int (l0 % s + (m : Int) * s)) = (owF N s (l0 % s)).map .int by unfold owF; rw [List.map_map]; rfl]
        have ol : (owF N s (l0 % s)).length ≤ 16 := by unfold owF; rw [List.length_map, List.length_range]; omega
        have fs : fbF (n' + 1) N l0 ls s = if (owF N s (l0 % s)).all (fun x => decide (x ∈ l0 :: ls)) = true then (filF (n' + 1) N ((l0 :: ls).filter fun x => decide (x ∉ owF N s (l0 % s)))).map fun m => (s, l0 % s) :: m else [] := rfl
        generalize owF N s (l0 % s) = ow at *
        dsimp? []
        refine hR _ ?_
        dsimp? [w_fillings_C2, wLc]
        rw [show PyData.int l0 :: ls.map .int = (l0 :: ls).map .int from rfl]
        refine lc_map PyData.int (fun x => .bool (decide (x ∈ l0 :: ls))) ow (fun x hx A hA => ?_) (small100000 (by omega)) ?_
        · dsimp? []
          rw [show PyData.int l0 :: ls.map .int = (l0 :: ls).map .int from rfl]
          refine ⟨sh_tin (l0 :: ls), ?_⟩
          rw [any_ints]
          exact hA
        dsimp? [oAll]
        refine ⟨ow.map fun x => decide (x ∈ l0 :: ls), by rw [List.map_map]; rfl, ?_⟩
        rw [show (ow.map fun x => decide (x ∈ l0 :: ls)).all id = ow.all fun x => decide (x ∈ l0 :: ls) by rw [List.all_map]; rfl]
        by_cases hz : (ow.all fun x => decide (x ∈ l0 :: ls)) = true
        · rw [if_pos hz] at fs ⊢
          rw [fs] at fb fl
          rw [List.length_map] at fl
          dsimp? [w_fillings_C3, wLc]
          rw [show PyData.int l0 :: ls.map .int = (l0 :: ls).map .int from rfl]
          refine lc_fl PyData.int (fun x => decide (x ∉ ow)) (l0 :: ls) (by omega) (fun x hx A M hA => ?_) ?_
          · dsimp? []
            refine ⟨sh_lin ow, ?_⟩
            rw [any_ints]
            by_cases z : x ∈ ow
            · rw [if_neg (by rw [decide_eq_true z]; decide)]
              rw [if_neg (by rw [decide_eq_false (fun h => h z)]; decide)] at hA
              exact hA
            · rw [if_pos (by rw [decide_eq_false z]; rfl)]
              rw [if_pos (decide_eq_true z)] at hA
              exact hA
          have rl : ((l0 :: ls).filter fun x => decide (x ∉ ow)).length < (l0 :: ls).length := List.length_filter_lt_length_iff_exists.mpr ⟨l0, hall0, by rw [decide_eq_false (fun h => h f1)]; decide⟩
          have rn := nd.filter fun x => decide (x ∉ ow)
          have rr : ∀ x ∈ (l0 :: ls).filter fun x => decide (x ∉ ow), 0 ≤ x ∧ x < N := fun x hx => hr x (List.mem_filter.mp hx).1
          generalize ((l0 :: ls).filter fun x => decide (x ∉ ow)) = rest at *
          dsimp? [w_fillings_C4, wLc, sp_fillings, spA_fillings]
          refine ⟨N, rfl, rest, rfl, N1, N2, rn, rr, by omega, by omega, ?_⟩
          refine lc_map tcl (fun m => tcl ((s, l0 % s) :: m)) (filF (n' + 1) N rest) (fun m hm A hA => ?_) (small100000 (by omega)) ?_
          · have ml := fil_len _ _ _ m hm
            unfold tcl at hA ⊢
            dsimp? []
            exact ⟨by decide, by unfold cks; rw [List.length_map, sizeLine_eq]; omega, hA⟩
          · dsimp? []
            refine ⟨by rw [List.length_map, List.length_map]; exact small100000 (by omega), ?_⟩
            rw [show ∀ X : List (List (Int × Int)), X.map tcl ++ (filF (n' + 1) N rest).map (fun m => tcl ((s, l0 % s) :: m)) = (X ++ (filF (n' + 1) N rest).map fun m => (s, l0 % s) :: m).map tcl from fun X => by rw [List.map_append, List.map_map]; rfl, fb]
            exact ih _ ⟨_, _, _, _, rfl⟩
        · rw [if_neg hz] at fs ⊢
          rw [fs, List.append_nil] at fb
          rw [fb]
          exact ih _ ⟨_, _, _, _, rfl⟩
  · exact h.elim
theorem fil_ne {k : Nat} {n l0 : Int} {ls : List Int} : ∀ m ∈ filF (k + 1) n (l0 :: ls), m ≠ [] := fun m h => by
  rw [filF_at] at h
  obtain ⟨s, _, hm⟩ := List.mem_flatMap.mp h
  unfold fbF at hm
  split at hm
  · obtain ⟨m0, h0, rfl⟩ := List.mem_map.mp hm
    simp
  · cases hm
def exF (n : Int) : List (List (Int × Int)) := ((filF 17 n (rgI n)).map fun c => c.mergeSort cle).mergeSort lfC
theorem rgI_cons {N : Nat} (h : 1 ≤ N) : ∃ l0 ls, rgI N = l0 :: ls := by
  cases e : rgI N with
  | nil =>
    have := rgI_len (N : Int)
    rw [e] at this
    simp at this
    omega
  | cons a b => exact ⟨a, b, rfl⟩
theorem rgI_nd (n : Int) : (rgI n).Nodup := rgI_nodup n
def sp_every_exact : Spc := fun avs Kr Kx => match avs with
  | [.val (.int m)] => ∃ N : Nat, m = (N : Int) ∧ 1 ≤ N ∧ N ≤ 16 ∧ Kr [] (.own ((exF N).map tcl))
  | _ => False
def w_every_exact_C1 : WE :=
  wLc [1] (wISeq (wCall 2 (sp_fillings 17) (wMCons (wVar 0) (wMCons (wLR1 true (wVar 0)) wMNil)))) (gN 1) wYes (wCallB oTuple (wACons (wCallB oSorted (wACons (wVar 1) wANil)) wANil))
/-- every_exact: 0 n, 1 clocks -/
def w_every_exact : WS :=
  (wRet (wCallB oSorted (wACons w_every_exact_C1 wANil)))

theorem vc_every_exact : ∀ avs Kr Kx, avs.length = 1 → sp_every_exact avs Kr Kx → lsFrom 0 avs = [] ∧ w_every_exact (startEv 2 avs) (kenD [] Kr Kx) := by
  intro avs Kr Kx hl h
  unfold sp_every_exact at h
  split at h
  · rename_i m
    obtain ⟨N, rfl, N1, N2, q⟩ := h
    refine ⟨rfl, ?_⟩
    have bd := fil_bd N2 17 (rgI N) (rgI_nd _) (fun x hx => rgI_mem.mp hx)
    rw [rgI_len] at bd
    have b2 : (filF 17 N (rgI N)).length ≤ 65536 := Nat.le_trans bd (Nat.le_trans (Nat.pow_le_pow_right (by decide) (show ((N : Int)).toNat ≤ 16 by omega)) (by decide))
    have ne : ∀ m ∈ filF 17 N (rgI N), m ≠ [] := by
      obtain ⟨l0, ls, e⟩ := rgI_cons N1
      rw [e]
      exact fil_ne
    have er : rgD 0 (N : Int) = (rgI N).map .int := by
      unfold rgD
      rw [show (N : Int) - 0 = N by omega, ← rgI_d]
      refine List.map_congr_left fun m _ => ?_
      rw [Int.zero_add]
    dsimp? [w_every_exact, w_every_exact_C1, wLc]
    unfold rgK
    rw [er]
    refine ⟨by unfold RgOk; omega, ?_⟩
    show (_ : Spc) _ _ _
    dsimp? [sp_fillings, spA_fillings]
    refine ⟨N, rfl, rgI N, rfl, N1, N2, rgI_nd _, fun x hx => rgI_mem.mp hx, by rw [rgI_len]; omega, by decide, ?_⟩
    unfold exF at q
    generalize filF 17 N (rgI N) = L at *
    refine lc_map tcl (fun c => tcl (c.mergeSort cle)) L (fun c hc A hA => ?_) (small100000 (by omega)) ?_
    · unfold tcl at hA ⊢
      dsimp? []
      refine ⟨srt_cks _, ?_⟩
      rw [sort_cks]
      exact hA
    rw [show (L.map fun c => tcl (c.mergeSort cle)) = (L.map fun c => c.mergeSort cle).map tcl by rw [List.map_map]; rfl]
    refine ⟨srt_tcls fun l hl => ?_, ?_⟩
    · obtain ⟨c, hc, rfl⟩ := List.mem_map.mp hl
      intro e
      have h1 := List.length_mergeSort (le := cle) c
      rw [e] at h1
      exact ne c hc (List.length_eq_zero_iff.mp h1.symm)
    · rw [sort_tcls]
      exact q
  · exact h.elim

def sp_exact_of : Spc := fun avs Kr Kx => match avs with
  | [.val (.int m)] => ∃ N : Nat, m = (N : Int) ∧ 1 ≤ N ∧ N ≤ 16 ∧ Kr [] (.own ((exF N).map tcl))
  | _ => False
/-- exact_of: 0 n -/
def w_exact_of : WS :=
  (wRet (wCall 1 sp_every_exact (wMCons (wVar 0) wMNil)))

theorem vc_exact_of : ∀ avs Kr Kx, avs.length = 1 → sp_exact_of avs Kr Kx → lsFrom 0 avs = [] ∧ w_exact_of (startEv 1 avs) (kenD [] Kr Kx) := by
  intro avs Kr Kx hl h
  unfold sp_exact_of at h
  split at h
  · rename_i m
    obtain ⟨N, rfl, N1, N2, q⟩ := h
    refine ⟨rfl, ?_⟩
    dsimp? [w_exact_of, sp_every_exact]
    exact ⟨N, rfl, N1, N2, q⟩
  · exact h.elim
theorem dv_in {n s : Int} (h : s ∈ dvF n) : 1 ≤ s ∧ s ∣ n := by
  unfold dvF at h
  obtain ⟨m, hm, rfl⟩ := List.mem_map.mp h
  have := of_decide_eq_true (List.mem_filter.mp hm).2
  exact ⟨by omega, Int.dvd_of_emod_eq_zero this⟩
theorem fil_in {n : Int} : ∀ (k : Nat) (left : List Int), ∀ m ∈ filF k n left, ∀ c ∈ m, 1 ≤ c.1 ∧ c.1 ∣ n ∧ 0 ≤ c.2 ∧ c.2 < c.1
  | 0, _, m, h => by cases h
  | k + 1, [], m, h => by
    rw [List.mem_singleton.mp h]
    exact fun c hc => by cases hc
  | k + 1, l0 :: ls, m, h => by
    rw [filF_at] at h
    obtain ⟨s, hs, hm⟩ := List.mem_flatMap.mp h
    unfold fbF at hm
    split at hm
    · obtain ⟨m0, h0, rfl⟩ := List.mem_map.mp hm
      intro c hc
      obtain ⟨s1, s2⟩ := dv_in hs
      rcases List.mem_cons.mp hc with rfl | hc
      · exact ⟨s1, s2, Int.emod_nonneg _ (by show s ≠ 0; omega), Int.emod_lt_of_pos _ (by show 0 < s; omega)⟩
      · exact fil_in k _ m0 h0 c hc
    · cases hm
theorem ex_in {N : Nat} {cs : List (Int × Int)} (h : cs ∈ exF N) : cs.length ≤ 17 ∧ ∀ c ∈ cs, 1 ≤ c.1 ∧ c.1 ∣ (N : Int) ∧ 0 ≤ c.2 ∧ c.2 < c.1 := by
  unfold exF at h
  obtain ⟨m, hm, rfl⟩ := List.mem_map.mp ((List.mergeSort_perm _ lfC).mem_iff.mp h)
  refine ⟨by rw [List.length_mergeSort]; exact fil_len _ _ _ m hm, fun c hc => ?_⟩
  exact fil_in _ _ m hm c ((List.mergeSort_perm _ cle).mem_iff.mp hc)
end Dl
end L2

/-! The plain half, 56: clocks moved. -/
namespace L2
namespace Dl
open PySem PySem.Spec PyProof.Rows
/-- the least of some -/
def fwC (x : List (Int × Int)) (xs : List (List (Int × Int))) : List (Int × Int) := xs.foldl (fun a y => if PySem.W.dataLt (tcl y) (tcl a) then y else a) x
theorem min_tcl : ∀ (xs : List (List (Int × Int))) (x : List (Int × Int)), PySem.W.minD (tcl x) (xs.map tcl) = tcl (fwC x xs)
  | [], _ => rfl
  | y :: xs, x => by
    show PySem.W.minD (if PySem.W.dataLt (tcl y) (tcl x) then tcl y else tcl x) (xs.map tcl) = tcl (fwC (if PySem.W.dataLt (tcl y) (tcl x) then y else x) xs)
    cases PySem.W.dataLt (tcl y) (tcl x) with
    | true => exact min_tcl xs y
    | false => exact min_tcl xs x
theorem fwC_mem : ∀ (xs : List (List (Int × Int))) (x : List (Int × Int)), fwC x xs ∈ x :: xs
  | [], _ => List.mem_cons_self
  | y :: xs, x => by
    show fwC (if PySem.W.dataLt (tcl y) (tcl x) then y else x) xs ∈ x :: y :: xs
    cases PySem.W.dataLt (tcl y) (tcl x) with
    | true => exact List.mem_cons_of_mem _ (fwC_mem xs y)
    | false =>
      rcases List.mem_cons.mp (fwC_mem xs x) with h | h
      · show fwC x xs ∈ _
        rw [h]
        exact List.mem_cons_self
      · exact List.mem_cons_of_mem _ (List.mem_cons_of_mem _ h)
theorem tcl_alike (ss : List (List (Int × Int))) : PySem.W.AlikeAll (ss.map tcl) := by
  refine ⟨fun x hx y hy => ?_, fun x hx => ?_⟩
  · obtain ⟨a, _, rfl⟩ := List.mem_map.mp hx
    obtain ⟨b, _, rfl⟩ := List.mem_map.mp hy
    show PySem.W.alike (.tuple (cks a)) (.tuple (cks b)) = true
    simp only [PySem.W.alike]
    exact alike_cks a b
  · obtain ⟨a, _, rfl⟩ := List.mem_map.mp hx
    intro h
    cases h
theorem tcl_sh (ss : List (List (Int × Int))) : ∀ d ∈ ss.map tcl, SeqAt.shaped d = true := fun d h => by
  obtain ⟨a, _, rfl⟩ := List.mem_map.mp h
  exact sh_tck a
def hdC : List (List (Int × Int)) → List (Int × Int)
  | [] => []
  | x :: xs => fwC x xs
theorem oMin_tcl {xs : List (List (Int × Int))} {K : Rs → Prop} (h : xs ≠ []) (q : K (.val (tcl (hdC xs)))) : oMinL [.list (xs.map tcl)] K := by
  cases xs with
  | nil => exact (h rfl).elim
  | cons x xs =>
    refine ⟨tcl_alike (x :: xs), tcl_sh (x :: xs), ?_⟩
    rw [min_tcl]
    exact q
theorem hdC_mem {xs : List (List (Int × Int))} (h : xs ≠ []) : hdC xs ∈ xs := by
  cases xs with
  | nil => exact (h rfl).elim
  | cons x xs => exact fwC_mem xs x
theorem ex_len {N : Nat} (h1 : N ≤ 16) : (exF N).length ≤ 65536 := by
  unfold exF
  rw [List.length_mergeSort, List.length_map]
  have bd := fil_bd h1 17 (rgI N) (rgI_nd _) (fun x hx => rgI_mem.mp hx)
  rw [rgI_len] at bd
  exact Nat.le_trans bd (Nat.le_trans (Nat.pow_le_pow_right (by decide) (show ((N : Int)).toNat ≤ 16 by omega)) (by decide))

end Dl
end L2

/-! The plain half, 57: numbers and clocks written and read. -/
namespace L2
namespace Dl
open PySem PySem.Spec PyProof.Rows
theorem strL (z : Str) : z.length = z.cps.toList.length := TL.len_tl z
theorem two_ex {α : Type} : ∀ {l : List α}, l.length = 2 → ∃ a b, l = [a, b]
  | [a, b], _ => ⟨a, b, rfl⟩
end Dl
end L2

/-! The plain half, 58: texts of clocks read. -/
namespace L2
namespace Dl
open PySem PySem.Spec PyProof.Rows
theorem atI_last {α : Type} (f : List α) (d : α) : atI (f ++ [d]) (-1) = some d := by
  unfold atI
  rw [show ixN (f ++ [d]).length (-1) = some f.length by rw [List.length_append, List.length_singleton]; unfold ixN; simp; omega]
  simp
end Dl
end L2

/-! The plain half, 59: texts of clocks written, and read back. -/
namespace L2
namespace Dl
open PySem PySem.Spec PyProof.Rows
open SX
/-- signs that a row of ours has -/
def LowL (l : List Nat) : Prop := ∀ c ∈ l, c < 128
end Dl
end L2

/-! The plain half, 60: what is due of a text. -/
namespace L2
namespace Dl
open PySem PySem.Spec PyProof.Rows
end Dl
end L2

/-! The plain half, 61: rows of signs below 128. -/
namespace L2
namespace Dl
open PySem PySem.Spec PyProof.Rows
open SX
/-- a row of signs below 128, no longer than k -/
def RwOk (k : Nat) (z : Str) : Prop := LowL z.cps.toList ∧ z.cps.toList.length ≤ k
theorem RwOk.mono {k m : Nat} {z : Str} (h : RwOk k z) (hk : k ≤ m) : RwOk m z := ⟨h.1, Nat.le_trans h.2 hk⟩
theorem RwOk.len {k : Nat} {z : Str} (h : RwOk k z) : z.length ≤ k := by rw [strL]; exact h.2
end Dl
end L2

/-! The plain half, 62: exact clocks that have some steps. -/
namespace L2
namespace Dl
open PySem PySem.Spec PyProof.Rows
theorem bez (a b : Nat) : ∃ x y : Int, ((Nat.gcd a b : Nat) : Int) = a * x + b * y := by
  induction a, b using Nat.gcd.induction with
  | H0 n => exact ⟨0, 1, by simp⟩
  | H1 m n hm ih =>
    obtain ⟨x, y, h⟩ := ih
    refine ⟨y - (n / m : Nat) * x, x, ?_⟩
    rw [Nat.gcd_rec, h]
    have e : ((n % m : Nat) : Int) = n - m * (n / m : Nat) := by
      have := Nat.div_add_mod n m
      have : (m : Int) * (n / m : Nat) + (n % m : Nat) = n := by exact_mod_cast this
      omega
    rw [e, Int.sub_mul, Int.mul_sub, Int.mul_assoc]
    omega
/-- two clocks that never ring together -/
def apB (c d : Int × Int) : Bool := !decide (((Int.gcd c.1 d.1 : Nat) : Int) ∣ c.2 - d.2)
theorem ap_iff {c d : Int × Int} (hc : 1 ≤ c.1) (hd : 1 ≤ d.1) : apB c d = true ↔ Apart c d := by
  unfold apB
  rw [Bool.not_eq_true', decide_eq_false_iff_not]
  constructor
  · intro h x ⟨h1, h2⟩
    refine h ?_
    have := Int.dvd_sub (Int.dvd_trans (Int.gcd_dvd_right c.1 d.1) h2) (Int.dvd_trans (Int.gcd_dvd_left c.1 d.1) h1)
    rwa [show x - d.2 - (x - c.2) = c.2 - d.2 by omega] at this
  · rintro h ⟨k, hk⟩
    obtain ⟨x, y, e⟩ := bez c.1.natAbs d.1.natAbs
    have e1 : (c.1.natAbs : Int) = c.1 := by omega
    have e2 : (d.1.natAbs : Int) = d.1 := by omega
    have eg : ((Int.gcd c.1 d.1 : Nat) : Int) = c.1 * x + d.1 * y := by
      rw [← e1, ← e2]
      have : ((Int.gcd c.1 d.1 : Nat) : Int) = ((Nat.gcd c.1.natAbs d.1.natAbs : Nat) : Int) := rfl
      rw [e1, e2, this, e, e1, e2]
    refine h (c.2 - c.1 * (x * k)) ⟨⟨-(x * k), by rw [Int.mul_neg]; omega⟩, ⟨y * k, ?_⟩⟩
    have : c.2 - d.2 = c.1 * (x * k) + d.1 * (y * k) := by
      rw [hk, eg, Int.add_mul, Int.mul_assoc, Int.mul_assoc]
    omega
theorem ap_sym (c d : Int × Int) : apB c d = apB d c := by
  unfold apB
  rw [Int.gcd_comm d.1 c.1]
  congr 1
  rw [decide_eq_decide]
  rw [show d.2 - c.2 = -(c.2 - d.2) by omega, Int.dvd_neg]
theorem ms_perm2 {a b : List (Int × Int)} (h : a.Perm b) : a.mergeSort cle = b.mergeSort cle := by
  refine List.Perm.eq_of_pairwise (le := fun a b => cle a b = true) (fun x y _ _ h1 h2 => ?_) (List.pairwise_mergeSort cle_trans cle_total a) (List.pairwise_mergeSort cle_trans cle_total b) ((List.mergeSort_perm a _).trans (h.trans (List.mergeSort_perm b _).symm))
  unfold cle at h1 h2
  rw [decide_eq_true_iff] at h1 h2
  exact Prod.ext (by omega) (by omega)
/-- no more than one -/
theorem sumN_le1 {f : Nat → Int} : ∀ {n : Nat}, (∀ i < n, f i ≤ 1) → sumN f n ≤ n ∧ (sumN f n = n → ∀ i < n, f i = 1)
  | 0, _ => ⟨Int.le_refl _, fun _ i hi => by omega⟩
  | n + 1, h => by
    obtain ⟨a, b⟩ := sumN_le1 (f := f) (n := n) fun i hi => h i (by omega)
    have c := h n (by omega)
    have e : sumN f (n + 1) = sumN f n + f n := rfl
    rw [e]
    refine ⟨by omega, fun z i hi => ?_⟩
    by_cases y : i = n
    · subst y; omega
    · exact b (by omega) i (by omega)
theorem apart_one {M : List (Int × Int)} (ok : ∀ c ∈ M, CkOk 1000 c) (h : M.Pairwise Apart) (n : Int) : (rgF M n).length ≤ 1 := by
  have hp : (rgF M n).Pairwise Apart := h.sublist List.filter_sublist
  have hr : ∀ c ∈ rgF M n, c.1 ∣ n - c.2 := fun c hc => by
    obtain ⟨_, e⟩ := rg_mem.mp hc
    have := Int.mul_ediv_add_emod n c.1
    exact ⟨n / c.1, by omega⟩
  match e : rgF M n with
  | [] => exact Nat.zero_le _
  | [c] => exact Nat.le_refl _
  | c :: d :: r =>
    rw [e] at hp hr
    exact ((List.rel_of_pairwise_cons hp List.mem_cons_self) n ⟨hr c List.mem_cons_self, hr d (List.mem_cons_of_mem _ List.mem_cons_self)⟩).elim
/-- clocks on the way to exact ones, and the steps left -/
structure GS (R : Int) (cl : List (Int × Int)) (ls : List Int) : Prop where
  ok : ∀ c ∈ cl, CkOk 1000 c ∧ c.1 ∣ R
  ap : cl.Pairwise Apart
  st : ∀ s ∈ ls, 1 ≤ s ∧ s ≤ 60 ∧ s ∣ R
  sm : (cl.map fun c => R / c.1).sum + (ls.map fun s => R / s).sum = R
  rp : 0 < R
theorem GS.pos {R : Int} {cl : List (Int × Int)} {ls : List Int} (h : GS R cl ls) : ∀ s ∈ ls, 1 ≤ R / s := fun s hs => by
  obtain ⟨h1, h2, k, hk⟩ := h.st s hs
  have := h.rp
  rw [hk, Int.mul_ediv_cancel_left _ (by omega)]
  rcases Int.lt_or_le k 1 with z | z
  · have : s * k ≤ s * 0 := Int.mul_le_mul_of_nonneg_left (by omega) (by omega)
    omega
  · exact z
theorem sum_nn {l : List Int} (h : ∀ x ∈ l, 1 ≤ x) : (l.length : Int) ≤ l.sum := by
  induction l with
  | nil => exact Int.le_refl _
  | cons x l ih =>
    have h1 := h x List.mem_cons_self
    have h2 := ih fun y hy => h y (List.mem_cons_of_mem _ hy)
    rw [List.length_cons, List.sum_cons]
    omega
theorem GS.gap {R : Int} {cl : List (Int × Int)} {s : Int} {ls : List Int} (h : GS R cl (s :: ls)) : ∃ i, i < R.toNat ∧ rgF cl (i : Int) = [] := by
  refine Classical.byContradiction fun hn => ?_
  have all : ∀ i < R.toNat, (1 : Int) ≤ ((rgF cl (i : Int)).length : Int) := fun i hi => by
    have : rgF cl (i : Int) ≠ [] := fun e => hn ⟨i, hi, e⟩
    have := List.length_pos_iff.mpr this
    omega
  have ge := sumN_ge all
  have rp := h.rp
  have hs := rg_sum (M := R) (by omega) h.ok
  have h2 := sum_nn (l := (s :: ls).map fun s => R / s) fun x hx => by
    obtain ⟨t, ht, rfl⟩ := List.mem_map.mp hx
    exact h.pos t ht
  rw [List.length_map, List.length_cons] at h2
  have := h.sm
  have e : sumN (fun i => ((rgF cl (i : Int)).length : Int)) R.toNat = (cl.map fun c => R / c.1).sum := hs
  rw [e] at ge
  omega
/-- the first number missed -/
def gpF (R : Int) (cl : List (Int × Int)) : Nat := ((List.range R.toNat).find? fun (i : Nat) => decide (rgF cl (i : Int) = [])).getD 0
theorem GS.gp {R : Int} {cl : List (Int × Int)} {s : Int} {ls : List Int} (h : GS R cl (s :: ls)) : gpF R cl < R.toNat ∧ rgF cl (gpF R cl : Int) = [] ∧ ∀ i < gpF R cl, rgF cl (i : Int) ≠ [] := by
  obtain ⟨i, hi, e⟩ := h.gap
  unfold gpF
  cases hf : (List.range R.toNat).find? fun (i : Nat) => decide (rgF cl (i : Int) = []) with
  | none =>
    have := List.find?_eq_none.mp hf i (List.mem_range.mpr hi)
    rw [decide_eq_true e] at this
    exact (this rfl).elim
  | some j =>
    obtain ⟨a, b, c⟩ := List.find?_range_eq_some.mp hf
    refine ⟨List.mem_range.mp b, of_decide_eq_true a, fun i hi => ?_⟩
    have := c i hi
    simpa using this
/-- the steps, each once -/
def dsI (ls : List Int) : List Int := (rgI 61).filter fun s => decide (s ∈ ls)
theorem ds_lt (ls : List Int) : (dsI ls).Pairwise (· < ·) := (rgI_lt 61).sublist List.filter_sublist
theorem ds_mem {ls : List Int} (h : ∀ s ∈ ls, 1 ≤ s ∧ s ≤ 60) (s : Int) : s ∈ dsI ls ↔ s ∈ ls := by
  unfold dsI
  rw [List.mem_filter, decide_eq_true_iff]
  refine ⟨fun z => z.2, fun z => ⟨?_, z⟩⟩
  obtain ⟨h1, h2⟩ := h s z
  unfold rgI
  exact List.mem_map.mpr ⟨s.toNat, List.mem_range.mpr (by omega), by omega⟩
theorem ds_len {ls : List Int} (h : ∀ s ∈ ls, 1 ≤ s ∧ s ≤ 60) : (dsI ls).length ≤ ls.length := nd_len ((ds_lt ls).imp fun z => by omega) fun s hs => (ds_mem h s).mp hs
/-- all ways on -/
def wsF (R : Int) : Nat → List (Int × Int) → List Int → List (List (Int × Int))
  | 0, _, _ => []
  | _ + 1, cl, [] => [cl.mergeSort cle]
  | k + 1, cl, l0 :: ls => (dsI (l0 :: ls)).flatMap fun s => if cl.all (fun d => apB (s, (gpF R cl : Int) % s) d) = true then wsF R k (cl ++ [(s, (gpF R cl : Int) % s)]) ((l0 :: ls).erase s) else []
/-- exact clocks that have cl and else clocks of the steps ls -/
def MS (cl : List (Int × Int)) (ls : List Int) (m : List (Int × Int)) : Prop := ∃ rest : List (Int × Int), (rest.map (·.1)).Perm ls ∧ (∀ c ∈ rest, CkOk 1000 c) ∧ (cl ++ rest).Pairwise Apart ∧ m = (cl ++ rest).mergeSort cle
theorem sum_perm2 {xs ys : List Int} (h : xs.Perm ys) (R : Int) : (xs.map fun s => R / s).sum = (ys.map fun s => R / s).sum := sum_perm (h.map _)
theorem GS.next {R : Int} {cl : List (Int × Int)} {ls : List Int} (h : GS R cl ls) {s g : Int} (hs : s ∈ ls) (ha : cl.all (fun d => apB (s, g % s) d) = true) : GS R (cl ++ [(s, g % s)]) (ls.erase s) := by
  obtain ⟨h1, h2, h3⟩ := h.st s hs
  have ck : CkOk 1000 (s, g % s) := ⟨h1, by show s ≤ 1000; omega, Int.emod_nonneg _ (by omega), Int.emod_lt_of_pos _ (by omega)⟩
  refine ⟨fun c hc => ?_, ?_, fun t ht => h.st t (List.mem_of_mem_erase ht), ?_, h.rp⟩
  · rcases List.mem_append.mp hc with hc | hc
    · exact h.ok c hc
    · rw [List.mem_singleton.mp hc]
      exact ⟨ck, h3⟩
  · rw [List.pairwise_append]
    refine ⟨h.ap, List.pairwise_singleton _ _, fun c hc d hd => ?_⟩
    rw [List.mem_singleton.mp hd]
    exact ((ap_iff h1 ((h.ok c hc).1.1)).mp (List.all_eq_true.mp ha c hc)).symm
  · have e := sum_perm2 (List.perm_cons_erase hs) R
    rw [List.map_cons, List.sum_cons] at e
    have := h.sm
    rw [List.map_append, List.sum_append, List.map_cons, List.map_nil, List.sum_cons, List.sum_nil]
    show _ + (R / s + 0) + _ = _
    omega
theorem ws_mem {R : Int} : ∀ (k : Nat) (cl : List (Int × Int)) (ls : List Int), ls.length ≤ k → GS R cl ls → ∀ m, m ∈ wsF R (k + 1) cl ls ↔ MS cl ls m
  | k, cl, [], _, h, m => by
    show m ∈ [cl.mergeSort cle] ↔ _
    rw [List.mem_singleton]
    constructor
    · rintro rfl
      exact ⟨[], List.Perm.refl _, fun c hc => (by cases hc), by rw [List.append_nil]; exact h.ap, by rw [List.append_nil]⟩
    · rintro ⟨rest, hp, _, _, rfl⟩
      have : rest = [] := List.map_eq_nil_iff.mp hp.eq_nil
      rw [this, List.append_nil]
  | 0, cl, l0 :: ls, hl, _, _ => by
    rw [List.length_cons] at hl
    omega
  | k + 1, cl, l0 :: ls, hl, h, m => by
    have hst : ∀ s ∈ l0 :: ls, 1 ≤ s ∧ s ≤ 60 := fun s hs => ⟨(h.st s hs).1, (h.st s hs).2.1⟩
    obtain ⟨g1, g2, g3⟩ := h.gp
    have e : wsF R (k + 1 + 1) cl (l0 :: ls) = (dsI (l0 :: ls)).flatMap fun s => if cl.all (fun d => apB (s, (gpF R cl : Int) % s) d) = true then wsF R (k + 1) (cl ++ [(s, (gpF R cl : Int) % s)]) ((l0 :: ls).erase s) else [] := rfl
    rw [e, List.mem_flatMap]
    generalize gpF R cl = g at *
    generalize hL : l0 :: ls = L at *
    constructor
    · rintro ⟨s, hs, hm⟩
      have hs := (ds_mem hst s).mp hs
      split at hm
      · rename_i ha
        have nx := h.next hs ha
        obtain ⟨rest, p1, p2, p3, p4⟩ := (ws_mem k _ _ (by rw [List.length_erase_of_mem hs]; omega) nx m).mp hm
        have ck := (nx.ok _ (List.mem_append_right _ List.mem_cons_self)).1
        refine ⟨(s, (g : Int) % s) :: rest, ?_, ?_, ?_, ?_⟩
        · rw [List.map_cons]
          exact (p1.cons s).trans (List.perm_cons_erase hs).symm
        · intro c hc
          rcases List.mem_cons.mp hc with rfl | hc
          · exact ck
          · exact p2 c hc
        · rw [List.append_assoc] at p3
          exact p3
        · rw [List.append_assoc] at p4
          exact p4
      · cases hm
    · rintro ⟨rest, p1, p2, p3, rfl⟩
      -- the clock that rings at the gap
      have okM : ∀ c ∈ cl ++ rest, CkOk 1000 c ∧ c.1 ∣ R := fun c hc => by
        rcases List.mem_append.mp hc with hc | hc
        · exact h.ok c hc
        · exact ⟨p2 c hc, (h.st c.1 (p1.mem_iff.mp (List.mem_map.mpr ⟨c, hc, rfl⟩))).2.2⟩
      have rp := h.rp
      have hs := rg_sum (M := R) (by omega) okM
      have sm : ((cl ++ rest).map fun c => R / c.1).sum = R := by
        have e2 := sum_perm2 p1 R
        rw [List.map_map] at e2
        rw [List.map_append, List.sum_append]
        have := h.sm
        have e3 : (rest.map fun c => R / c.1).sum = (L.map fun s => R / s).sum := e2
        omega
      rw [sm] at hs
      have one := (sumN_le1 (f := fun i => ((rgF (cl ++ rest) (i : Int)).length : Int)) (n := R.toNat) fun i _ => by have := apart_one (fun c hc => (okM c hc).1) p3 (i : Int); omega).2 (by rw [show sumN (fun i => ((rgF (cl ++ rest) (i : Int)).length : Int)) R.toNat = R from hs]; omega) g g1
      have ne : rgF (cl ++ rest) (g : Int) ≠ [] := fun z => by rw [z] at one; cases one
      obtain ⟨c, hc⟩ := List.exists_mem_of_ne_nil _ ne
      obtain ⟨hc1, hc2⟩ := rg_mem.mp hc
      have ncl : c ∉ cl := fun z => by
        have : c ∈ rgF cl (g : Int) := rg_mem.mpr ⟨z, hc2⟩
        rw [g2] at this
        cases this
      have hcr : c ∈ rest := (List.mem_append.mp hc1).resolve_left ncl
      have hcs : c.1 ∈ L := p1.mem_iff.mp (List.mem_map.mpr ⟨c, hcr, rfl⟩)
      have ec : (c.1, (g : Int) % c.1) = c := Prod.ext rfl hc2
      have pp := List.perm_cons_erase hcr
      have ha : cl.all (fun d => apB c d) = true := List.all_eq_true.mpr fun d hd => by
        have := (List.pairwise_append.mp p3).2.2 d hd c hcr
        rw [ap_sym]
        exact (ap_iff (h.ok d hd).1.1 (p2 c hcr).1).mpr this
      refine ⟨c.1, (ds_mem hst _).mpr hcs, ?_⟩
      rw [ec, if_pos ha]
      have nx := h.next (s := c.1) (g := g) hcs (by rw [ec]; exact ha)
      rw [ec] at nx
      have pm : (cl ++ rest).Perm ((cl ++ [c]) ++ rest.erase c) := by
        rw [List.append_assoc]
        exact pp.append_left cl
      refine (ws_mem k _ _ (by rw [List.length_erase_of_mem hcs]; omega) nx _).mpr ⟨rest.erase c, ?_, fun d hd => p2 d (List.mem_of_mem_erase hd), (pm.pairwise_iff fun z => Apart.symm z).mp p3, ms_perm2 pm⟩
      have q1 := (pp.map (·.1)).symm.trans p1
      rw [List.map_cons] at q1
      exact List.Perm.cons_inv (q1.trans (List.perm_cons_erase hcs))
end Dl
end L2

/-! The plain half, 63: with_steps and exact_with. -/
namespace L2
namespace Dl
open PySem PySem.Spec PyProof.Rows
local macro_rules | `(tactic| dsimp? [$xs,*] $[$l]?) => `(tactic| simp only [wSeq, wNext, wBreak, wCont, wDrop, wRet, wRetN, wIfS, wSet, wAsgT, e_aug, e_setIx, e_par, e_gN, getS_0, getS_s, setS_0, setS_s, e_var, varK_v, varK_o, varK_u, wC, wBin, rdK_v, rdK_t, rdK_s, rdS_v, rdS_o, rdS_u, fzK_v, fzK_t, fzK_s, fzS_v, fzS_o, fzS_l, fzS_u, e_fz, asg_v, asg_t, asg_s, e_tb, tbK_b, wAnd, wOr, wNot, e_notV, e_andV, e_orV, wBV, wIf, e_neg, intK_i, e_oso, wONo, e_rng1, e_rng2, wFNil, wFCons, wANil, wACons, wTup, wLst, e_callB, rdAllK_n, rdAllK_c, wIsi, e_call, wMNil, wMCons, e_ld, lnsOf, avsK_n, avsK_f, avsK_l, lnS_o, lnS_v, lnS_u, poK_n, poK_c, poS_o, inS_0, inS_s, rsK_v, rsK_o, wSl, e_ownF, e_own0, ownB_o, oS_o, oS_v, oS_u, agS_i, muApp, oAdd_i, oAdd_l, oAdd_t, oAdd_s, oSub_i, oMul_i, oFdiv_i, oMod_i, oPow_i, oShl_i, oShr_i, oOr_i, oAndB_i, oLt_i, oLe_i, oGt_i, oGe_i, oEq_i, oNe_i, oEq, oNe, oIx_l, oIx_t, oLen_l, oLen_t, oInt_i, oInt_b, oMax_i, oMin_i, oList_l, oList_t, oTuple_l, oTuple_t, oSorted_l, oSorted_t, oIs_n, oIsN_n, oIs_b, oIsN_b, isNone_n, isNone_t, isNone_l, isNone_i, isNone_s, isNone_b, oSl_l, oSl_t, oIn, gT_t, gC_c, gNil', e_iseq, sqK_l, sqK_t, e_isq, sq2K_l, sq2K_t, e_sset, ssK_l, ssK_t, e_chain, e_lr1, e_lr2, wRev, rvD_l, rvD_t, e_in1, e_in2, negB_f, negB_t, wIZip, zpK_l, zpK_t, zpK_m, e_extend, extR_t, wYes, startEv, kenD_nx, kenD_rt, kenD_bk, kenD_ct, kenD_ex, outK_n, outK_c, otS_o, rvK_v, rvK_t, rvK_s, rvS_v, rvS_o, slOf, lsFrom, wipeE, restE, List.map_cons, List.map_nil, List.length_cons, List.length_nil, List.replicate, List.append_nil, List.cons_append, List.nil_append, List.getElem?_cons_zero, List.getElem?_cons_succ, List.getElem?_nil, List.set_cons_zero, List.set_cons_succ, List.set_nil, Option.getD_some, Option.getD_none, Option.map_some, Option.map_none, Option.some.injEq, Rs.val.injEq, Rs.tmp.injEq, Rs.slot.injEq, Sl.own.injEq, Sl.val.injEq, PyData.int.injEq, PyData.bool.injEq, PyData.str.injEq, PyData.list.injEq, PyData.tuple.injEq, Prod.mk.injEq, Nat.sub_self, Nat.zero_add, Nat.reduceAdd, Nat.reduceSub, Nat.add_zero, isTy_int_int, isTy_bool_int, isTy_int_bool, isTy_bool_bool, isTy_int_tup, isTy_int_lst, isTy_int_non, isTy_int_str, isTy_tup_tup, isTy_tup_lst, isTy_tup_int, isTy_tup_bool, isTy_tup_non, isTy_tup_str, isTy_lst_lst, isTy_lst_tup, isTy_lst_int, exists_eq_left', exists_eq_left, exists_and_left, exists_eq_right, exists_eq, exists_eq', exists_const, true_and, and_true, and_self, Bool.not_true, Bool.not_false, if_true, if_false, Bool.false_eq_true, reduceIte, reduceCtorEq, List.nodup_nil, decide_eq_true_eq, atI_0, atI_1, atI_2, atI_3, atI_4, atI_5, atI_6, atI_7, atI_8, atI_9, atI_10, atI_11, ixN_3_0, ixN_3_1, ixN_3_2, sh_int, sh_bool, sh_non, and_assoc, nd1, nd_true, eq_self, decide_true, decide_false, Int.cast_ofNat_Int, not_true_eq_false, not_false_eq_true, eqv_ii, eqv_bb, wRaise0, e_raiseG, grK_i, e_raise1, onK_i, e_callX, xa_1, xa_2, xa_3, xa_4, xa_5, xa_6, xa_7, e_many, e_most, e_number, e_row, isLst_l, lsK_l, e_rd, e_br, brS_o, brS_v, arS_o, arS_v, avbK_n, avbK_f, avbK_l, scK_b, scK_i, scK_n, scK_s, e_callS, tmK_t, e_rep, enK_l, e_ienum, wTry, eqv_ss, tpK_v, txK_1, tutK_t, e_repT, e_callT, enTK_t, e_ienumT, r3K_i, e_rng3, e_newD, e_putD, e_lenD, e_listD, dcS_d, dcB_d, pvK_b, pvK_i, tkK_m, tkK_2, e_ssetI, oMinL_c, e_lset, e_lstZ, zlK_c, e_ins, e_callF, $xs,*] $[$l]?)
def sp_first_gap : Spc := fun avs Kr Kx => match avs with
  | [.val (.list ds)] => ∃ cs, ∃ g : Nat, ds = cks cs ∧ (∀ c ∈ cs, 1 ≤ c.1) ∧ cs.length ≤ 100 ∧ rgF cs (g : Int) = [] ∧ (∀ i < g, rgF cs (i : Int) ≠ []) ∧ Kr [] (.val (.int (g : Int)))
  | _ => False
def w_first_gap_T1 : WT :=
  (wTB (wBin oNe (wCall 2 sp_rings_at (wMCons (wVar 0) (wMCons (wVar 1) wMNil))) (wLst wFNil)))
def w_first_gap_B1 : WS :=
  (wAug 1 (fun a b => a + b) (wC (.int 1)))
def w_first_gap_L1 : WS :=
  wWhile w_first_gap_T1 w_first_gap_B1
def w_first_gap_R1 : WS :=
  (wRet (wVar 1))
/-- first_gap: 0 clocks, 1 number -/
def w_first_gap : WS :=
  (wSeq (wSet 1 (wC (.int 0)))
    (wSeq w_first_gap_L1
    w_first_gap_R1))

theorem vc_first_gap : ∀ avs Kr Kx, avs.length = 1 → sp_first_gap avs Kr Kx → lsFrom 0 avs = [] ∧ w_first_gap (startEv 2 avs) (kenD [] Kr Kx) := by
  intro avs Kr Kx hl h
  unfold sp_first_gap at h
  split at h
  · rename_i ds
    obtain ⟨cs, g, rfl, hc, hl, hg, hn, q⟩ := h
    refine ⟨rfl, ?_⟩
    unfold w_first_gap
    refine seq_cut fun R hR => ?_
    dsimp? []
    refine hR _ ?_
    refine seq_cut fun R hR => ?_
    unfold w_first_gap_L1
    refine ⟨fun m e => ∃ i : Nat, e = [.val (.list (cks cs)), .val (.int (i : Int))] ∧ i ≤ g ∧ m = g - i, ⟨g, 0, rfl, by omega, rfl⟩, ?_⟩
    rintro m e ⟨i, rfl, hi, rfl⟩
    unfold w_first_gap_T1
    dsimp? [sp_rings_at]
    refine ⟨cs, rfl, hc, by omega, by decide, sh_lck _, sh_lck [], ?_⟩
    rw [eqv_lnil]
    by_cases hi' : i < g
    · have hne : (cks (rgF cs (i : Int))).isEmpty = false := by
        cases e : rgF cs (i : Int) with
        | nil => exact absurd e (hn i hi')
        | cons c l => rfl
      rw [hne, if_pos (by decide)]
      dsimp? [w_first_gap_B1]
      exact ⟨g - (i + 1), by omega, i + 1, by rw [Int.natCast_add]; rfl, by omega, rfl⟩
    · have e : i = g := by omega
      subst e
      rw [hg]
      rw [if_neg (by decide)]
      refine hR _ ?_
      dsimp? [w_first_gap_R1]
      exact q
  · exact h.elim
/-- no more ways than orders -/
def fctN : Nat → Nat
  | 0 => 1
  | n + 1 => (n + 1) * fctN n
theorem flat_len {α β : Type} (f : α → List β) (b : Nat) : ∀ l : List α, (∀ x ∈ l, (f x).length ≤ b) → (l.flatMap f).length ≤ l.length * b
  | [], _ => Nat.zero_le _
  | x :: l, h => by
    rw [List.flatMap_cons, List.length_append, List.length_cons, Nat.succ_mul]
    have h1 := h x List.mem_cons_self
    have h2 := flat_len f b l fun y hy => h y (List.mem_cons_of_mem _ hy)
    omega
theorem ws_len {R : Int} : ∀ (k : Nat) (cl : List (Int × Int)) (ls : List Int), (∀ s ∈ ls, 1 ≤ s ∧ s ≤ 60) → (wsF R k cl ls).length ≤ fctN ls.length
  | 0, _, ls, _ => Nat.zero_le _
  | _ + 1, _, [], _ => Nat.le_refl _
  | k + 1, cl, l0 :: ls, h => by
    have e : wsF R (k + 1) cl (l0 :: ls) = (dsI (l0 :: ls)).flatMap fun s => if cl.all (fun d => apB (s, (gpF R cl : Int) % s) d) = true then wsF R k (cl ++ [(s, (gpF R cl : Int) % s)]) ((l0 :: ls).erase s) else [] := rfl
    rw [e]
    refine Nat.le_trans (flat_len _ (fctN ls.length) _ fun s hs => ?_) (Nat.mul_le_mul_right _ (ds_len h))
    have hs := (ds_mem h s).mp hs
    split
    · have := ws_len (R := R) k (cl ++ [(s, (gpF R cl : Int) % s)]) ((l0 :: ls).erase s) fun t ht => h t (List.mem_of_mem_erase ht)
      rw [List.length_erase_of_mem hs, List.length_cons] at this
      exact this
    · exact Nat.zero_le _
theorem fct_mono : ∀ {m n : Nat}, m ≤ n → fctN m ≤ fctN n := by
  intro m n h
  induction h with
  | refl => exact Nat.le_refl _
  | step _ ih => exact Nat.le_trans ih (Nat.le_mul_of_pos_left _ (Nat.succ_pos _))
theorem ssJ {ls : List Int} {K : Rs → Prop} (h : ∀ s ∈ ls, 1 ≤ s ∧ s ≤ 60) (hl : ls.length < 64) (q : K (.tmp ((dsI ls).map .int))) : oSortSetI (ls.map .int) K :=
  ⟨ls, rfl, hl, fun ns pw mem => by
    have : ns = dsI ls := lt_uniq pw (ds_lt ls) fun s => by rw [mem, ds_mem h]
    rw [this]
    exact q⟩
theorem rem_first {s : Int} : ∀ {L : List Int}, s ∈ L → ∃ j : Nat, L[j]? = some s ∧ (∀ m : Nat, m < j → L[m]? ≠ some s) ∧ L.eraseIdx j = L.erase s
  | [], h => by cases h
  | x :: L, h => by
    by_cases e : x = s
    · subst e
      exact ⟨0, rfl, fun m hm => by omega, by rw [List.erase_cons_head]; rfl⟩
    · have hs : s ∈ L := (List.mem_cons.mp h).resolve_left fun z => e z.symm
      obtain ⟨j, h1, h2, h3⟩ := rem_first hs
      refine ⟨j + 1, h1, fun m hm => ?_, ?_⟩
      · cases m with
        | zero => exact fun z => e (Option.some.inj z)
        | succ m => exact h2 m (by omega)
      · rw [List.erase_cons_tail (by simpa using e), ← h3]
        rfl
def spA_with_steps (n : Nat) : Spc := fun avs Kr Kx => match avs with
  | [.val (.list ds), .val (.list xs)] => ∃ (R : Int) (cl : List (Int × Int)) (ls : List Int), ds = cks cl ∧ xs = ls.map .int ∧ GS R cl ls ∧ cl.length + ls.length ≤ 10 ∧ ls.length ≤ n ∧ n ≤ 20 ∧ Kr [] (.own ((wsF R (n + 1) cl ls).map tcl))
  | _ => False
def sp_with_steps : Nat → Spc
  | 0 => fun _ _ _ => False
  | n + 1 => spA_with_steps n
def w_with_steps_C1 (n : Nat) : WE :=
  wLc [7] (wISeq (wVar 0)) (gN 7) wYes (wBin oIs (wCall 2 sp_meet_of (wMCons (wVar 5) (wMCons (wVar 7) wMNil))) (wC .none))
def w_with_steps_B1 (n : Nat) : WS :=
  (wSeq (wSet 5 (wTup (wFCons (wVar 4) (wFCons (wBin oMod (wVar 2) (wVar 4)) wFNil))))
    (wIfS (wTB (wCallB oAll (wACons ((w_with_steps_C1 n)) wANil))) (wSeq (wSet 6 (wCallB oList (wACons (wVar 1) wANil)))
    (wSeq (wDrop (wOwnF 6 (wVar 4) muRem))
    (wDrop (wExtend 3 (wCall 2 (sp_with_steps n) (wMCons (wBin oAdd (wVar 0) (wLst (wFCons (wVar 5) wFNil))) (wMCons (wVar 6) wMNil))))))) wNext))
def w_with_steps_L1 (n : Nat) : WS :=
  wFor (wISeq (wSortSetJ (wVar 1))) (gN 4) (w_with_steps_B1 n)
def w_with_steps_R1 (n : Nat) : WS :=
  (wRet (wVar 3))
/-- with_steps: 0 clocks, 1 steps, 2 number, 3 found, 4 step, 5 clock, 6 left, 7 other -/
def w_with_steps (n : Nat) : WS :=
  (wSeq (wIfS (wTB (wBin oEq (wVar 1) (wLst wFNil))) (wRet (wLst (wFCons (wCallB oTuple (wACons (wCallB oSorted (wACons (wVar 0) wANil)) wANil)) wFNil))) wNext)
    (wSeq (wSet 2 (wCall 1 sp_first_gap (wMCons (wVar 0) wMNil)))
    (wSeq (wSet 3 (wLst wFNil))
    (wSeq (w_with_steps_L1 n)
    (w_with_steps_R1 n)))))

theorem vc_with_steps : ∀ n avs Kr Kx, avs.length = 2 → sp_with_steps (n + 1) avs Kr Kx → lsFrom 0 avs = [] ∧ w_with_steps n (startEv 8 avs) (kenD [] Kr Kx) := by
  intro n avs Kr Kx hl h
  replace h : spA_with_steps n avs Kr Kx := h
  unfold spA_with_steps at h
  split at h
  · rename_i ds xs
    obtain ⟨R0, cl, ls, rfl, rfl, hg, hlen, hn, n20, q⟩ := h
    refine ⟨rfl, ?_⟩
    unfold w_with_steps
    refine seq_cut fun R hR => ?_
    dsimp? []
    refine ⟨by decide, sh_lin ls, sh_lin [], ?_⟩
    rw [eqv_lnil]
    cases ls with
    | nil =>
      rw [if_pos (by decide)]
      refine ⟨srt_cks _, by decide, ?_⟩
      rw [sort_cks]
      exact q
    | cons l0 ls =>
      obtain ⟨n', rfl⟩ : ∃ n', n = n' + 1 := ⟨n - 1, by rw [List.length_cons] at hn; omega⟩
      have hst : ∀ s ∈ l0 :: ls, 1 ≤ s ∧ s ≤ 60 := fun s hs => ⟨(hg.st s hs).1, (hg.st s hs).2.1⟩
      obtain ⟨g1, g2, g3⟩ := hg.gp
      have ew : wsF R0 (n' + 1 + 1) cl (l0 :: ls) = (dsI (l0 :: ls)).flatMap fun s => if cl.all (fun d => apB (s, (gpF R0 cl : Int) % s) d) = true then wsF R0 (n' + 1) (cl ++ [(s, (gpF R0 cl : Int) % s)]) ((l0 :: ls).erase s) else [] := rfl
      have wl := ws_len (R := R0) (n' + 1 + 1) cl (l0 :: ls) hst
      have wl := Nat.le_trans wl (fct_mono (show (l0 :: ls).length ≤ 10 by omega))
      have f10 : fctN 10 = 3628800 := by decide
      rw [f10] at wl
      rw [ew] at q wl
      rw [if_neg (show ¬ ((l0 :: ls).map PyData.int).isEmpty = true from fun z => by cases z)]
      generalize gpF R0 cl = g at *
      generalize hL : l0 :: ls = L at *
      refine hR _ ?_
      refine seq_cut fun R hR => ?_
      dsimp? [sp_first_gap]
      refine ⟨cl, rfl, fun c hc => (hg.ok c hc).1.1, by omega, g, g2, g3, hR _ ?_⟩
      refine seq_cut fun R hR => ?_
      dsimp? []
      refine ⟨by decide, hR _ ?_⟩
      refine seq_cut fun R hR => ?_
      dsimp? [w_with_steps_L1, wFor, wSortSetJ]
      refine ssJ hst (by omega) ?_
      dsimp? []
      generalize hF : (fun s => if cl.all (fun d => apB (s, (g : Int) % s) d) = true then wsF R0 (n' + 1) (cl ++ [(s, (g : Int) % s)]) (L.erase s) else []) = fb at *
      refine each_pre PyData.int (dsI L) (fun pre e => ∃ x4 x5 x6, e = [.val (.list (cks cl)), .val (.list (L.map .int)), .val (.int (g : Int)), .own false ((pre.flatMap fb).map tcl), x4, x5, x6, .un]) ?_ ?_ _ ⟨_, _, _, rfl⟩
      · rintro e ⟨x4, x5, x6, rfl⟩
        refine hR _ ?_
        dsimp? [w_with_steps_R1]
        exact q
      · rintro pre s post he e R9 ⟨x4, x5, x6, rfl⟩ ih
        have hsd : s ∈ dsI L := by rw [he]; exact List.mem_append_right _ List.mem_cons_self
        have hs := (ds_mem hst s).mp hsd
        obtain ⟨s1, s60, _⟩ := hg.st s hs
        have ef : pre.flatMap fb ++ fb s = (pre ++ [s]).flatMap fb := by rw [List.flatMap_append, List.flatMap_cons, List.flatMap_nil, List.append_nil]
        have fl : (pre.flatMap fb).length + (fb s).length ≤ 3628800 := by
          rw [he, List.flatMap_append, List.flatMap_cons, List.length_append, List.length_append] at wl
          omega
        have efs : fb s = if cl.all (fun d => apB (s, (g : Int) % s) d) = true then wsF R0 (n' + 1) (cl ++ [(s, (g : Int) % s)]) (L.erase s) else [] := by rw [← hF]
        dsimp? []
        unfold w_with_steps_B1
        refine seq_cut fun R hR => ?_
        dsimp? []
        refine ⟨by omega, by decide, hR _ ?_⟩
        dsimp? [w_with_steps_C1, wLc]
        have m0 := Int.emod_nonneg (g : Int) (show s ≠ 0 by omega)
        have m1 := Int.emod_lt_of_pos (g : Int) (show 0 < s by omega)
        have ckS : CkOk 1000 (s, (g : Int) % s) := ⟨s1, by show s ≤ 1000; omega, m0, m1⟩
        generalize hr : (g : Int) % s = r at *
        refine lc_map ck (fun d => .bool (apB (s, r) d)) cl (fun d hd A hA => ?_) (small100000 (by omega)) ?_
        · have okd := (hg.ok d hd).1
          dsimp? [ck, sp_meet_of]
          refine ⟨CkOk.b (m := 1000) ckS (by decide), okd.b (by decide), fun hno => ?_, fun x hm _ _ => ?_⟩
          · have : apB (s, r) d = true := (ap_iff s1 okd.1).mpr fun x hx => hno x hx
            rw [this] at hA
            exact hA
          · have : apB (s, r) d = false := Bool.eq_false_iff.mpr fun z => (ap_iff s1 okd.1).mp z x hm
            rw [this] at hA
            exact hA
        dsimp? [oAll]
        refine ⟨cl.map fun d => apB (s, r) d, by rw [List.map_map]; rfl, ?_⟩
        rw [show (cl.map fun d => apB (s, r) d).all id = cl.all fun d => apB (s, r) d by rw [List.all_map]; rfl]
        by_cases ha : (cl.all fun d => apB (s, r) d) = true
        · rw [if_pos ha] at efs ⊢
          obtain ⟨j, j1, j2, j3⟩ := rem_first hs
          have nx := hg.next (s := s) (g := g) hs (by rw [hr]; exact ha)
          rw [hr] at nx
          refine ⟨L, s, j, rfl, rfl, j1, j2, ?_⟩
          rw [j3]
          dsimp? [sp_with_steps, spA_with_steps, List.length_map]
          have ll : L.length = (L.erase s).length + 1 := by
            rw [List.length_erase_of_mem hs]
            have := List.length_pos_of_mem hs
            omega
          refine ⟨by decide, by rw [sizeLine_eq]; omega, R0, cl ++ [(s, r)], by rw [show cks (cl ++ [(s, r)]) = cks cl ++ [ck (s, r)] from List.map_append]; rfl, L.erase s, rfl, nx, by rw [List.length_append, List.length_singleton]; omega, by omega, by omega, ?_⟩
          rw [← efs]
          refine ⟨by rw [sizeLine_eq]; omega, ih _ ⟨.val (.int s), .val (ck (s, r)), .val (.list ((L.erase s).map .int)), ?_⟩⟩
          rw [← ef, List.map_append]
          rfl
        · rw [if_neg ha] at efs ⊢
          rw [efs, List.append_nil] at ef
          refine ih _ ⟨.val (.int s), .val (ck (s, r)), x6, ?_⟩
          rw [ef]
          rfl
  · exact h.elim
/-! the least of some -/
theorem tcl_lt (a b : List (Int × Int)) : PySem.W.dataLt (tcl a) (tcl b) = decide (flC a < flC b) := by
  show PySem.W.dataLt (.tuple (cks a)) (.tuple (cks b)) = _
  rw [PySem.W.dataLt_tuple]
  exact rows_ck a b
theorem fwC_le : ∀ (xs : List (List (Int × Int))) (x : List (Int × Int)), ∀ y ∈ x :: xs, flC (fwC x xs) ≤ flC y
  | [], x, y, h => by
    rw [List.mem_singleton.mp h]
    exact List.le_refl _
  | z :: xs, x, y, h => by
    have e : fwC x (z :: xs) = fwC (if PySem.W.dataLt (tcl z) (tcl x) then z else x) xs := rfl
    rw [e]
    have ih := fwC_le xs (if PySem.W.dataLt (tcl z) (tcl x) then z else x)
    have hd := ih _ List.mem_cons_self
    have key : flC (if PySem.W.dataLt (tcl z) (tcl x) then z else x) ≤ flC x ∧ flC (if PySem.W.dataLt (tcl z) (tcl x) then z else x) ≤ flC z := by
      rw [tcl_lt]
      by_cases hz : flC z < flC x
      · rw [if_pos (decide_eq_true hz)]
        exact ⟨List.le_of_lt hz, List.le_refl _⟩
      · rw [if_neg (by rw [decide_eq_false hz]; decide)]
        exact ⟨List.le_refl _, List.not_lt.mp hz⟩
    rcases List.mem_cons.mp h with rfl | h
    · exact List.le_trans hd key.1
    · rcases List.mem_cons.mp h with rfl | h
      · exact List.le_trans hd key.2
      · exact ih y (List.mem_cons_of_mem _ h)
theorem hdC_le {xs : List (List (Int × Int))} {y : List (Int × Int)} (h : y ∈ xs) : flC (hdC xs) ≤ flC y := by
  cases xs with
  | nil => cases h
  | cons x xs => exact fwC_le xs x y h
theorem hdC_eq {xs ys : List (List (Int × Int))} (hx : xs ≠ []) (h : ∀ m, m ∈ xs ↔ m ∈ ys) : hdC xs = hdC ys := by
  have hy : ys ≠ [] := fun e => by
    have := (h _).mp (hdC_mem hx)
    rw [e] at this
    cases this
  exact flC_inj (List.le_antisymm (hdC_le ((h _).mpr (hdC_mem hy))) (hdC_le ((h _).mp (hdC_mem hx))))
theorem shl_tcl (xs : List (List (Int × Int))) : SeqAt.shaped (.list (xs.map tcl)) = true := (ShN.lst (n := 2) fun d hd => by
  obtain ⟨l, _, rfl⟩ := List.mem_map.mp hd
  exact ShN.tup (ShN.cks l)).sh (by decide)
/-- steps that are some -/
structure SG (ss : List Int) : Prop where
  st : ∀ s ∈ ss, 1 ≤ s ∧ s ≤ 60
  len : ss.length ≤ 10
def rsS (ss : List Int) : Int := rnd 1 (st0 ss)
theorem SG.gc {ss : List Int} (h : SG ss) : GC (st0 ss) := ⟨fun c hc => by
  obtain ⟨s, hs, rfl⟩ := List.mem_map.mp hc
  obtain ⟨h1, h2⟩ := h.st s hs
  exact ⟨h1, by show s ≤ 1000; omega, Int.le_refl 0, by show (0 : Int) < s; omega⟩, by unfold st0; rw [List.length_map]; have := h.len; omega⟩
theorem SG.gs {ss : List Int} (h : SG ss) (hs : sumS (rsS ss) (st0 ss) = rsS ss) : GS (rsS ss) [] ss := by
  have dv := (rnd_spec (st0 ss) 1 (by decide) h.gc.one).2.2.1
  refine ⟨fun c hc => (by cases hc), List.Pairwise.nil, fun s hsm => ⟨(h.st s hsm).1, (h.st s hsm).2, dv (s, 0) (List.mem_map.mpr ⟨s, hsm, rfl⟩)⟩, ?_, h.gc.rp⟩
  unfold sumS st0 at hs
  rw [List.map_map] at hs
  rw [List.map_nil, List.sum_nil, Int.zero_add]
  exact hs
theorem one_one {R S : Int} (hR : 0 < R) (hS : 0 ≤ S) : (S / (Int.gcd R S : Nat) = 1 ∧ R / (Int.gcd R S : Nat) = 1) ↔ S = R := by
  have g0 : 0 < Int.gcd R S := Int.gcd_pos_of_ne_zero_left _ (by omega)
  obtain ⟨a, ha⟩ := Int.gcd_dvd_left R S
  obtain ⟨b, hb⟩ := Int.gcd_dvd_right R S
  constructor
  · rintro ⟨h1, h2⟩
    have e1 := Int.mul_ediv_cancel' (Int.gcd_dvd_right R S)
    have e2 := Int.mul_ediv_cancel' (Int.gcd_dvd_left R S)
    rw [h1] at e1
    rw [h2] at e2
    omega
  · rintro rfl
    rw [Int.gcd_self]
    have : ((S.natAbs : Nat) : Int) = S := by omega
    rw [this]
    exact ⟨Int.ediv_self (by omega), Int.ediv_self (by omega)⟩
/-- all exact clocks of the steps -/
def xwL (ss : List Int) : List (List (Int × Int)) := wsF (rsS ss) 11 [] ss
def sp_exact_with : Spc := fun avs Kr Kx => match avs with
  | [.val (.tuple xs)] => ∃ ss, xs = ss.map .int ∧ SG ss ∧ (sumS (rsS ss) (st0 ss) = rsS ss → (xwL ss = [] → Kr [] (.val .none)) ∧ (xwL ss ≠ [] → Kr [] (.val (tcl (hdC (xwL ss)))))) ∧ (sumS (rsS ss) (st0 ss) ≠ rsS ss → Kr [] (.val .none))
  | _ => False
def w_exact_with_C1 : WE :=
  wLc [2] (wISeq (wVar 0)) (gN 2) wYes (wTup (wFCons (wVar 2) (wFCons (wC (.int 0)) wFNil)))
/-- exact_with: 0 steps, 1 found, 2 step -/
def w_exact_with : WS :=
  (wSeq (wIfS (wTB (wBin oNe (wCall 1 sp_shares_of (wMCons w_exact_with_C1 wMNil)) (wTup (wFCons (wC (.int 1)) (wFCons (wC (.int 1)) wFNil))))) (wRet (wC .none)) wNext)
    (wSeq (wSet 1 (wCall 2 (sp_with_steps 11) (wMCons (wLst wFNil) (wMCons (wCallB oList (wACons (wVar 0) wANil)) wMNil))))
    (wSeq (wIfS (wTB (wBin oEq (wVar 1) (wLst wFNil))) (wRet (wC .none)) wNext)
    (wRet (wCallB oMinL (wACons (wVar 1) wANil))))))

theorem vc_exact_with : ∀ avs Kr Kx, avs.length = 1 → sp_exact_with avs Kr Kx → lsFrom 0 avs = [] ∧ w_exact_with (startEv 3 avs) (kenD [] Kr Kx) := by
  intro avs Kr Kx hl h
  unfold sp_exact_with at h
  split at h
  · rename_i xs
    obtain ⟨ss, rfl, hs, q1, q2⟩ := h
    refine ⟨rfl, ?_⟩
    unfold w_exact_with
    refine seq_cut fun R hR => ?_
    dsimp? [w_exact_with_C1, wLc]
    refine lc_map PyData.int (fun s => ck (s, 0)) ss (fun s hsm A hA => ?_) (small100000 (by have := hs.len; omega)) ?_
    · dsimp? []
      exact ⟨by decide, hA⟩
    have est : ss.map (fun s => ck (s, 0)) = cks (st0 ss) := by unfold st0 cks; rw [List.map_map]; rfl
    have gc := hs.gc
    rw [est]
    dsimp? [sp_shares_of]
    refine gc.rok ⟨by have := gc.len; omega, ?_⟩
    have sn : 0 ≤ sumS (rsS ss) (st0 ss) := by
      have h1 : ∀ x ∈ (st0 ss).map fun c => rnd 1 (st0 ss) / c.1, 0 ≤ x := fun x hx => by
        obtain ⟨c, hc, rfl⟩ := List.mem_map.mp hx
        exact Int.ediv_nonneg (by have := gc.rp; omega) (by have := gc.one c hc; omega)
      have gen : ∀ l : List Int, (∀ x ∈ l, 0 ≤ x) → 0 ≤ l.sum := by
        intro l
        induction l with
        | nil => intro _; exact Int.le_refl _
        | cons x l ih =>
          intro h
          have := h x List.mem_cons_self
          have := ih fun y hy => h y (List.mem_cons_of_mem _ hy)
          rw [List.sum_cons]
          omega
      exact gen _ h1
    have oo := one_one (R := rsS ss) (S := sumS (rsS ss) (st0 ss)) gc.rp sn
    have et : sumS (rnd 1 (st0 ss)) (st0 ss) / topG (st0 ss) = sumS (rsS ss) (st0 ss) / (Int.gcd (rsS ss) (sumS (rsS ss) (st0 ss)) : Nat) := rfl
    have eb : rnd 1 (st0 ss) / topG (st0 ss) = rsS ss / (Int.gcd (rsS ss) (sumS (rsS ss) (st0 ss)) : Nat) := rfl
    rw [et, eb]
    refine ⟨by decide, sh_pr _ _, sh_pr 1 1, ?_⟩
    have ec : PyData.eqv (.tuple [.int (sumS (rsS ss) (st0 ss) / (Int.gcd (rsS ss) (sumS (rsS ss) (st0 ss)) : Nat)), .int (rsS ss / (Int.gcd (rsS ss) (sumS (rsS ss) (st0 ss)) : Nat))]) (.tuple [.int 1, .int 1]) = decide (sumS (rsS ss) (st0 ss) = rsS ss) := by
      have := eqv_ck (sumS (rsS ss) (st0 ss) / (Int.gcd (rsS ss) (sumS (rsS ss) (st0 ss)) : Nat), rsS ss / (Int.gcd (rsS ss) (sumS (rsS ss) (st0 ss)) : Nat)) (1, 1)
      refine this.trans (decide_eq_decide.mpr ?_)
      rw [Prod.mk.injEq]
      exact oo
    by_cases hsum : sumS (rsS ss) (st0 ss) = rsS ss
    · rw [decide_eq_true hsum] at ec
      rw [if_neg (by rw [ec]; decide)]
      obtain ⟨q1, q3⟩ := q1 hsum
      refine hR _ ?_
      refine seq_cut fun R hR => ?_
      dsimp? [sp_with_steps, spA_with_steps]
      refine ⟨by decide, rsS ss, [], rfl, ss, rfl, hs.gs hsum, by have := hs.len; rw [List.length_nil]; omega, hs.len, by decide, ?_⟩
      have hx : wsF (rsS ss) (10 + 1) [] ss = xwL ss := rfl
      rw [hx]
      refine hR _ ?_
      refine seq_cut fun R hR => ?_
      dsimp? []
      refine ⟨by decide, shl_tcl _, sh_lin [], ?_⟩
      rw [eqv_lnil]
      by_cases hz : xwL ss = []
      · rw [if_pos (by rw [hz]; rfl)]
        exact q1 hz
      · rw [if_neg (fun z => hz (List.map_eq_nil_iff.mp (List.isEmpty_iff.mp z)))]
        refine hR _ ?_
        generalize xwL ss = L at *
        dsimp? []
        refine oMin_tcl hz ?_
        dsimp? []
        exact q3 hz
    · rw [decide_eq_false hsum] at ec
      rw [if_pos (by rw [ec]; decide)]
      exact q2 hsum
  · exact h.elim
end Dl
end L2

/-! The plain half, 64: the counts by steps; the law's own ways. -/
namespace L2
namespace Dl
open PySem PySem.Spec PyProof.Rows
local macro_rules | `(tactic| dsimp? [$xs,*] $[$l]?) => `(tactic| simp only [wSeq, wNext, wBreak, wCont, wDrop, wRet, wRetN, wIfS, wSet, wAsgT, e_aug, e_setIx, e_par, e_gN, getS_0, getS_s, setS_0, setS_s, e_var, varK_v, varK_o, varK_u, wC, wBin, rdK_v, rdK_t, rdK_s, rdS_v, rdS_o, rdS_u, fzK_v, fzK_t, fzK_s, fzS_v, fzS_o, fzS_l, fzS_u, e_fz, asg_v, asg_t, asg_s, e_tb, tbK_b, wAnd, wOr, wNot, e_notV, e_andV, e_orV, wBV, wIf, e_neg, intK_i, e_oso, wONo, e_rng1, e_rng2, wFNil, wFCons, wANil, wACons, wTup, wLst, e_callB, rdAllK_n, rdAllK_c, wIsi, e_call, wMNil, wMCons, e_ld, lnsOf, avsK_n, avsK_f, avsK_l, lnS_o, lnS_v, lnS_u, poK_n, poK_c, poS_o, inS_0, inS_s, rsK_v, rsK_o, wSl, e_ownF, e_own0, ownB_o, oS_o, oS_v, oS_u, agS_i, muApp, oAdd_i, oAdd_l, oAdd_t, oAdd_s, oSub_i, oMul_i, oFdiv_i, oMod_i, oPow_i, oShl_i, oShr_i, oOr_i, oAndB_i, oLt_i, oLe_i, oGt_i, oGe_i, oEq_i, oNe_i, oEq, oNe, oIx_l, oIx_t, oLen_l, oLen_t, oInt_i, oInt_b, oMax_i, oMin_i, oList_l, oList_t, oTuple_l, oTuple_t, oSorted_l, oSorted_t, oIs_n, oIsN_n, oIs_b, oIsN_b, isNone_n, isNone_t, isNone_l, isNone_i, isNone_s, isNone_b, oSl_l, oSl_t, oIn, gT_t, gC_c, gNil', e_iseq, sqK_l, sqK_t, e_isq, sq2K_l, sq2K_t, e_sset, ssK_l, ssK_t, e_chain, e_lr1, e_lr2, wRev, rvD_l, rvD_t, e_in1, e_in2, negB_f, negB_t, wIZip, zpK_l, zpK_t, zpK_m, e_extend, extR_t, wYes, startEv, kenD_nx, kenD_rt, kenD_bk, kenD_ct, kenD_ex, outK_n, outK_c, otS_o, rvK_v, rvK_t, rvK_s, rvS_v, rvS_o, slOf, lsFrom, wipeE, restE, List.map_cons, List.map_nil, List.length_cons, List.length_nil, List.replicate, List.append_nil, List.cons_append, List.nil_append, List.getElem?_cons_zero, List.getElem?_cons_succ, List.getElem?_nil, List.set_cons_zero, List.set_cons_succ, List.set_nil, Option.getD_some, Option.getD_none, Option.map_some, Option.map_none, Option.some.injEq, Rs.val.injEq, Rs.tmp.injEq, Rs.slot.injEq, Sl.own.injEq, Sl.val.injEq, PyData.int.injEq, PyData.bool.injEq, PyData.str.injEq, PyData.list.injEq, PyData.tuple.injEq, Prod.mk.injEq, Nat.sub_self, Nat.zero_add, Nat.reduceAdd, Nat.reduceSub, Nat.add_zero, isTy_int_int, isTy_bool_int, isTy_int_bool, isTy_bool_bool, isTy_int_tup, isTy_int_lst, isTy_int_non, isTy_int_str, isTy_tup_tup, isTy_tup_lst, isTy_tup_int, isTy_tup_bool, isTy_tup_non, isTy_tup_str, isTy_lst_lst, isTy_lst_tup, isTy_lst_int, exists_eq_left', exists_eq_left, exists_and_left, exists_eq_right, exists_eq, exists_eq', exists_const, true_and, and_true, and_self, Bool.not_true, Bool.not_false, if_true, if_false, Bool.false_eq_true, reduceIte, reduceCtorEq, List.nodup_nil, decide_eq_true_eq, atI_0, atI_1, atI_2, atI_3, atI_4, atI_5, atI_6, atI_7, atI_8, atI_9, atI_10, atI_11, ixN_3_0, ixN_3_1, ixN_3_2, sh_int, sh_bool, sh_non, and_assoc, nd1, nd_true, eq_self, decide_true, decide_false, Int.cast_ofNat_Int, not_true_eq_false, not_false_eq_true, eqv_ii, eqv_bb, wRaise0, e_raiseG, grK_i, e_raise1, onK_i, e_callX, xa_1, xa_2, xa_3, xa_4, xa_5, xa_6, xa_7, e_many, e_most, e_number, e_row, isLst_l, lsK_l, e_rd, e_br, brS_o, brS_v, arS_o, arS_v, avbK_n, avbK_f, avbK_l, scK_b, scK_i, scK_n, scK_s, e_callS, tmK_t, e_rep, enK_l, e_ienum, wTry, eqv_ss, tpK_v, txK_1, tutK_t, e_repT, e_callT, enTK_t, e_ienumT, r3K_i, e_rng3, e_newD, e_putD, e_lenD, e_listD, dcS_d, dcB_d, pvK_b, pvK_i, tkK_m, tkK_2, e_ssetI, oMinL_c, e_lset, e_lstZ, zlK_c, e_ins, e_callF, $xs,*] $[$l]?)
/-- counted by steps -/
def intO : PyData → Int
  | .int j => j
  | _ => 0
def isIn (d : PyData) : Prop := ∃ j : Int, d = .int j
def cdS (kvs : List (List Int × PyData)) (m : List (Int × Int)) : List (List Int × PyData) := putD kvs (m.map (·.1)) (.int (intO ((lkD kvs (m.map (·.1))).getD (.int 0)) + 1))
def cdF (L : List (List (Int × Int))) : List (List Int × PyData) := L.foldl cdS []
theorem putD_in {kvs : List (List Int × PyData)} {k : List Int} {j : Int} (h : ∀ p ∈ kvs, isIn p.2) : ∀ p ∈ putD kvs k (.int j), isIn p.2 := fun p hp => by
  unfold putD at hp
  split at hp
  · obtain ⟨r, hr, rfl⟩ := List.mem_map.mp hp
    split
    · exact ⟨j, rfl⟩
    · exact h r hr
  · rcases List.mem_append.mp hp with hp | hp
    · exact h p hp
    · rw [List.mem_singleton.mp hp]
      exact ⟨j, rfl⟩
theorem putD_ln (kvs : List (List Int × PyData)) (k : List Int) (d : PyData) : (putD kvs k d).length ≤ kvs.length + 1 := by
  unfold putD
  split
  · rw [List.length_map]; omega
  · rw [List.length_append, List.length_singleton]; omega
theorem cd_in (L : List (List (Int × Int))) : (∀ p ∈ cdF L, isIn p.2) ∧ (cdF L).length ≤ L.length := by
  have gen : ∀ (L : List (List (Int × Int))) (kvs : List (List Int × PyData)), (∀ p ∈ kvs, isIn p.2) → (∀ p ∈ L.foldl cdS kvs, isIn p.2) ∧ (L.foldl cdS kvs).length ≤ kvs.length + L.length := by
    intro L
    induction L with
    | nil => intro kvs h; exact ⟨h, Nat.le_refl _⟩
    | cons m L ih =>
      intro kvs h
      obtain ⟨h1, h2⟩ := ih (cdS kvs m) (putD_in h)
      refine ⟨h1, ?_⟩
      have := putD_ln kvs (m.map (·.1)) (.int (intO ((lkD kvs (m.map (·.1))).getD (.int 0)) + 1))
      rw [List.foldl_cons, List.length_cons]
      have e : (cdS kvs m).length = (putD kvs (m.map (·.1)) (.int (intO ((lkD kvs (m.map (·.1))).getD (.int 0)) + 1))).length := rfl
      omega
  have := gen L [] (fun p h => (by cases h))
  rw [List.length_nil, Nat.zero_add] at this
  exact this
theorem lk_in {kvs : List (List Int × PyData)} (h : ∀ p ∈ kvs, isIn p.2) (k : List Int) : (lkD kvs k).getD (.int 0) = .int (intO ((lkD kvs k).getD (.int 0))) := by
  unfold lkD
  cases e : kvs.find? fun p => decide (p.1 = k) with
  | none => rfl
  | some p =>
    obtain ⟨j, hj⟩ := h p (List.mem_of_find?_eq_some e)
    show p.2 = .int (intO p.2)
    rw [hj]
    rfl
theorem cd_app (pre : List (List (Int × Int))) (m : List (Int × Int)) : cdF (pre ++ [m]) = cdS (cdF pre) m := by
  unfold cdF
  rw [List.foldl_append]
  rfl
theorem putD_nd {kvs : List (List Int × PyData)} {k : List Int} {d : PyData} (h : (kvs.map (·.1)).Nodup) : ((putD kvs k d).map (·.1)).Nodup := by
  unfold putD
  split
  · rw [List.map_map]
    have e : (kvs.map ((fun p : List Int × PyData => p.1) ∘ fun p => if p.1 = k then (p.1, d) else p)) = kvs.map (·.1) := List.map_congr_left fun p _ => by
      show (if p.1 = k then (p.1, d) else p).1 = p.1
      split <;> rfl
    rw [e]
    exact h
  · rename_i hn
    rw [List.map_append, List.nodup_append]
    refine ⟨h, by simp, fun x hx y hy e => hn ?_⟩
    obtain ⟨p, hp, rfl⟩ := List.mem_map.mp hx
    rw [List.mem_singleton.mp hy] at e
    exact List.any_eq_true.mpr ⟨p, hp, decide_eq_true e⟩
theorem cd_nd (L : List (List (Int × Int))) : ((cdF L).map (·.1)).Nodup := by
  have gen : ∀ (L : List (List (Int × Int))) (kvs : List (List Int × PyData)), (kvs.map (·.1)).Nodup → ((L.foldl cdS kvs).map (·.1)).Nodup := by
    intro L
    induction L with
    | nil => intro kvs h; exact h
    | cons m L ih => intro kvs h; exact ih _ (putD_nd h)
  exact gen L [] List.nodup_nil
theorem lk_mem : ∀ {kvs : List (List Int × PyData)} {p : List Int × PyData}, (kvs.map (·.1)).Nodup → p ∈ kvs → lkD kvs p.1 = some p.2
  | [], _, _, h => by cases h
  | r :: kvs, p, nd, h => by
    rw [List.map_cons, List.nodup_cons] at nd
    unfold lkD
    by_cases e : r.1 = p.1
    · rw [List.find?_cons_of_pos (by rw [decide_eq_true e])]
      rcases List.mem_cons.mp h with rfl | h
      · rfl
      · exact (nd.1 (by rw [e]; exact List.mem_map.mpr ⟨p, h, rfl⟩)).elim
    · rw [List.find?_cons_of_neg (by rw [decide_eq_false e]; decide)]
      have hp : p ∈ kvs := (List.mem_cons.mp h).resolve_left fun z => e (by rw [z])
      exact lk_mem nd.2 hp
theorem sh_its {kvs : List (List Int × PyData)} (h : ∀ p ∈ kvs, isIn p.2) : ∀ d ∈ kvs.map fun p => PyData.tuple [.tuple (p.1.map .int), p.2], ShN 2 d := fun d hd => by
  obtain ⟨p, hp, rfl⟩ := List.mem_map.mp hd
  obtain ⟨j, hj⟩ := h p hp
  refine ShN.tup (n := 1) fun x hx => ?_
  rcases List.mem_cons.mp hx with rfl | hx
  · exact ShN.tup (ShN.ints _)
  · rw [List.mem_singleton.mp hx, hj]
    exact (ShN.int j).mono (by decide)
theorem srt_its {kvs : List (List Int × PyData)} (h : ∀ p ∈ kvs, isIn p.2) : Srts (kvs.map fun p => PyData.tuple [.tuple (p.1.map .int), p.2]) := by
  refine ⟨fun d hd e he => ?_, .inl fun d hd => ?_, fun d hd => (sh_its h d hd).sh (by decide)⟩
  · obtain ⟨p, hp, rfl⟩ := List.mem_map.mp hd
    obtain ⟨r, hr, rfl⟩ := List.mem_map.mp he
    obtain ⟨j, hj⟩ := h p hp
    obtain ⟨k, hk⟩ := h r hr
    rw [hj, hk]
    have := alike_ints p.1 r.1
    simp [PySem.W.alike, PySem.W.alikeAll, this]
  · obtain ⟨p, _, rfl⟩ := List.mem_map.mp hd
    exact ⟨_, _, rfl⟩
def sp_exact_steps : Spc := fun avs Kr Kx => match avs with
  | [.val (.int n)] => ∃ N : Nat, n = (N : Int) ∧ 1 ≤ N ∧ N ≤ 16 ∧ Kr [] (.own (((cdF (exF (N : Int))).map fun p => PyData.tuple [.tuple (p.1.map .int), p.2]).mergeSort dLe))
  | _ => False
def w_exact_steps_C1 : WE :=
  wLc [4, 5] (wISeq (wVar 2)) (gT 2 (gCons' (gN 4) (gCons' (gN 5) gNil'))) wYes (wVar 4)
def w_exact_steps_B1 : WS :=
  (wSeq (wSet 3 (wCallB oTuple (wACons w_exact_steps_C1 wANil)))
    (wPutD 1 (wVar 3) (wBin oAdd ((wGetD 1 (wVar 3) (wC (.int 0)))) (wC (.int 1)))))
def w_exact_steps_L1 : WS :=
  wFor (wISeq (wCall 1 sp_every_exact (wMCons (wVar 0) wMNil))) (gN 2) w_exact_steps_B1
def w_exact_steps_R1 : WS :=
  (wRet (wCallB oSorted (wACons ((wItemsD 1)) wANil)))
/-- exact_steps: 0 n, 1 many, 2 clocks, 3 steps, 4 step, 5 rest -/
def w_exact_steps : WS :=
  (wSeq (wNewD 1)
    (wSeq w_exact_steps_L1
    w_exact_steps_R1))

theorem vc_exact_steps : ∀ avs Kr Kx, avs.length = 1 → sp_exact_steps avs Kr Kx → lsFrom 0 avs = [] ∧ w_exact_steps (startEv 6 avs) (kenD [] Kr Kx) := by
  intro avs Kr Kx hl h
  unfold sp_exact_steps at h
  split at h
  · rename_i n
    obtain ⟨N, rfl, h1, h2, q⟩ := h
    refine ⟨rfl, ?_⟩
    unfold w_exact_steps
    refine seq_cut fun R hR => ?_
    dsimp? []
    refine hR _ ?_
    refine seq_cut fun R hR => ?_
    dsimp? [w_exact_steps_L1, wFor, sp_every_exact]
    refine ⟨N, rfl, h1, h2, ?_⟩
    have xl := ex_len h2
    refine each_pre tcl (exF (N : Int)) (fun pre e => ∃ x2 x3, e = [.val (.int (N : Int)), .dct (cdF pre), x2, x3, .un, .un]) ?_ ?_ _ ⟨_, _, rfl⟩
    · rintro e ⟨x2, x3, rfl⟩
      refine hR _ ?_
      dsimp? [w_exact_steps_R1, wItemsD]
      obtain ⟨c1, c2⟩ := cd_in (exF (N : Int))
      exact ⟨cdF (exF (N : Int)), rfl, fun p hp => (by obtain ⟨j, hj⟩ := c1 p hp; rw [hj]; trivial), srt_its c1, q⟩
    · rintro pre m post he e R9 ⟨x2, x3, rfl⟩ ih
      obtain ⟨c1, c2⟩ := cd_in pre
      have pl : pre.length ≤ (exF (N : Int)).length := by rw [he, List.length_append]; omega
      dsimp? [tcl]
      unfold w_exact_steps_B1
      refine seq_cut fun R hR => ?_
      dsimp? [w_exact_steps_C1, wLc]
      refine lc_map ck (fun c => .int c.1) m (fun c hc A hA => ?_) (small100000 ?_) ?_
      · dsimp? [ck]
        exact hA
      · have := (ex_in (N := N) (cs := m) (by rw [he]; exact List.mem_append_right _ List.mem_cons_self)).1
        omega
      rw [show (m.map fun c => PyData.int c.1) = (m.map (·.1)).map PyData.int by rw [List.map_map]; rfl]
      dsimp? []
      refine hR _ ?_
      have li := lk_in c1 (m.map (·.1))
      dsimp? [wGetD]
      refine ⟨⟨_, rfl⟩, m.map (·.1), rfl, cdF pre, rfl, trivial, ?_⟩
      rw [li]
      refine ⟨trivial, ?_⟩
      dsimp? []
      refine ⟨by rw [sizeLine_eq]; omega, ih _ ⟨.val (.tuple (cks m)), .val (.tuple ((m.map (·.1)).map .int)), ?_⟩⟩
      rw [cd_app]
      rfl
  · exact h.elim
def sp__law_steps_right : Spc := fun avs Kr Kx => match avs with
  | [.val (.int n)] => ∃ N : Nat, n = (N : Int) ∧ 1 ≤ N ∧ N ≤ 16 ∧ Kr [] (.val (.bool true))
  | _ => False
def w__law_steps_right_C1 : WE :=
  wLc [6, 7] (wISeq (wVar 2)) (gT 2 (gCons' (gN 6) (gCons' (gN 7) gNil'))) wYes (wVar 6)
def w__law_steps_right_B1 : WS :=
  (wSeq (wSet 3 (wCallB oTuple (wACons w__law_steps_right_C1 wANil)))
    (wPutD 1 (wVar 3) (wBin oAdd ((wGetD 1 (wVar 3) (wC (.int 0)))) (wC (.int 1)))))
def w__law_steps_right_L1 : WS :=
  wFor (wISeq (wCall 1 sp_exact_of (wMCons (wVar 0) wMNil))) (gN 2) w__law_steps_right_B1
def w__law_steps_right_C2 : WE :=
  wLc [8] (wISeq (wVar 5)) (gN 8) wYes ((wAndV (wIsi "tuple" (wVar 8)) (wCall 1 sp__law_whole (wMCons (wBin oIx (wVar 8) (wC (.int 1))) wMNil))))
def w__law_steps_right_B2 : WS :=
  (wSeq (wSet 5 (wCall 1 sp_exact_steps (wMCons (wVar 0) wMNil)))
    (wSeq (wIfS (wOr (wNot (wTB (wIsi "list" (wVar 5)))) (wTB (wBin oNe (wVar 5) (wCallB oSorted (wACons ((wLcD 1 [3] (gN 3) (fun kvs => (wTup (wFCons (wVar 3) (wFCons ((wGetP kvs (wVar 3))) wFNil)))))) wANil))))) (wRet (wC (.bool false))) wNext)
    (wSeq (wIfS (wNot (wTB (wBw 5 (wCallB oAll (wACons w__law_steps_right_C2 wANil))))) (wRet (wC (.bool false))) wNext)
    (wDrop (wOwnF 5 (wC (.int 0)) muApp)))))
def w__law_steps_right_L2 : WS :=
  wFor (wIRng1 (wC (.int 2))) (gN 4) w__law_steps_right_B2
def w__law_steps_right_R1 : WS :=
  (wRet (wC (.bool true)))
def w__law_steps_right_R2 : WS :=
  (wSeq w__law_steps_right_L2
    w__law_steps_right_R1)
/-- _law_steps_right: 0 n, 1 due, 2 clocks, 3 steps, 4 turn, 5 found, 6 step, 7 rest, 8 one -/
def w__law_steps_right : WS :=
  (wSeq (wNewD 1)
    (wSeq w__law_steps_right_L1
    w__law_steps_right_R2))

theorem vc__law_steps_right : ∀ avs Kr Kx, avs.length = 1 → sp__law_steps_right avs Kr Kx → lsFrom 0 avs = [] ∧ w__law_steps_right (startEv 9 avs) (kenD [] Kr Kx) := by
  intro avs Kr Kx hl h
  unfold sp__law_steps_right at h
  split at h
  · rename_i n
    obtain ⟨N, rfl, h1, h2, q⟩ := h
    refine ⟨rfl, ?_⟩
    have xl := ex_len h2
    unfold w__law_steps_right
    refine seq_cut fun R hR => ?_
    dsimp? []
    refine hR _ ?_
    refine seq_cut fun R hR => ?_
    dsimp? [w__law_steps_right_L1, wFor, sp_exact_of]
    refine ⟨N, rfl, h1, h2, ?_⟩
    refine each_pre tcl (exF (N : Int)) (fun pre e => ∃ x2 x3, e = [.val (.int (N : Int)), .dct (cdF pre), x2, x3, .un, .un, .un, .un, .un]) ?_ ?_ _ ⟨_, _, rfl⟩
    · rintro e ⟨x2, x3, rfl⟩
      refine hR _ ?_
      unfold w__law_steps_right_R2
      refine seq_cut fun R hR => ?_
      obtain ⟨c1, c2⟩ := cd_in (exF (N : Int))
      have cn := cd_nd (exF (N : Int))
      generalize hD : cdF (exF (N : Int)) = D at *
      dsimp? [w__law_steps_right_L2, wFor]
      refine ⟨by decide, by decide, each_all (fun i : Nat => PyData.int (i : Int)) (List.range (Int.toNat 2)) (fun e => ∃ x3 x4 x5, e = [.val (.int (N : Int)), .dct D, x2, x3, x4, x5, .un, .un, .un]) ?_ ?_ _ ⟨_, _, _, rfl⟩⟩
      · rintro e ⟨x3, x4, x5, rfl⟩
        refine hR _ ?_
        dsimp? [w__law_steps_right_R1]
        exact q
      · rintro i hi e R9 ⟨x3, x4, x5, rfl⟩ ih
        dsimp? []
        unfold w__law_steps_right_B2
        refine seq_cut fun R hR => ?_
        dsimp? [sp_exact_steps]
        refine ⟨N, rfl, h1, h2, ?_⟩
        rw [hD]
        refine hR _ ?_
        refine seq_cut fun R hR => ?_
        dsimp? [isTy, tyN, wLcD]
        rw [if_neg (by decide)]
        refine ⟨D, rfl, ?_⟩
        unfold wLc wIKeys
        refine lc_map (fun p : List Int × PyData => PyData.tuple (p.1.map .int)) (fun p => .tuple [.tuple (p.1.map .int), p.2]) D (fun p hp A hA => ?_) (small100000 (by omega)) ?_
        · obtain ⟨j, hj⟩ := c1 p hp
          have lm := lk_mem cn hp
          dsimp? [wGetP]
          refine ⟨p.1, rfl, p.2, lm, by rw [hj]; trivial, by decide, hA⟩
        dsimp? []
        have ss := srt_its c1
        have sl := sh_its c1
        have hlen : (D.map fun p => PyData.tuple [.tuple (p.1.map .int), p.2]).length ≤ 100000 := by rw [List.length_map]; omega
        have wh : ∀ d ∈ D.map fun p => PyData.tuple [.tuple (p.1.map .int), p.2], ∃ ks : List Int, ∃ j : Int, d = .tuple [.tuple (ks.map .int), .int j] := fun d hd => by
          obtain ⟨p, hp, rfl⟩ := List.mem_map.mp hd
          obtain ⟨j, hj⟩ := c1 p hp
          exact ⟨_, j, by rw [hj]⟩
        generalize D.map (fun p => PyData.tuple [.tuple (p.1.map .int), p.2]) = its at *
        have slm : ∀ d ∈ its.mergeSort dLe, ShN 2 d := fun d hd => sl d ((List.mergeSort_perm its dLe).mem_iff.mp hd)
        have whm : ∀ d ∈ its.mergeSort dLe, ∃ ks : List Int, ∃ j : Int, d = .tuple [.tuple (ks.map .int), .int j] := fun d hd => wh d ((List.mergeSort_perm its dLe).mem_iff.mp hd)
        have hlm : (its.mergeSort dLe).length ≤ 100000 := by rw [List.length_mergeSort]; exact hlen
        have shm : SeqAt.shaped (.list (its.mergeSort dLe)) = true := (ShN.lst slm).sh (by decide)
        refine ⟨ss, shm, shm, ?_⟩
        have iom : io (.list (its.mergeSort dLe)) = true := io_all fun d hd => by
          obtain ⟨ks, j, rfl⟩ := whm d hd
          have hk : io (.tuple (ks.map .int)) = true := io_all fun x hx => by
            obtain ⟨z, _, rfl⟩ := List.mem_map.mp hx
            rfl
          refine io_all fun x hx => ?_
          rcases List.mem_cons.mp hx with rfl | hx
          · exact hk
          · rw [List.mem_singleton.mp hx]
            rfl
        rw [if_neg (by rw [(eqv_io _ _ iom iom).mpr rfl]; decide)]
        generalize its.mergeSort dLe = F at *
        refine hR _ ?_
        refine seq_cut fun R hR => ?_
        dsimp? []
        unfold wBw
        refine ⟨_, rfl, ?_⟩
        simp only [hidE, hidS, List.map_cons, List.map_nil, List.set_cons_succ, List.set_cons_zero]
        dsimp? [w__law_steps_right_C2, wLc]
        have eid : F = F.map fun d => d := (List.map_id' F).symm
        rw [eid]
        refine lc_map (fun d : PyData => d) (fun _ => .bool true) F (fun d hd A hA => ?_) (small100000 hlm) ?_
        · obtain ⟨ks, j, rfl⟩ := whm d hd
          dsimp? [isTy, tyN, sp__law_whole]
          exact hA
        dsimp? [oAll]
        refine ⟨F.map fun _ => true, by rw [List.map_map]; rfl, rfl, ?_⟩
        rw [show (F.map fun _ => true).all id = true from List.all_eq_true.mpr fun b hb => by
          obtain ⟨_, _, rfl⟩ := List.mem_map.mp hb
          rfl, if_neg (by decide)]
        refine hR _ ?_
        dsimp? []
        exact ⟨by rw [List.length_map, sizeLine_eq]; omega, ih _ ⟨_, _, _, rfl⟩⟩
    · rintro pre m post he e R9 ⟨x2, x3, rfl⟩ ih
      obtain ⟨c1, c2⟩ := cd_in pre
      have pl : pre.length ≤ (exF (N : Int)).length := by rw [he, List.length_append]; omega
      dsimp? [tcl]
      unfold w__law_steps_right_B1
      refine seq_cut fun R hR => ?_
      dsimp? [w__law_steps_right_C1, wLc]
      refine lc_map ck (fun c => .int c.1) m (fun c hc A hA => ?_) (small100000 ?_) ?_
      · dsimp? [ck]
        exact hA
      · have := (ex_in (N := N) (cs := m) (by rw [he]; exact List.mem_append_right _ List.mem_cons_self)).1
        omega
      rw [show (m.map fun c => PyData.int c.1) = (m.map (·.1)).map PyData.int by rw [List.map_map]; rfl]
      dsimp? []
      refine hR _ ?_
      have li := lk_in c1 (m.map (·.1))
      dsimp? [wGetD]
      refine ⟨⟨_, rfl⟩, m.map (·.1), rfl, cdF pre, rfl, trivial, ?_⟩
      rw [li]
      refine ⟨trivial, ?_⟩
      dsimp? []
      refine ⟨by rw [sizeLine_eq]; omega, ih _ ⟨.val (.tuple (cks m)), .val (.tuple ((m.map (·.1)).map .int)), ?_⟩⟩
      rw [cd_app]
      rfl
  · exact h.elim
end Dl
end L2

/-! The plain half, 65: the law's look at exact clocks. -/
namespace L2
namespace Dl
open PySem PySem.Spec PyProof.Rows
local macro_rules | `(tactic| dsimp? [$xs,*] $[$l]?) => `(tactic| simp only [wSeq, wNext, wBreak, wCont, wDrop, wRet, wRetN, wIfS, wSet, wAsgT, e_aug, e_setIx, e_par, e_gN, getS_0, getS_s, setS_0, setS_s, e_var, varK_v, varK_o, varK_u, wC, wBin, rdK_v, rdK_t, rdK_s, rdS_v, rdS_o, rdS_u, fzK_v, fzK_t, fzK_s, fzS_v, fzS_o, fzS_l, fzS_u, e_fz, asg_v, asg_t, asg_s, e_tb, tbK_b, wAnd, wOr, wNot, e_notV, e_andV, e_orV, wBV, wIf, e_neg, intK_i, e_oso, wONo, e_rng1, e_rng2, wFNil, wFCons, wANil, wACons, wTup, wLst, e_callB, rdAllK_n, rdAllK_c, wIsi, e_call, wMNil, wMCons, e_ld, lnsOf, avsK_n, avsK_f, avsK_l, lnS_o, lnS_v, lnS_u, poK_n, poK_c, poS_o, inS_0, inS_s, rsK_v, rsK_o, wSl, e_ownF, e_own0, ownB_o, oS_o, oS_v, oS_u, agS_i, muApp, oAdd_i, oAdd_l, oAdd_t, oAdd_s, oSub_i, oMul_i, oFdiv_i, oMod_i, oPow_i, oShl_i, oShr_i, oOr_i, oAndB_i, oLt_i, oLe_i, oGt_i, oGe_i, oEq_i, oNe_i, oEq, oNe, oIx_l, oIx_t, oLen_l, oLen_t, oInt_i, oInt_b, oMax_i, oMin_i, oList_l, oList_t, oTuple_l, oTuple_t, oSorted_l, oSorted_t, oIs_n, oIsN_n, oIs_b, oIsN_b, isNone_n, isNone_t, isNone_l, isNone_i, isNone_s, isNone_b, oSl_l, oSl_t, oIn, gT_t, gC_c, gNil', e_iseq, sqK_l, sqK_t, e_isq, sq2K_l, sq2K_t, e_sset, ssK_l, ssK_t, e_chain, e_lr1, e_lr2, wRev, rvD_l, rvD_t, e_in1, e_in2, negB_f, negB_t, wIZip, zpK_l, zpK_t, zpK_m, e_extend, extR_t, wYes, startEv, kenD_nx, kenD_rt, kenD_bk, kenD_ct, kenD_ex, outK_n, outK_c, otS_o, rvK_v, rvK_t, rvK_s, rvS_v, rvS_o, slOf, lsFrom, wipeE, restE, List.map_cons, List.map_nil, List.length_cons, List.length_nil, List.replicate, List.append_nil, List.cons_append, List.nil_append, List.getElem?_cons_zero, List.getElem?_cons_succ, List.getElem?_nil, List.set_cons_zero, List.set_cons_succ, List.set_nil, Option.getD_some, Option.getD_none, Option.map_some, Option.map_none, Option.some.injEq, Rs.val.injEq, Rs.tmp.injEq, Rs.slot.injEq, Sl.own.injEq, Sl.val.injEq, PyData.int.injEq, PyData.bool.injEq, PyData.str.injEq, PyData.list.injEq, PyData.tuple.injEq, Prod.mk.injEq, Nat.sub_self, Nat.zero_add, Nat.reduceAdd, Nat.reduceSub, Nat.add_zero, isTy_int_int, isTy_bool_int, isTy_int_bool, isTy_bool_bool, isTy_int_tup, isTy_int_lst, isTy_int_non, isTy_int_str, isTy_tup_tup, isTy_tup_lst, isTy_tup_int, isTy_tup_bool, isTy_tup_non, isTy_tup_str, isTy_lst_lst, isTy_lst_tup, isTy_lst_int, exists_eq_left', exists_eq_left, exists_and_left, exists_eq_right, exists_eq, exists_eq', exists_const, true_and, and_true, and_self, Bool.not_true, Bool.not_false, if_true, if_false, Bool.false_eq_true, reduceIte, reduceCtorEq, List.nodup_nil, decide_eq_true_eq, atI_0, atI_1, atI_2, atI_3, atI_4, atI_5, atI_6, atI_7, atI_8, atI_9, atI_10, atI_11, ixN_3_0, ixN_3_1, ixN_3_2, sh_int, sh_bool, sh_non, and_assoc, nd1, nd_true, eq_self, decide_true, decide_false, Int.cast_ofNat_Int, not_true_eq_false, not_false_eq_true, eqv_ii, eqv_bb, wRaise0, e_raiseG, grK_i, e_raise1, onK_i, e_callX, xa_1, xa_2, xa_3, xa_4, xa_5, xa_6, xa_7, e_many, e_most, e_number, e_row, isLst_l, lsK_l, e_rd, e_br, brS_o, brS_v, arS_o, arS_v, avbK_n, avbK_f, avbK_l, scK_b, scK_i, scK_n, scK_s, e_callS, tmK_t, e_rep, enK_l, e_ienum, wTry, eqv_ss, tpK_v, txK_1, tutK_t, e_repT, e_callT, enTK_t, e_ienumT, r3K_i, e_rng3, e_newD, e_putD, e_lenD, e_listD, dcS_d, dcB_d, pvK_b, pvK_i, tkK_m, tkK_2, e_ssetI, oMinL_c, e_lset, e_lstZ, zlK_c, e_ins, e_callF, $xs,*] $[$l]?)
/-- exact clocks -/
structure XC63 (cs : List (Int × Int)) : Prop where
  gc : GC cs
  ap : cs.Pairwise Apart
  sm : sumS (rnd 1 cs) cs = rnd 1 cs
def sp__law_exact : Spc := fun avs Kr Kx => match avs with
  | [.val (.tuple ds)] => ∃ cs, ds = cks cs ∧ XC63 cs ∧ Kr [] (.val (.bool true))
  | _ => False
def w__law_exact_C1 : WE :=
  wLc [5, 6] (wISeq (wVar 0)) (gT 2 (gCons' (gN 5) (gCons' (gN 6) gNil'))) wYes (wBin oFdiv (wVar 1) (wVar 5))
def w__law_exact_B1 : WS :=
  (wSeq (wSet 4 (wCall 2 sp__law_common (wMCons (wBin oIx (wBin oIx (wVar 0) (wVar 2)) (wC (.int 0))) (wMCons (wBin oIx (wBin oIx (wVar 0) (wVar 3)) (wC (.int 0))) wMNil))))
    (wIfS (wTB (wBin oEq (wBin oMod (wBin oSub (wBin oIx (wBin oIx (wVar 0) (wVar 2)) (wC (.int 1))) (wBin oIx (wBin oIx (wVar 0) (wVar 3)) (wC (.int 1)))) (wVar 4)) (wC (.int 0)))) (wRet (wC (.bool false))) wNext))
def w__law_exact_L1 : WS :=
  wFor (wIRng1 (wVar 2)) (gN 3) w__law_exact_B1
def w__law_exact_B2 : WS :=
  w__law_exact_L1
def w__law_exact_L2 : WS :=
  wFor (wIRng1 (wCallB oLen (wACons (wVar 0) wANil))) (gN 2) w__law_exact_B2
def w__law_exact_R1 : WS :=
  (wRet (wC (.bool true)))
/-- _law_exact: 0 clocks, 1 size, 2 place, 3 other, 4 share, 5 step, 6 rest -/
def w__law_exact : WS :=
  (wSeq (wSet 1 (wCall 1 sp__law_round_k03 (wMCons (wVar 0) wMNil)))
    (wSeq (wIfS (wTB (wBin oNe (wCallB oSum (wACons w__law_exact_C1 wANil)) (wVar 1))) (wRet (wC (.bool false))) wNext)
    (wSeq w__law_exact_L2
    w__law_exact_R1)))

theorem vc__law_exact : ∀ avs Kr Kx, avs.length = 1 → sp__law_exact avs Kr Kx → lsFrom 0 avs = [] ∧ w__law_exact (startEv 7 avs) (kenD [] Kr Kx) := by
  intro avs Kr Kx hl h
  unfold sp__law_exact at h
  split at h
  · rename_i ds
    obtain ⟨cs, rfl, hx, q⟩ := h
    refine ⟨rfl, ?_⟩
    have gc := hx.gc
    have l100 := gc.len
    unfold w__law_exact
    refine seq_cut fun R hR => ?_
    dsimp? [sp__law_round_k03]
    refine gc.rok (hR _ ?_)
    refine seq_cut fun R hR => ?_
    dsimp? [w__law_exact_C1, wLc]
    refine lc_map ck (fun c => .int (rnd 1 cs / c.1)) cs (fun c hc A hA => ?_) (small100000 (by omega)) ?_
    · have := gc.one c hc
      dsimp? [ck]
      exact ⟨by omega, log_small (by omega) (by have := (gc.ok c hc).2.1; omega), hA⟩
    rw [show (cs.map fun c => PyData.int (rnd 1 cs / c.1)) = (cs.map fun c => rnd 1 cs / c.1).map PyData.int by rw [List.map_map]; rfl]
    dsimp? [oSum]
    have hsum : (cs.map fun c => rnd 1 cs / c.1).sum = rnd 1 cs := hx.sm
    refine ⟨cs.map fun c => rnd 1 cs / c.1, rfl, ?_⟩
    rw [if_neg (fun h => h hsum)]
    refine hR _ ?_
    refine seq_cut fun R hR => ?_
    dsimp? [w__law_exact_L2, wFor]
    rw [show (cks cs).length = cs.length from List.length_map _]
    refine ⟨by omega, by omega, ?_⟩
    refine each_rg (fun (i : Nat) => PyData.int (i : Int)) (fun _ e => ∃ x2 x3 x4, e = [.val (.tuple (cks cs)), .val (.int (rnd 1 cs)), x2, x3, x4, .un, .un]) ?_ ?_ _ ⟨_, _, _, rfl⟩
    · rintro e ⟨x2, x3, x4, rfl⟩
      refine hR _ ?_
      dsimp? [w__law_exact_R1]
      exact q
    · rintro i e R9 hi ⟨x2, x3, x4, rfl⟩ ih
      dsimp? [w__law_exact_B2, w__law_exact_L1, wFor]
      refine ⟨by omega, by omega, ?_⟩
      refine each_rg (fun (j : Nat) => PyData.int (j : Int)) (fun _ e => ∃ x3 x4, e = [.val (.tuple (cks cs)), .val (.int (rnd 1 cs)), .val (.int (i : Int)), x3, x4, .un, .un]) ?_ ?_ _ ⟨_, _, rfl⟩
      · rintro e ⟨x3, x4, rfl⟩
        exact ih _ ⟨_, _, _, rfl⟩
      · rintro j e R8 hj ⟨x3, x4, rfl⟩ ih2
        have hi' : i < cs.length := by simpa using hi
        have hj' : j < i := by simpa using hj
        have ei := atI_ck (List.getElem?_eq_getElem hi')
        have ej := atI_ck (List.getElem?_eq_getElem (show j < cs.length by omega))
        have ap := List.pairwise_iff_getElem.mp hx.ap j i (by omega) hi' hj'
        have oi := gc.ok _ (List.getElem_mem hi')
        have oj := gc.ok _ (List.getElem_mem (show j < cs.length by omega))
        generalize cs[i] = ci at *
        generalize cs[j] = cj at *
        unfold ck at ei ej
        unfold w__law_exact_B1
        refine seq_cut fun R hR => ?_
        dsimp? [ei, ej, sp__law_common]
        have g0 : 0 < Int.gcd ci.1 cj.1 := Int.gcd_pos_of_ne_zero_left _ (by have := oi.1; omega)
        have gl : ((Int.gcd ci.1 cj.1 : Nat) : Int) ≤ ci.1 := Int.gcd_le_left _ (by have := oi.1; omega)
        refine ⟨by have := oi.1; omega, by have := oj.1; omega, hR _ ?_⟩
        dsimp? [ei, ej]
        refine ⟨by omega, ?_⟩
        have np : ¬ (ci.2 - cj.2) % ((Int.gcd ci.1 cj.1 : Nat) : Int) = 0 := fun h => by
          have := (ap_iff oi.1 oj.1).mpr ap.symm
          unfold apB at this
          rw [Bool.not_eq_true', decide_eq_false_iff_not] at this
          exact this (Int.dvd_of_emod_eq_zero h)
        rw [if_neg np]
        exact ih2 _ ⟨_, _, rfl⟩
  · exact h.elim
/-- the law's own ways, rest by rest -/
def alG (cl : List (Int × Int)) (c : Int × Int) : Bool := (match cl.getLast? with
  | none => true
  | some d => cltB d c) && cl.all fun d => apB d c
def alF : List Int → List (Int × Int) → List (List (Int × Int))
  | [], cl => [cl]
  | s :: ls, cl => (List.range s.toNat).flatMap fun (r : Nat) => if alG cl (s, (r : Int)) = true then alF ls (cl ++ [(s, (r : Int))]) else []
theorem al_len : ∀ (ls : List Int) (cl : List (Int × Int)), (∀ s ∈ ls, 1 ≤ s ∧ s ≤ 12) → (alF ls cl).length ≤ 12 ^ ls.length
  | [], _, _ => Nat.le_refl _
  | s :: ls, cl, h => by
    show ((List.range s.toNat).flatMap _).length ≤ _
    have hs := h s List.mem_cons_self
    refine Nat.le_trans (flat_len _ (12 ^ ls.length) _ fun r _ => ?_) ?_
    · split
      · exact al_len ls _ fun t ht => h t (List.mem_cons_of_mem _ ht)
      · exact Nat.zero_le _
    · rw [List.length_range, List.length_cons, Nat.pow_succ, Nat.mul_comm (12 ^ ls.length)]
      exact Nat.mul_le_mul_right _ (by omega)
theorem alG_iff {cl : List (Int × Int)} {c : Int × Int} (h1 : ∀ d ∈ cl, CkOk 1000 d) (h2 : cl.Pairwise clt) (h3 : cl.Pairwise Apart) (hc : 1 ≤ c.1) : alG cl c = true ↔ (cl ++ [c]).Pairwise clt ∧ (cl ++ [c]).Pairwise Apart := by
  unfold alG
  rw [Bool.and_eq_true, List.all_eq_true, List.pairwise_append, List.pairwise_append]
  constructor
  · rintro ⟨a, b⟩
    refine ⟨⟨h2, List.pairwise_singleton _ _, fun d hd e he => ?_⟩, h3, List.pairwise_singleton _ _, fun d hd e he => ?_⟩
    · rw [List.mem_singleton.mp he]
      rcases List.eq_nil_or_concat cl with z | ⟨g, l, z⟩
      · rw [z] at hd; cases hd
      · rw [List.concat_eq_append] at z
        subst z
        rw [List.getLast?_concat] at a
        have a := cltB_iff.mp a
        rcases List.mem_append.mp hd with hd | hd
        · exact clt_tr ((List.pairwise_append.mp h2).2.2 d hd l List.mem_cons_self) a
        · rw [List.mem_singleton.mp hd]; exact a
    · rw [List.mem_singleton.mp he]
      exact (ap_iff (h1 d hd).1 hc).mp (b d hd)
  · rintro ⟨⟨_, _, a⟩, _, _, b⟩
    refine ⟨?_, fun d hd => (ap_iff (h1 d hd).1 hc).mpr (b d hd c List.mem_cons_self)⟩
    cases z : cl.getLast? with
    | none => rfl
    | some d => exact cltB_iff.mpr (a d (List.mem_of_getLast? z) c List.mem_cons_self)
/-- all exact ones that go on -/
theorem al_mem : ∀ (ls : List Int) (cl : List (Int × Int)), (∀ s ∈ ls, 1 ≤ s ∧ s ≤ 12) → (∀ d ∈ cl, CkOk 1000 d) → cl.Pairwise clt → cl.Pairwise Apart → ∀ m, m ∈ alF ls cl ↔ ∃ rest, m = cl ++ rest ∧ rest.map (·.1) = ls ∧ (∀ c ∈ rest, CkOk 1000 c) ∧ m.Pairwise clt ∧ m.Pairwise Apart
  | [], cl, _, h1, h2, h3, m => by
    show m ∈ [cl] ↔ _
    rw [List.mem_singleton]
    constructor
    · rintro rfl
      exact ⟨[], (List.append_nil _).symm, rfl, fun c hc => (by cases hc), h2, h3⟩
    · rintro ⟨rest, e, hr, _⟩
      rw [List.map_eq_nil_iff.mp hr, List.append_nil] at e
      exact e
  | s :: ls, cl, hs, h1, h2, h3, m => by
    have e : alF (s :: ls) cl = (List.range s.toNat).flatMap fun (r : Nat) => if alG cl (s, (r : Int)) = true then alF ls (cl ++ [(s, (r : Int))]) else [] := rfl
    obtain ⟨s1, s2⟩ := hs s List.mem_cons_self
    have hs2 : ∀ t ∈ ls, 1 ≤ t ∧ t ≤ 12 := fun t ht => hs t (List.mem_cons_of_mem _ ht)
    rw [e, List.mem_flatMap]
    constructor
    · rintro ⟨r, hr, hm⟩
      have hr := List.mem_range.mp hr
      split at hm
      · rename_i hg
        obtain ⟨g1, g2⟩ := (alG_iff h1 h2 h3 s1).mp hg
        have ck : CkOk 1000 (s, (r : Int)) := ⟨s1, by show s ≤ 1000; omega, by show (0 : Int) ≤ (r : Int); omega, by show (r : Int) < s; omega⟩
        have h1' : ∀ d ∈ cl ++ [(s, (r : Int))], CkOk 1000 d := fun d hd => by
          rcases List.mem_append.mp hd with hd | hd
          · exact h1 d hd
          · rw [List.mem_singleton.mp hd]; exact ck
        obtain ⟨rest, rfl, q2, q3, q4, q5⟩ := (al_mem ls _ hs2 h1' g1 g2 m).mp hm
        refine ⟨(s, (r : Int)) :: rest, by rw [List.append_assoc]; rfl, by rw [List.map_cons, q2], fun c hc => ?_, q4, q5⟩
        rcases List.mem_cons.mp hc with rfl | hc
        · exact ck
        · exact q3 c hc
      · cases hm
    · rintro ⟨rest, rfl, q2, q3, q4, q5⟩
      cases rest with
      | nil => cases q2
      | cons c rest =>
        obtain ⟨rfl, q2'⟩ := List.cons.inj q2
        obtain ⟨c1, c2, c3, c4⟩ := q3 c List.mem_cons_self
        have ea : cl ++ c :: rest = (cl ++ [c]) ++ rest := by rw [List.append_assoc]; rfl
        have ec : (c.1, ((c.2.toNat : Nat) : Int)) = c := Prod.ext rfl (by show ((c.2.toNat : Nat) : Int) = c.2; omega)
        rw [ea] at q4 q5 ⊢
        have g1 := (List.pairwise_append.mp q4).1
        have g2 := (List.pairwise_append.mp q5).1
        refine ⟨c.2.toNat, List.mem_range.mpr (by show c.2.toNat < c.1.toNat; omega), ?_⟩
        rw [ec, if_pos ((alG_iff h1 h2 h3 c1).mpr ⟨g1, g2⟩)]
        have h1' : ∀ d ∈ cl ++ [c], CkOk 1000 d := fun d hd => by
          rcases List.mem_append.mp hd with hd | hd
          · exact h1 d hd
          · rw [List.mem_singleton.mp hd]; exact ⟨c1, c2, c3, c4⟩
        exact (al_mem ls _ hs2 h1' g1 g2 _).mpr ⟨rest, rfl, q2', fun d hd => q3 d (List.mem_cons_of_mem _ hd), q4, q5⟩
def spA__law_all_with (n : Nat) : Spc := fun avs Kr Kx => match avs with
  | [.val (.tuple xs), .val (.tuple ds)] => ∃ (cl : List (Int × Int)) (done ls : List Int), ds = cks cl ∧ xs = (done ++ ls).map .int ∧ cl.length = done.length ∧ (∀ s ∈ ls, 1 ≤ s ∧ s ≤ 12) ∧ (∀ d ∈ cl, CkOk 1000 d) ∧ done.length + ls.length ≤ 5 ∧ ls.length ≤ n ∧ n ≤ 20 ∧ Kr [] (.own ((alF ls cl).map tcl))
  | _ => False
def sp__law_all_with : Nat → Spc
  | 0 => fun _ _ _ => False
  | n + 1 => spA__law_all_with n
def w__law_all_with_B1 (n : Nat) : WS :=
  (wIfS (wTB (wBin oEq (wBin oMod (wBin oSub (wVar 7) (wVar 4)) (wCall 2 sp__law_common (wMCons (wVar 6) (wMCons (wVar 2) wMNil)))) (wC (.int 0)))) (wSet 5 (wC (.bool false))) wNext)
def w__law_all_with_L1 (n : Nat) : WS :=
  wFor (wISeq (wVar 1)) (gT 2 (gCons' (gN 6) (gCons' (gN 7) gNil'))) (w__law_all_with_B1 n)
def w__law_all_with_R1 (n : Nat) : WS :=
  (wIfS (wTB (wVar 5)) (wSet 3 (wBin oAdd (wVar 3) (wCall 2 (sp__law_all_with n) (wMCons (wVar 0) (wMCons (wBin oAdd (wVar 1) (wTup (wFCons (wTup (wFCons (wVar 2) (wFCons (wVar 4) wFNil))) wFNil))) wMNil))))) wNext)
def w__law_all_with_B2 (n : Nat) : WS :=
  (wSeq (wSet 5 ((wOrV (wBin oEq (wVar 1) (wTup wFNil)) (wBin oGt (wTup (wFCons (wVar 2) (wFCons (wVar 4) wFNil))) (wBin oIx (wVar 1) (wNeg (wC (.int 1))))))))
    (wSeq (w__law_all_with_L1 n)
    (w__law_all_with_R1 n)))
def w__law_all_with_L2 (n : Nat) : WS :=
  wFor (wIRng1 (wVar 2)) (gN 4) (w__law_all_with_B2 n)
def w__law_all_with_R2 (n : Nat) : WS :=
  (wRet (wVar 3))
/-- _law_all_with: 0 steps, 1 clocks, 2 step, 3 found, 4 rest, 5 good, 6 own, 7 other -/
def w__law_all_with (n : Nat) : WS :=
  (wSeq (wIfS (wTB (wBin oEq (wCallB oLen (wACons (wVar 1) wANil)) (wCallB oLen (wACons (wVar 0) wANil)))) (wRet (wLst (wFCons (wVar 1) wFNil))) wNext)
    (wSeq (wSet 2 (wBin oIx (wVar 0) (wCallB oLen (wACons (wVar 1) wANil))))
    (wSeq (wSet 3 (wLst wFNil))
    (wSeq (w__law_all_with_L2 n)
    (w__law_all_with_R2 n)))))

theorem vc__law_all_with : ∀ n avs Kr Kx, avs.length = 2 → sp__law_all_with (n + 1) avs Kr Kx → lsFrom 0 avs = [] ∧ w__law_all_with n (startEv 8 avs) (kenD [] Kr Kx) := by
  intro n avs Kr Kx hl h
  replace h : spA__law_all_with n avs Kr Kx := h
  unfold spA__law_all_with at h
  split at h
  · rename_i xs ds
    obtain ⟨cl, dn, ls, rfl, rfl, hcl, hls, hok, h5, hn, n20, q⟩ := h
    refine ⟨rfl, ?_⟩
    unfold w__law_all_with
    refine seq_cut fun R hR => ?_
    dsimp? [List.length_append]
    rw [show (cks cl).length = cl.length from List.length_map _, List.length_map, List.length_append]
    cases ls with
    | nil =>
      rw [if_pos (by rw [hcl, List.length_nil, Nat.add_zero])]
      exact ⟨by decide, q⟩
    | cons s ls =>
      obtain ⟨n', rfl⟩ : ∃ n', n = n' + 1 := ⟨n - 1, by rw [List.length_cons] at hn; omega⟩
      rw [List.length_cons] at h5 hn
      obtain ⟨s1, s2⟩ := hls s List.mem_cons_self
      rw [if_neg (by rw [hcl, List.length_cons]; omega)]
      have wl := al_len (s :: ls) cl hls
      have wl := Nat.le_trans wl (Nat.pow_le_pow_right (show 0 < 12 by decide) (show (s :: ls).length ≤ 5 by rw [List.length_cons]; omega))
      have e5 : 12 ^ 5 = 248832 := by decide
      rw [e5] at wl
      have ef : alF (s :: ls) cl = (List.range s.toNat).flatMap fun (r : Nat) => if alG cl (s, (r : Int)) = true then alF ls (cl ++ [(s, (r : Int))]) else [] := rfl
      rw [ef] at q wl
      generalize hF : (fun (r : Nat) => if alG cl (s, (r : Int)) = true then alF ls (cl ++ [(s, (r : Int))]) else []) = fb at *
      refine hR _ ?_
      refine seq_cut fun R hR => ?_
      have es : atI ((dn ++ s :: ls).map PyData.int) (cl.length : Int) = some (.int s) := atI_nat (by rw [hcl, List.getElem?_map, List.getElem?_append_right (Nat.le_refl _), Nat.sub_self]; rfl)
      dsimp? [show (cks cl).length = cl.length from List.length_map _, es]
      refine hR _ ?_
      refine seq_cut fun R hR => ?_
      dsimp? []
      refine ⟨by decide, hR _ ?_⟩
      refine seq_cut fun R hR => ?_
      dsimp? [w__law_all_with_L2, wFor]
      refine ⟨by omega, by omega, ?_⟩
      refine each_pre (fun (r : Nat) => PyData.int (r : Int)) (List.range s.toNat) (fun pre e => ∃ x4 x5 x6 x7, e = [.val (.tuple ((dn ++ s :: ls).map .int)), .val (.tuple (cks cl)), .val (.int s), .own false ((pre.flatMap fb).map tcl), x4, x5, x6, x7]) ?_ ?_ _ ⟨_, _, _, _, rfl⟩
      · rintro e ⟨x4, x5, x6, x7, rfl⟩
        refine hR _ ?_
        dsimp? [w__law_all_with_R2]
        exact q
      · rintro pre r post he e R9 ⟨x4, x5, x6, x7, rfl⟩ ih
        have hr : r < s.toNat := List.mem_range.mp (by rw [he]; exact List.mem_append_right _ List.mem_cons_self)
        have efl : pre.flatMap fb ++ fb r = (pre ++ [r]).flatMap fb := by rw [List.flatMap_append, List.flatMap_cons, List.flatMap_nil, List.append_nil]
        have fl : (pre.flatMap fb).length + (fb r).length ≤ 248832 := by
          rw [he, List.flatMap_append, List.flatMap_cons, List.length_append, List.length_append] at wl
          omega
        have efs : fb r = if alG cl (s, (r : Int)) = true then alF ls (cl ++ [(s, (r : Int))]) else [] := by rw [← hF]
        dsimp? []
        unfold w__law_all_with_B2
        refine seq_cut fun R hR => ?_
        dsimp? []
        refine ⟨by decide, sh_tck cl, sh_tck [], ?_⟩
        rw [eqv_tnil]
        generalize hb0 : (match cl.getLast? with
          | none => true
          | some d => cltB d (s, (r : Int))) = b0
        have efg : fb r = if (b0 && cl.all fun d => apB d (s, (r : Int))) = true then alF ls (cl ++ [(s, (r : Int))]) else [] := by rw [efs, ← hb0]; rfl
        have fin : R [.val (.tuple ((dn ++ s :: ls).map .int)), .val (.tuple (cks cl)), .val (.int s), .own false ((pre.flatMap fb).map tcl), .val (.int (r : Int)), .val (.bool b0), x6, x7] := by
          refine hR _ ?_
          refine seq_cut fun R hR => ?_
          dsimp? [w__law_all_with_L1, wFor]
          refine each_pre ck cl (fun pr e => ∃ x6 x7, e = [.val (.tuple ((dn ++ s :: ls).map .int)), .val (.tuple (cks cl)), .val (.int s), .own false ((pre.flatMap fb).map tcl), .val (.int (r : Int)), .val (.bool (b0 && pr.all fun d => apB d (s, (r : Int)))), x6, x7]) ?_ ?_ _ ⟨_, _, by rw [List.all_nil, Bool.and_true]⟩
          · rintro e ⟨x6, x7, rfl⟩
            refine hR _ ?_
            dsimp? [w__law_all_with_R1]
            by_cases hg : (b0 && cl.all fun d => apB d (s, (r : Int))) = true
            · rw [if_pos hg] at efg ⊢
              dsimp? [sp__law_all_with, spA__law_all_with]
              have ckr : CkOk 1000 (s, (r : Int)) := ⟨s1, by show s ≤ 1000; omega, by show (0 : Int) ≤ (r : Int); omega, by show (r : Int) < s; omega⟩
              refine ⟨by decide, by decide, by rw [show (cks cl).length = cl.length from List.length_map _, sizeLine_eq]; omega, cl ++ [(s, (r : Int))], by rw [show cks (cl ++ [(s, (r : Int))]) = cks cl ++ [ck (s, (r : Int))] from List.map_append]; rfl, dn ++ [s], ls, by rw [List.append_assoc]; rfl, by rw [List.length_append, List.length_append, hcl]; rfl, fun t ht => hls t (List.mem_cons_of_mem _ ht), fun d hd => ?_, by rw [List.length_append, List.length_singleton]; omega, by omega, by omega, ?_⟩
              · rcases List.mem_append.mp hd with hd | hd
                · exact hok d hd
                · rw [List.mem_singleton.mp hd]; exact ckr
              rw [← efg, List.length_map, List.length_map]
              refine ⟨by rw [sizeLine_eq]; omega, ih _ ⟨.val (.int (r : Int)), .val (.bool (b0 && cl.all fun d => apB d (s, (r : Int)))), x6, x7, ?_⟩⟩
              rw [← efl]
              simp only [List.map_append]
            · rw [if_neg hg] at efg ⊢
              rw [efg, List.append_nil] at efl
              refine ih _ ⟨.val (.int (r : Int)), .val (.bool (b0 && cl.all fun d => apB d (s, (r : Int)))), x6, x7, ?_⟩
              rw [efl]
          · rintro pr d post2 he2 e R8 ⟨x6, x7, rfl⟩ ih2
            have hd : d ∈ cl := by rw [he2]; exact List.mem_append_right _ List.mem_cons_self
            obtain ⟨d1, d2, d3, d4⟩ := hok d hd
            have g0 : 0 < Int.gcd d.1 s := Int.gcd_pos_of_ne_zero_left _ (by omega)
            dsimp? [ck]
            unfold w__law_all_with_B1
            dsimp? [sp__law_common]
            refine ⟨by omega, by omega, by omega, ?_⟩
            have ea : ((pr ++ [d]).all fun d => apB d (s, (r : Int))) = ((pr.all fun d => apB d (s, (r : Int))) && apB d (s, (r : Int))) := by rw [List.all_append, List.all_cons, List.all_nil, Bool.and_true]
            have ed : apB d (s, (r : Int)) = !decide ((d.2 - (r : Int)) % ((Int.gcd d.1 s : Nat) : Int) = 0) := by
              unfold apB
              congr 1
              rw [decide_eq_decide]
              exact ⟨Int.emod_eq_zero_of_dvd, Int.dvd_of_emod_eq_zero⟩
            rw [ed] at ea
            by_cases hz : (d.2 - (r : Int)) % ((Int.gcd d.1 s : Nat) : Int) = 0
            · rw [if_pos hz]
              rw [decide_eq_true hz] at ea
              refine ih2 _ ⟨.val (.int d.1), .val (.int d.2), ?_⟩
              rw [ea, Bool.not_true, Bool.and_false, Bool.and_false]
            · rw [if_neg hz]
              rw [decide_eq_false hz] at ea
              refine ih2 _ ⟨.val (.int d.1), .val (.int d.2), ?_⟩
              rw [ea, Bool.not_false, Bool.and_true]
        cases hz : cl.getLast? with
        | none =>
          have : cl = [] := List.getLast?_eq_none_iff.mp hz
          rw [hz] at hb0
          have hb0 : true = b0 := hb0
          rw [if_pos (by rw [this]; rfl), hb0]
          exact fin
        | some d =>
          rw [hz] at hb0
          have hb0 : cltB d (s, (r : Int)) = b0 := hb0
          have hd : d ∈ cl := List.mem_of_getLast? hz
          have hne : (cks cl).isEmpty = false := by
            cases cl with
            | nil => cases hd
            | cons c l => rfl
          rw [if_neg (by rw [hne]; decide)]
          have hat : atI (cks cl) (-1) = some (ck d) := by
            rcases List.eq_nil_or_concat cl with z | ⟨g, l, z⟩
            · rw [z] at hd; cases hd
            · rw [List.concat_eq_append] at z
              rw [z, List.getLast?_concat] at hz
              obtain rfl := Option.some.inj hz
              rw [z, show cks (g ++ [l]) = cks g ++ [ck l] from List.map_append]
              exact atI_last _ _
          refine ⟨by decide, ck d, hat, ?_⟩
          show oGt (ck (s, (r : Int))) (ck d) _
          unfold oGt oOrd
          refine ⟨alike_ck _ _, sh_ck _, sh_ck _, ?_⟩
          show asg 5 _ (Rs.val (.bool (PySem.W.dataLt (ck d) (ck (s, (r : Int)))))) R
          rw [dlt_ck, hb0]
          dsimp? []
          exact fin
  · exact h.elim
/-- made clocks whose steps are told -/
structure GM (made : List (Int × Int)) : Prop where
  ok : ∀ c ∈ made, CkOk 1000 c ∧ c.1 ≤ 60
  len : made.length ≤ 9
  pos : 1 ≤ made.length
  ap : made.Pairwise Apart
  lt : made.Pairwise clt
  sm : sumS (rnd 1 made) made = rnd 1 made
def stF (cs : List (Int × Int)) : List Int := cs.map (·.1)
theorem GM.sg {made : List (Int × Int)} (h : GM made) : SG (stF made) := ⟨fun s hs => by
  obtain ⟨c, hc, rfl⟩ := List.mem_map.mp hs
  exact ⟨(h.ok c hc).1.1, (h.ok c hc).2⟩, by unfold stF; rw [List.length_map]; have := h.len; omega⟩
theorem sumS_st (R : Int) (cs : List (Int × Int)) : sumS R (st0 (stF cs)) = sumS R cs := by
  unfold sumS st0 stF
  rw [List.map_map, List.map_map]
  rfl
theorem rs_st (cs : List (Int × Int)) : rsS (stF cs) = rnd 1 cs := (rnd_fst cs 1).symm
theorem GM.sum {made : List (Int × Int)} (h : GM made) : sumS (rsS (stF made)) (st0 (stF made)) = rsS (stF made) := by rw [sumS_st, rs_st]; exact h.sm
theorem srt_fst {ss : List Int} (hs : ss.Pairwise (· ≤ ·)) {m : List (Int × Int)} (hm : m.Pairwise clt) (hp : (stF m).Perm ss) : stF m = ss := by
  refine List.Perm.eq_of_pairwise (le := fun a b : Int => a ≤ b) (fun a b _ _ h1 h2 => by omega) ?_ hs hp
  unfold stF
  refine (List.pairwise_map).mpr (hm.imp fun {a b} h => ?_)
  rcases h with h | h <;> omega
theorem clt_fst {m : List (Int × Int)} (hm : m.Pairwise clt) : (stF m).Pairwise (· ≤ ·) := by
  unfold stF
  refine (List.pairwise_map).mpr (hm.imp fun {a b} h => ?_)
  rcases h with h | h <;> omega
theorem apart_nd {m : List (Int × Int)} (h : m.Pairwise Apart) : m.Nodup := h.imp fun {a b} z e => by
  subst e
  exact z a.2 ⟨⟨0, by omega⟩, ⟨0, by omega⟩⟩
theorem ms_id {m : List (Int × Int)} (h : m.Pairwise clt) : m.mergeSort cle = m := clt_uniq (sort_clt (clt_nodup h)) h fun c => (List.mergeSort_perm m cle).mem_iff
/-- what is among the ways -/
theorem xw_mem {ss : List Int} (hs : SG ss) (ho : ss.Pairwise (· ≤ ·)) (hsum : sumS (rsS ss) (st0 ss) = rsS ss) (m : List (Int × Int)) : m ∈ xwL ss ↔ stF m = ss ∧ (∀ c ∈ m, CkOk 1000 c) ∧ m.Pairwise clt ∧ m.Pairwise Apart := by
  unfold xwL
  rw [ws_mem 10 [] ss hs.len (hs.gs hsum) m]
  unfold MS
  constructor
  · rintro ⟨rest, p1, p2, p3, rfl⟩
    rw [List.nil_append] at p3 ⊢
    have pm := List.mergeSort_perm rest cle
    have lt := sort_clt (apart_nd p3)
    refine ⟨srt_fst ho lt ((pm.map fun c : Int × Int => c.1).trans p1), fun c hc => p2 c (pm.mem_iff.mp hc), lt, (pm.pairwise_iff fun z => Apart.symm z).mpr p3⟩
  · rintro ⟨p1, p2, p3, p4⟩
    refine ⟨m, ?_, p2, by rw [List.nil_append]; exact p4, by rw [List.nil_append, ms_id p3]⟩
    unfold stF at p1
    rw [p1]
theorem al_xw {ss : List Int} (hs : SG ss) (ho : ss.Pairwise (· ≤ ·)) (h12 : ∀ s ∈ ss, 1 ≤ s ∧ s ≤ 12) (hsum : sumS (rsS ss) (st0 ss) = rsS ss) (m : List (Int × Int)) : m ∈ xwL ss ↔ m ∈ alF ss [] := by
  rw [xw_mem hs ho hsum, al_mem ss [] h12 (fun d hd => (by cases hd)) List.Pairwise.nil List.Pairwise.nil m]
  constructor
  · rintro ⟨p1, p2, p3, p4⟩
    exact ⟨m, rfl, p1, p2, p3, p4⟩
  · rintro ⟨rest, rfl, p1, p2, p3, p4⟩
    exact ⟨p1, p2, p3, p4⟩
theorem eqv_tins (a : List Int) : PyData.eqv (.tuple (a.map .int)) (.tuple (a.map .int)) = true := by
  have h : io (.tuple (a.map PyData.int)) = true := io_all fun x hx => by
    obtain ⟨z, _, rfl⟩ := List.mem_map.mp hx
    rfl
  exact (eqv_io _ _ h h).mpr rfl
def sp__law_right_k63 : Spc := fun avs Kr Kx => match avs with
  | [.val (.tuple ds)] => ∃ made, ds = cks made ∧ GM made ∧ Kr [] (.val (.bool true))
  | _ => False
def w__law_right_k63_C1 : WE :=
  wLc [3, 4] (wISeq (wVar 0)) (gT 2 (gCons' (gN 3) (gCons' (gN 4) gNil'))) wYes (wVar 3)
def w__law_right_k63_C2 : WE :=
  wLc [3, 4] (wISeq (wVar 2)) (gT 2 (gCons' (gN 3) (gCons' (gN 4) gNil'))) wYes (wVar 3)
def w__law_right_k63_C3 : WE :=
  wLc [3, 4] (wISeq (wVar 2)) (gT 2 (gCons' (gN 3) (gCons' (gN 4) gNil'))) wYes ((wAndV (wCall 1 sp__law_whole (wMCons (wVar 3) wMNil)) (wAndV (wCall 1 sp__law_whole (wMCons (wVar 4) wMNil)) (wChain oLe oLt (wC (.int 0)) (wVar 4) (wVar 3)))))
/-- _law_right: 0 made, 1 steps, 2 found, 3 step, 4 rest -/
def w__law_right_k63 : WS :=
  (wSeq (wSet 1 (wCallB oTuple (wACons w__law_right_k63_C1 wANil)))
    (wSeq (wSet 2 (wCall 1 sp_exact_with (wMCons (wVar 1) wMNil)))
    (wSeq (wIfS (wOr (wNot (wTB (wIsi "tuple" (wVar 2)))) (wOr (wTB (wBin oNe (wCallB oTuple (wACons w__law_right_k63_C2 wANil)) (wVar 1))) (wTB (wBin oGt (wVar 2) (wVar 0))))) (wRet (wC (.bool false))) wNext)
    (wSeq (wIfS (wNot (wTB (wCallB oAll (wACons w__law_right_k63_C3 wANil)))) (wRet (wC (.bool false))) wNext)
    (wSeq (wIfS (wAnd (wTB (wBin oLt (wCallB oLen (wACons (wVar 1) wANil)) (wC (.int 6)))) (wAnd (wTB (wBin oLt (wCallB oMaxT (wACons (wVar 1) wANil)) (wC (.int 13)))) (wTB (wBin oNe (wVar 2) (wCallB oMinL (wACons (wCall 2 (sp__law_all_with 11) (wMCons (wVar 1) (wMCons (wTup wFNil) wMNil))) wANil)))))) (wRet (wC (.bool false))) wNext)
    (wRet ((wAndV (wCall 1 sp__law_exact (wMCons (wVar 2) wMNil)) (wBin oEq (wCall 1 sp_exact_with (wMCons (wVar 1) wMNil)) (wVar 2))))))))))

theorem vc__law_right_k63 : ∀ avs Kr Kx, avs.length = 1 → sp__law_right_k63 avs Kr Kx → lsFrom 0 avs = [] ∧ w__law_right_k63 (startEv 5 avs) (kenD [] Kr Kx) := by
  intro avs Kr Kx hl h
  unfold sp__law_right_k63 at h
  split at h
  · rename_i ds
    obtain ⟨made, rfl, hm, q⟩ := h
    refine ⟨rfl, ?_⟩
    have l9 := hm.len
    have sg := hm.sg
    have ho := clt_fst hm.lt
    have mx := xw_mem sg ho hm.sum
    have min : made ∈ xwL (stF made) := (mx made).mpr ⟨rfl, fun c hc => (hm.ok c hc).1, hm.lt, hm.ap⟩
    have ne : xwL (stF made) ≠ [] := fun z => by rw [z] at min; cases min
    obtain ⟨f1, f2, f3, f4⟩ := (mx _).mp (hdC_mem ne)
    have fle := hdC_le min
    unfold w__law_right_k63
    refine seq_cut fun R hR => ?_
    dsimp? [w__law_right_k63_C1, wLc]
    refine lc_map ck (fun c => .int c.1) made (fun c hc A hA => ?_) (small100000 (by omega)) ?_
    · dsimp? [ck]
      exact hA
    rw [show (made.map fun c => PyData.int c.1) = (stF made).map PyData.int by unfold stF; rw [List.map_map]; rfl]
    dsimp? []
    refine hR _ ?_
    refine seq_cut fun R hR => ?_
    dsimp? [sp_exact_with]
    refine ⟨stF made, rfl, sg, fun _ => ⟨fun z => (ne z).elim, fun _ => hR _ ?_⟩, fun z => (z hm.sum).elim⟩
    have al := fun h12 => hdC_eq ne (al_xw sg ho h12 hm.sum)
    have flen : (hdC (xwL (stF made))).length = made.length := by
      have := congrArg List.length f1
      unfold stF at this
      rw [List.length_map, List.length_map] at this
      exact this
    generalize hfd : hdC (xwL (stF made)) = fd at *
    refine seq_cut fun R hR => ?_
    dsimp? [isTy, tyN, tcl, w__law_right_k63_C2, wLc]
    rw [if_neg (by decide)]
    refine lc_map ck (fun c => .int c.1) fd (fun c hc A hA => ?_) (small100000 (by omega)) ?_
    · dsimp? [ck]
      exact hA
    rw [show (fd.map fun c => PyData.int c.1) = (stF fd).map PyData.int by unfold stF; rw [List.map_map]; rfl, f1]
    dsimp? []
    refine ⟨sh_tin _, sh_tin _, ?_⟩
    rw [if_neg (by rw [eqv_tins]; decide)]
    have nlt : PySem.W.dataLt (tcl made) (tcl fd) = false := by
      rw [tcl_lt]
      exact decide_eq_false (List.not_lt.mpr fle)
    show oGt (tcl fd) (tcl made) _
    unfold oGt oOrd
    have alk : PySem.W.alike (.tuple (cks fd)) (.tuple (cks made)) = true := by
      simp only [PySem.W.alike]
      exact alike_cks fd made
    refine ⟨alk, sh_tck _, sh_tck _, ?_⟩
    show tbK (Rs.val (.bool (PySem.W.dataLt (tcl made) (tcl fd)))) _
    rw [nlt]
    dsimp? []
    refine hR _ ?_
    refine seq_cut fun R hR => ?_
    dsimp? [w__law_right_k63_C3, wLc]
    refine lc_map ck (fun _ => .bool true) fd (fun c hc A hA => ?_) (small100000 (by omega)) ?_
    · obtain ⟨c1, c2, c3, c4⟩ := f2 c hc
      dsimp? [ck, sp__law_whole]
      rw [if_pos c3]
      rw [decide_eq_true c4]
      exact hA
    dsimp? [oAll]
    refine ⟨fd.map fun _ => true, by rw [List.map_map]; rfl, ?_⟩
    rw [show (fd.map fun _ => true).all id = true from List.all_eq_true.mpr fun b hb => by
      obtain ⟨_, _, rfl⟩ := List.mem_map.mp hb
      rfl]
    dsimp? []
    refine hR _ ?_
    refine seq_cut fun R hR => ?_
    dsimp? [List.length_map, sp__law_all_with, spA__law_all_with]
    have last : R [.val (.tuple (cks made)), .val (.tuple ((stF made).map .int)), .val (.tuple (cks fd)), .un, .un] := by
      refine hR _ ?_
      dsimp? [sp__law_exact]
      have xfd : XC63 fd := ⟨⟨f2, by omega⟩, f4, by
        have := hm.sum
        rw [← f1, sumS_st, rs_st] at this
        exact this⟩
      refine ⟨fd, rfl, xfd, ?_⟩
      dsimp? [sp_exact_with]
      refine ⟨stF made, rfl, sg, fun _ => ⟨fun z => (ne z).elim, fun _ => ?_⟩, fun z => (z hm.sum).elim⟩
      rw [hfd]
      refine ⟨sh_tck fd, sh_tck fd, ?_⟩
      rw [show PyData.eqv (tcl fd) (.tuple (cks fd)) = true from (eqv_tcks fd fd).trans (decide_eq_true rfl)]
      exact q
    have sl : (stF made).length = made.length := by unfold stF; rw [List.length_map]
    by_cases h6 : ((stF made).length : Int) < 6
    · rw [if_pos h6]
      dsimp? [oMaxT]
      refine ⟨stF made, rfl, by have := hm.pos; omega, fun m hmm hle => ?_⟩
      by_cases h13 : m < 13
      · have h12 : ∀ s ∈ stF made, 1 ≤ s ∧ s ≤ 12 := fun s hs => ⟨(sg.st s hs).1, by have := hle s hs; omega⟩
        have ah := al h12
        rw [if_pos h13]
        refine ⟨by decide, [], rfl, [], stF made, rfl, rfl, h12, fun d hd => (by cases hd), by rw [List.length_nil]; omega, by omega, by decide, ?_⟩
        have ane : alF (stF made) [] ≠ [] := fun z => by
          have := (al_xw sg ho h12 hm.sum made).mp min
          rw [z] at this
          cases this
        refine oMin_tcl ane ?_
        rw [← ah, rdK_v]
        refine ⟨sh_tck fd, sh_tck fd, ?_⟩
        rw [if_neg (by rw [show PyData.eqv (.tuple (cks fd)) (tcl fd) = true from (eqv_tcks fd fd).trans (decide_eq_true rfl)]; decide)]
        exact last
      · rw [if_neg h13]
        exact last
    · rw [if_neg h6]
      exact last
  · exact h.elim
end Dl
end L2

/-! The plain half, 66: of exact clocks the greatest step stands twice. -/
namespace L2
namespace Dl
open PySem PySem.Spec PyProof.Rows
local macro_rules | `(tactic| dsimp? [$xs,*] $[$l]?) => `(tactic| simp only [wSeq, wNext, wBreak, wCont, wDrop, wRet, wRetN, wIfS, wSet, wAsgT, e_aug, e_setIx, e_par, e_gN, getS_0, getS_s, setS_0, setS_s, e_var, varK_v, varK_o, varK_u, wC, wBin, rdK_v, rdK_t, rdK_s, rdS_v, rdS_o, rdS_u, fzK_v, fzK_t, fzK_s, fzS_v, fzS_o, fzS_l, fzS_u, e_fz, asg_v, asg_t, asg_s, e_tb, tbK_b, wAnd, wOr, wNot, e_notV, e_andV, e_orV, wBV, wIf, e_neg, intK_i, e_oso, wONo, e_rng1, e_rng2, wFNil, wFCons, wANil, wACons, wTup, wLst, e_callB, rdAllK_n, rdAllK_c, wIsi, e_call, wMNil, wMCons, e_ld, lnsOf, avsK_n, avsK_f, avsK_l, lnS_o, lnS_v, lnS_u, poK_n, poK_c, poS_o, inS_0, inS_s, rsK_v, rsK_o, wSl, e_ownF, e_own0, ownB_o, oS_o, oS_v, oS_u, agS_i, muApp, oAdd_i, oAdd_l, oAdd_t, oAdd_s, oSub_i, oMul_i, oFdiv_i, oMod_i, oPow_i, oShl_i, oShr_i, oOr_i, oAndB_i, oLt_i, oLe_i, oGt_i, oGe_i, oEq_i, oNe_i, oEq, oNe, oIx_l, oIx_t, oLen_l, oLen_t, oInt_i, oInt_b, oMax_i, oMin_i, oList_l, oList_t, oTuple_l, oTuple_t, oSorted_l, oSorted_t, oIs_n, oIsN_n, oIs_b, oIsN_b, isNone_n, isNone_t, isNone_l, isNone_i, isNone_s, isNone_b, oSl_l, oSl_t, oIn, gT_t, gC_c, gNil', e_iseq, sqK_l, sqK_t, e_isq, sq2K_l, sq2K_t, e_sset, ssK_l, ssK_t, e_chain, e_lr1, e_lr2, wRev, rvD_l, rvD_t, e_in1, e_in2, negB_f, negB_t, wIZip, zpK_l, zpK_t, zpK_m, e_extend, extR_t, wYes, startEv, kenD_nx, kenD_rt, kenD_bk, kenD_ct, kenD_ex, outK_n, outK_c, otS_o, rvK_v, rvK_t, rvK_s, rvS_v, rvS_o, slOf, lsFrom, wipeE, restE, List.map_cons, List.map_nil, List.length_cons, List.length_nil, List.replicate, List.append_nil, List.cons_append, List.nil_append, List.getElem?_cons_zero, List.getElem?_cons_succ, List.getElem?_nil, List.set_cons_zero, List.set_cons_succ, List.set_nil, Option.getD_some, Option.getD_none, Option.map_some, Option.map_none, Option.some.injEq, Rs.val.injEq, Rs.tmp.injEq, Rs.slot.injEq, Sl.own.injEq, Sl.val.injEq, PyData.int.injEq, PyData.bool.injEq, PyData.str.injEq, PyData.list.injEq, PyData.tuple.injEq, Prod.mk.injEq, Nat.sub_self, Nat.zero_add, Nat.reduceAdd, Nat.reduceSub, Nat.add_zero, isTy_int_int, isTy_bool_int, isTy_int_bool, isTy_bool_bool, isTy_int_tup, isTy_int_lst, isTy_int_non, isTy_int_str, isTy_tup_tup, isTy_tup_lst, isTy_tup_int, isTy_tup_bool, isTy_tup_non, isTy_tup_str, isTy_lst_lst, isTy_lst_tup, isTy_lst_int, exists_eq_left', exists_eq_left, exists_and_left, exists_eq_right, exists_eq, exists_eq', exists_const, true_and, and_true, and_self, Bool.not_true, Bool.not_false, if_true, if_false, Bool.false_eq_true, reduceIte, reduceCtorEq, List.nodup_nil, decide_eq_true_eq, atI_0, atI_1, atI_2, atI_3, atI_4, atI_5, atI_6, atI_7, atI_8, atI_9, atI_10, atI_11, ixN_3_0, ixN_3_1, ixN_3_2, sh_int, sh_bool, sh_non, and_assoc, nd1, nd_true, eq_self, decide_true, decide_false, Int.cast_ofNat_Int, not_true_eq_false, not_false_eq_true, eqv_ii, eqv_bb, wRaise0, e_raiseG, grK_i, e_raise1, onK_i, e_callX, xa_1, xa_2, xa_3, xa_4, xa_5, xa_6, xa_7, e_many, e_most, e_number, e_row, isLst_l, lsK_l, e_rd, e_br, brS_o, brS_v, arS_o, arS_v, avbK_n, avbK_f, avbK_l, scK_b, scK_i, scK_n, scK_s, e_callS, tmK_t, e_rep, enK_l, e_ienum, wTry, eqv_ss, tpK_v, txK_1, tutK_t, e_repT, e_callT, enTK_t, e_ienumT, r3K_i, e_rng3, e_newD, e_putD, e_lenD, e_listD, dcS_d, dcB_d, pvK_b, pvK_i, tkK_m, tkK_2, e_ssetI, oMinL_c, e_lset, e_lstZ, zlK_c, e_ins, e_callF, $xs,*] $[$l]?)
/-- for each step a modulus and an element of that order -/
def mnT : List (Nat × Nat) := [(61, 60), (61, 13), (61, 11), (61, 9), (61, 14), (71, 20), (73, 10), (73, 2), (61, 3), (67, 9), (61, 21), (79, 8), (71, 23), (61, 12), (97, 8), (103, 8), (73, 18), (191, 5), (61, 8), (127, 25), (67, 3), (139, 6), (73, 7), (101, 5), (79, 12), (109, 3), (113, 2), (233, 2), (61, 4), (311, 7), (97, 19), (67, 4), (103, 3), (71, 2), (73, 6), (149, 5), (191, 11), (79, 2), (241, 5), (83, 3), (127, 5), (173, 6), (89, 5), (181, 3), (139, 8), (283, 4), (97, 2), (197, 16), (101, 4), (103, 2), (157, 2), (107, 3), (109, 12), (331, 22), (113, 9), (229, 3), (233, 29), (709, 20), (61, 2)]
def mnOk (s : Nat) : Bool := match mnT[s - 2]? with
  | some (p, g) => ordOk p g s && (List.range 60).all fun t => Nat.gcd (t + 1) p == 1
  | none => false
theorem mn_all : ∀ s ∈ List.range 61, 2 ≤ s → mnOk s = true := by decide +kernel
theorem mn_at {s : Nat} (h1 : 2 ≤ s) (h2 : s ≤ 60) : ∃ p g : Nat, ordOk p g s = true ∧ ∀ t : Nat, 1 ≤ t → t ≤ 60 → Nat.Coprime t p := by
  have h := mn_all s (List.mem_range.mpr (by omega)) h1
  unfold mnOk at h
  split at h
  · rename_i p g _
    rw [Bool.and_eq_true] at h
    refine ⟨p, g, h.1, fun t t1 t2 => ?_⟩
    have := List.all_eq_true.mp h.2 (t - 1) (List.mem_range.mpr (by omega))
    have := eq_of_beq this
    rw [show t - 1 + 1 = t by omega] at this
    exact this
  · cases h
/-- a clock's part of the powers -/
def mnF (g : Nat) (c : Int × Int) (n : Nat) : Int := if (n : Int) % c.1 = c.2 then ((g ^ n : Nat) : Int) else 0
theorem mnF_add {g : Nat} {c : Int × Int} {a : Nat} (h : c.1 ∣ (a : Int)) (n : Nat) : mnF g c (a + n) = ((g ^ a : Nat) : Int) * mnF g c n := by
  unfold mnF
  have e : ((a + n : Nat) : Int) % c.1 = (n : Int) % c.1 := by
    obtain ⟨k, hk⟩ := h
    rw [Int.natCast_add, hk, Int.add_comm, Int.add_mul_emod_self_left]
  rw [e]
  split
  · rw [Nat.pow_add, Int.natCast_mul]
  · rw [Int.mul_zero]
theorem mn_shift {g : Nat} {c : Int × Int} {a R : Nat} (ha : c.1 ∣ (a : Int)) (hR : c.1 ∣ (R : Int)) : (1 - ((g ^ a : Nat) : Int)) * sumN (mnF g c) R = (1 - ((g ^ R : Nat) : Int)) * sumN (mnF g c) a := by
  have h1 := sumN_add (mnF g c) R a
  have h2 := sumN_add (mnF g c) a R
  rw [sumN_congr (g := fun n => ((g ^ R : Nat) : Int) * mnF g c n) (fun n _ => mnF_add hR n), sumN_mul] at h1
  rw [sumN_congr (g := fun n => ((g ^ a : Nat) : Int) * mnF g c n) (fun n _ => mnF_add ha n), sumN_mul, Nat.add_comm] at h2
  rw [Int.sub_mul, Int.sub_mul, Int.one_mul, Int.one_mul]
  omega
theorem pow_one {p g s : Nat} (h : g ^ s % p = 1) (k : Nat) (hp : 1 < p) : g ^ (s * k) % p = 1 := by
  rw [Nat.pow_mul, Nat.pow_mod, h, Nat.one_pow, Nat.mod_eq_of_lt hp]
theorem dvd_one {p n : Nat} (h : n % p = 1) : (p : Int) ∣ 1 - (n : Int) := by
  have := Nat.div_add_mod n p
  rw [h] at this
  refine ⟨-((n / p : Nat) : Int), ?_⟩
  have : (p : Int) * ((n / p : Nat) : Int) + 1 = n := by exact_mod_cast this
  rw [Int.mul_neg]
  omega
/-- what does not go by the step vanishes -/
theorem mn_zero {p g s : Nat} (h1 : 1 ≤ s) (ho : ordOk p g s = true) {c : Int × Int} {a R : Nat} (hc : c.1 = (a : Int)) (hR : c.1 ∣ (R : Int)) (hs : (s : Int) ∣ (R : Int)) (ha : a % s ≠ 0) : (p : Int) ∣ sumN (mnF g c) R := by
  obtain ⟨hp, h2, h3⟩ := ordOk_spec h1 ho
  refine cop_of hp (h3 a ha) (g := g) (e := a) ?_
  rw [mn_shift (by rw [hc]; exact Int.dvd_refl _) hR]
  refine Int.dvd_trans (dvd_one ?_) (Int.dvd_mul_right _ _)
  obtain ⟨k, hk⟩ := Int.natCast_dvd_natCast.mp hs
  rw [hk]
  exact pow_one h2 k hp
theorem dvd_sumN {p : Int} {f : Nat → Int} : ∀ {n : Nat}, (∀ i < n, p ∣ f i) → p ∣ sumN f n
  | 0, _ => ⟨0, by rw [Int.mul_zero]; rfl⟩
  | n + 1, h => Int.dvd_add (dvd_sumN fun i hi => h i (by omega)) (h n (by omega))
theorem sumN_minus (f h : Nat → Int) : ∀ n, sumN (fun i => f i - h i) n = sumN f n - sumN h n
  | 0 => rfl
  | n + 1 => by
    have e : sumN (fun i => f i - h i) (n + 1) = sumN (fun i => f i - h i) n + (f n - h n) := rfl
    rw [e, sumN_minus f h n]
    show _ = (sumN f n + f n) - (sumN h n + h n)
    omega
/-- what goes by the step -/
theorem mn_own {p g s : Nat} (h1 : 1 ≤ s) (ho : ordOk p g s = true) {c : Int × Int} (hc : c.1 = (s : Int)) (ok : CkOk 1000 c) {R : Nat} (hR : c.1 ∣ (R : Int)) : (p : Int) ∣ sumN (mnF g c) R - ((g ^ c.2.toNat : Nat) : Int) * ((R : Int) / c.1) := by
  obtain ⟨hp, h2, h3⟩ := ordOk_spec h1 ho
  have hs := rg_sum (M := (R : Int)) (by omega) (cs := [c]) fun d hd => by
    rw [List.mem_singleton.mp hd]
    exact ⟨ok, hR⟩
  rw [List.map_cons, List.map_nil, List.sum_cons, List.sum_nil, Int.add_zero] at hs
  rw [Int.toNat_natCast] at hs
  rw [← hs, ← sumN_mul, ← sumN_minus]
  refine dvd_sumN fun i _ => ?_
  unfold mnF
  obtain ⟨c1, c2, c3, c4⟩ := ok
  by_cases hz : (i : Int) % c.1 = c.2
  · have e1 : (rgF [c] (i : Int)).length = 1 := by
      unfold rgF
      rw [List.filter_cons, if_pos (decide_eq_true hz)]
      rfl
    rw [if_pos hz, e1]
    obtain ⟨k, hk⟩ : ∃ k : Nat, i = s * k + c.2.toNat := by
      refine ⟨i / s, ?_⟩
      have h5 : i % s = c.2.toNat := by
        have : ((i % s : Nat) : Int) = c.2 := by rw [Int.natCast_emod, ← hc]; exact hz
        omega
      have := Nat.div_add_mod i s
      omega
    have e2 : ((g ^ i : Nat) : Int) - ((g ^ c.2.toNat : Nat) : Int) * ((1 : Nat) : Int) = -((1 - ((g ^ (s * k) : Nat) : Int)) * ((g ^ c.2.toNat : Nat) : Int)) := by
      rw [hk, Nat.pow_add, Int.natCast_mul, Int.sub_mul]
      omega
    rw [e2]
    exact Int.dvd_neg.mpr (Int.dvd_trans (dvd_one (pow_one h2 k hp)) (Int.dvd_mul_right _ _))
  · have e1 : (rgF [c] (i : Int)).length = 0 := by
      unfold rgF
      rw [List.filter_cons, if_neg (by rw [decide_eq_false hz]; decide)]
      rfl
    rw [if_neg hz, e1]
    exact ⟨0, by omega⟩
/-- all parts together -/
theorem mn_parts (g : Nat) (n : Nat) : ∀ cs : List (Int × Int), (cs.map fun c => mnF g c n).sum = ((rgF cs (n : Int)).length : Int) * ((g ^ n : Nat) : Int)
  | [] => by show (0 : Int) = 0 * _; rw [Int.zero_mul]
  | c :: cs => by
    rw [List.map_cons, List.sum_cons, mn_parts g n cs]
    unfold mnF rgF
    rw [List.filter_cons]
    by_cases hz : (n : Int) % c.1 = c.2
    · rw [if_pos hz, if_pos (decide_eq_true hz), List.length_cons, Int.natCast_add, Int.add_mul]
      omega
    · rw [if_neg hz, if_neg (by rw [decide_eq_false hz]; decide)]
      omega
theorem sumN_swap (f : (Int × Int) → Nat → Int) (R : Nat) : ∀ cs : List (Int × Int), sumN (fun n => (cs.map fun c => f c n).sum) R = (cs.map fun c => sumN (f c) R).sum
  | [] => sumN_zero R
  | c :: cs => by
    rw [List.map_cons, List.sum_cons, ← sumN_swap f R cs, ← sumN_plus]
    rfl
theorem cop_prod {p : Nat} : ∀ {cs : List (Int × Int)}, (∀ c ∈ cs, Nat.Coprime c.1.natAbs p) → Nat.Coprime (prodS cs).natAbs p
  | [], _ => Nat.coprime_one_left p
  | c :: cs, h => by
    show Nat.Coprime (c.1 * prodS cs).natAbs p
    rw [Int.natAbs_mul]
    exact Nat.Coprime.mul_left (h c List.mem_cons_self) (cop_prod fun d hd => h d (List.mem_cons_of_mem _ hd))
theorem dvd_prod : ∀ {cs : List (Int × Int)}, ∀ c ∈ cs, c.1 ∣ prodS cs
  | [], _, h => by cases h
  | d :: cs, c, h => by
    show c.1 ∣ d.1 * prodS cs
    rcases List.mem_cons.mp h with rfl | h
    · exact Int.dvd_mul_right _ _
    · exact Int.dvd_trans (dvd_prod c h) (Int.dvd_mul_left _ _)
/-- MIRSKY AND NEWMAN: clocks that ring just once at each number, the greatest step stands twice -/
theorem mn_law {cs : List (Int × Int)} {c0 : Int × Int} {rest : List (Int × Int)} {R : Nat} (pm : cs.Perm (c0 :: rest)) (ok : ∀ c ∈ cs, CkOk 1000 c ∧ c.1 ≤ 60 ∧ c.1 ∣ (R : Int)) (hgt : ∀ c ∈ rest, c.1 < c0.1) (h2 : 2 ≤ c0.1) (hR : (R : Int) = rnd 1 cs)
    (one : ∀ n < R, (rgF cs (n : Int)).length = 1) : False := by
  have okc := ok c0 (pm.mem_iff.mpr List.mem_cons_self)
  obtain ⟨s, es⟩ := Int.eq_ofNat_of_zero_le (show 0 ≤ c0.1 by omega)
  obtain ⟨p, g, ho, hcp⟩ := mn_at (s := s) (by omega) (by have := okc.2.1; omega)
  obtain ⟨hp, hg1, hg2⟩ := ordOk_spec (show 1 ≤ s by omega) ho
  have sR : (s : Int) ∣ (R : Int) := by rw [← es]; exact okc.2.2
  -- all together vanish
  have whole : (p : Int) ∣ sumN (mnF g (1, 0)) R := mn_zero (by omega) ho (a := 1) rfl ⟨_, (Int.one_mul _).symm⟩ sR (by rw [Nat.mod_eq_of_lt (by omega)]; decide)
  have e1 : sumN (mnF g (1, 0)) R = (cs.map fun c => sumN (mnF g c) R).sum := by
    rw [← sumN_swap]
    refine sumN_congr fun n hn => ?_
    rw [mn_parts, one n hn]
    unfold mnF
    rw [if_pos (by show (n : Int) % 1 = 0; omega)]
    omega
  rw [e1, sum_perm (pm.map fun c => sumN (mnF g c) R), List.map_cons, List.sum_cons] at whole
  have others : (p : Int) ∣ (rest.map fun c => sumN (mnF g c) R).sum := by
    have gen : ∀ l : List (Int × Int), (∀ c ∈ l, c ∈ rest) → (p : Int) ∣ (l.map fun c => sumN (mnF g c) R).sum := by
      intro l
      induction l with
      | nil => intro _; exact ⟨0, by rw [Int.mul_zero]; rfl⟩
      | cons c l ih =>
        intro h
        have hc := h c List.mem_cons_self
        have okd := ok c (pm.mem_iff.mpr (List.mem_cons_of_mem _ hc))
        have lt := hgt c hc
        rw [List.map_cons, List.sum_cons]
        refine Int.dvd_add (mn_zero (by omega) ho (a := c.1.toNat) (by have := okd.1.1; omega) okd.2.2 sR ?_) (ih fun d hd => h d (List.mem_cons_of_mem _ hd))
        have := okd.1.1
        rw [Nat.mod_eq_of_lt (by omega)]
        omega
    exact gen rest fun _ h => h
  have own : (p : Int) ∣ sumN (mnF g c0) R := by
    have := Int.dvd_sub whole others
    rwa [Int.add_sub_cancel] at this
  have fin := Int.dvd_sub own (mn_own (by omega) ho es okc.1 okc.2.2)
  rw [show ∀ a b : Int, a - (a - b) = b from fun a b => by omega] at fin
  -- but it does not
  have hR' : Nat.Coprime R p := by
    have pc := cop_prod (p := p) (cs := cs) fun c hc => by
      obtain ⟨a, b, _⟩ := ok c hc
      exact hcp _ (by have := a.1; omega) (by have := a.1; omega)
    have dv := (rnd_spec cs 1 (by decide) fun c hc => (ok c hc).1.1).2.2.2 (prodS cs) ⟨_, (Int.one_mul _).symm⟩ dvd_prod
    rw [← hR] at dv
    have := Int.natAbs_dvd_natAbs.mpr dv
    rw [Int.natAbs_natCast] at this
    exact Nat.Coprime.coprime_dvd_left this pc
  have hq : Nat.Coprime ((R : Int) / c0.1).natAbs p := by
    refine Nat.Coprime.coprime_dvd_left ?_ hR'
    have : ((R : Int) / c0.1) ∣ (R : Int) := ⟨c0.1, (Int.ediv_mul_cancel okc.2.2).symm⟩
    have := Int.natAbs_dvd_natAbs.mpr this
    rwa [Int.natAbs_natCast] at this
  have nd := Int.natAbs_dvd_natAbs.mpr fin
  rw [Int.natAbs_mul, Int.natAbs_natCast, Int.natAbs_natCast] at nd
  have pg : p ∣ g ^ c0.2.toNat := Nat.Coprime.dvd_of_dvd_mul_right hq.symm nd
  have big : p ∣ g ^ (s * c0.2.toNat) := Nat.dvd_trans pg (Nat.pow_dvd_pow g (Nat.le_mul_of_pos_left _ (by omega)))
  have z := pow_one hg1 c0.2.toNat hp
  rw [Nat.mod_eq_zero_of_dvd big] at z
  cases z
/-- where the greatest stands alone there are none -/
theorem xw_none {ss : List Int} (hs : SG ss) (hsum : sumS (rsS ss) (st0 ss) = rsS ss) {m : Int} (hm : m ∈ ss) (hle : ∀ s ∈ ss, s ≤ m) (h1 : (ss.countP fun s => decide (s = m)) = 1) (h2 : 1 < m) : xwL ss = [] := by
  refine List.eq_nil_iff_forall_not_mem.mpr fun M hM => ?_
  have gs := hs.gs hsum
  obtain ⟨cs, p1, p2, p3, _⟩ := (ws_mem 10 [] ss hs.len gs M).mp hM
  rw [List.nil_append] at p3
  have okR : ∀ c ∈ cs, CkOk 1000 c ∧ c.1 ∣ rsS ss := fun c hc => ⟨p2 c hc, (gs.st c.1 (p1.mem_iff.mp (List.mem_map.mpr ⟨c, hc, rfl⟩))).2.2⟩
  have rp := gs.rp
  have e2 := sum_perm2 p1 (rsS ss)
  rw [List.map_map] at e2
  have sm : (cs.map fun c => rsS ss / c.1).sum = rsS ss := by
    have e3 : (cs.map fun c => rsS ss / c.1).sum = (ss.map fun s => rsS ss / s).sum := e2
    have := gs.sm
    rw [List.map_nil, List.sum_nil, Int.zero_add] at this
    omega
  have hsu := rg_sum (M := rsS ss) (by omega) okR
  rw [sm] at hsu
  have one := (sumN_le1 (f := fun i => ((rgF cs (i : Int)).length : Int)) (n := (rsS ss).toNat) fun i _ => by have := apart_one p2 p3 (i : Int); omega).2 (by rw [show sumN (fun i => ((rgF cs (i : Int)).length : Int)) (rsS ss).toNat = rsS ss from hsu]; omega)
  have h60 : ∀ c ∈ cs, c.1 ∈ ss := fun c hc => p1.mem_iff.mp (List.mem_map.mpr ⟨c, hc, rfl⟩)
  obtain ⟨c0, hc0, e0⟩ := List.mem_map.mp (p1.mem_iff.mpr hm)
  have pe := List.perm_cons_erase hc0
  have cnt : (cs.countP fun c => decide (c.1 = m)) = 1 := by
    rw [← h1, ← p1.countP_eq, List.countP_map]
    rfl
  rw [pe.countP_eq, List.countP_cons, if_pos (decide_eq_true e0)] at cnt
  have hR : (((rsS ss).toNat : Nat) : Int) = rsS ss := by omega
  have rn : rsS ss = rnd 1 cs := rnd_eq hs.gc.one (fun c hc => (p2 c hc).1) (fun c hc => by
    obtain ⟨s, hsm, rfl⟩ := List.mem_map.mp hc
    obtain ⟨d, hd, e⟩ := List.mem_map.mp (p1.mem_iff.mpr hsm)
    exact ⟨d, hd, e⟩) fun d hd => ⟨(d.1, 0), List.mem_map.mpr ⟨d.1, h60 d hd, rfl⟩, rfl⟩
  refine mn_law (R := (rsS ss).toNat) pe (fun c hc => ⟨p2 c hc, (hs.st _ (h60 c hc)).2, by rw [hR]; exact (okR c hc).2⟩) (fun c hc => ?_) (by omega) (by rw [hR, rn]) fun n hn => by have := one n hn; omega
  have hle' := hle _ (h60 c (List.mem_of_mem_erase hc))
  have ne : c.1 ≠ m := fun z => by
    have : 0 < (cs.erase c0).countP fun c => decide (c.1 = m) := List.countP_pos_iff.mpr ⟨c, hc, decide_eq_true z⟩
    omega
  rw [e0]
  omega
def sp__law_none_right : Spc := fun avs Kr Kx => match avs with
  | [.val (.list xs)] => ∃ ss, xs = ss.map .int ∧ SG ss ∧ 1 ≤ ss.length ∧ Kr [] (.val (.bool true))
  | _ => False
def w__law_none_right_C1 : WE :=
  wLc [2] (wISeq (wVar 0)) (gN 2) wYes (wTup (wFCons (wVar 2) (wFCons (wC (.int 0)) wFNil)))
def w__law_none_right_C2 : WE :=
  wLc [2] (wISeq (wVar 0)) (gN 2) wYes (wBin oFdiv (wVar 1) (wVar 2))
/-- _law_none_right: 0 steps, 1 size, 2 step -/
def w__law_none_right : WS :=
  (wSeq (wSet 1 (wCall 1 sp__law_round_k03 (wMCons w__law_none_right_C1 wMNil)))
    (wSeq (wIfS (wOr (wTB (wBin oNe (wCallB oSum (wACons w__law_none_right_C2 wANil)) (wVar 1))) (wAnd (wTB (wBin oEq (wRd (wVar 0) (wCallB oMax (wACons (wVar 0) wANil)) muCount) (wC (.int 1)))) (wTB (wBin oGt (wCallB oMax (wACons (wVar 0) wANil)) (wC (.int 1)))))) (wRet (wBin oIs (wCall 1 sp_exact_with (wMCons (wCallB oTuple (wACons (wVar 0) wANil)) wMNil)) (wC .none))) wNext)
    (wRet (wC (.bool true)))))

theorem vc__law_none_right : ∀ avs Kr Kx, avs.length = 1 → sp__law_none_right avs Kr Kx → lsFrom 0 avs = [] ∧ w__law_none_right (startEv 3 avs) (kenD [] Kr Kx) := by
  intro avs Kr Kx hl h
  unfold sp__law_none_right at h
  split at h
  · rename_i xs
    obtain ⟨ss, rfl, hs, hpos, q⟩ := h
    refine ⟨rfl, ?_⟩
    have gc := hs.gc
    have hlen := hs.len
    unfold w__law_none_right
    refine seq_cut fun R hR => ?_
    dsimp? [w__law_none_right_C1, wLc]
    refine lc_map PyData.int (fun s => ck (s, 0)) ss (fun s hsm A hA => ?_) (small100000 (by omega)) ?_
    · dsimp? []
      exact ⟨by decide, hA⟩
    have est : ss.map (fun s => ck (s, 0)) = cks (st0 ss) := by unfold st0 cks; rw [List.map_map]; rfl
    rw [est]
    dsimp? [sp__law_round_k03]
    refine gc.rok (hR _ ?_)
    refine seq_cut fun R hR => ?_
    dsimp? [w__law_none_right_C2, wLc]
    refine lc_map PyData.int (fun s => .int (rsS ss / s)) ss (fun s hsm A hA => ?_) (small100000 (by omega)) ?_
    · obtain ⟨s1, s2⟩ := hs.st s hsm
      dsimp? []
      exact ⟨by omega, log_small (by omega) (by omega), hA⟩
    rw [show (ss.map fun s => PyData.int (rsS ss / s)) = (ss.map fun s => rsS ss / s).map PyData.int by rw [List.map_map]; rfl]
    have esum : (ss.map fun s => rsS ss / s).sum = sumS (rsS ss) (st0 ss) := by unfold sumS st0; rw [List.map_map]; rfl
    dsimp? [oSum]
    refine ⟨ss.map fun s => rsS ss / s, rfl, ?_⟩
    rw [esum]
    have er : rnd 1 (st0 ss) = rsS ss := rfl
    rw [er]
    have nxt : R [.val (.list (ss.map .int)), .val (.int (rsS ss)), .un] := by
      refine hR _ ?_
      dsimp? []
      exact q
    by_cases hsum : ¬ sumS (rsS ss) (st0 ss) = rsS ss
    · rw [if_pos hsum]
      dsimp? [sp_exact_with]
      exact ⟨ss, rfl, hs, fun z => (hsum z).elim, fun _ => q⟩
    · rw [if_neg hsum]
      replace hsum := Classical.not_not.mp hsum
      dsimp? [oMax]
      refine ⟨ss, rfl, by omega, fun m hm hle => ?_⟩
      dsimp? [muCount]
      refine ⟨sh_lin ss, ?_⟩
      have ecnt : (ss.map PyData.int).countP (fun y => PyData.eqv y (.int m)) = ss.countP fun s => decide (s = m) := by
        rw [List.countP_map]
        refine congrFun (congrArg List.countP (funext fun s => ?_)) ss
        exact eqv_ii s m
      rw [ecnt]
      by_cases h1 : ((ss.countP fun s => decide (s = m) : Nat) : Int) = 1
      · rw [if_pos h1]
        refine ⟨ss, rfl, by omega, fun m' hm' hle' => ?_⟩
        have em : m' = m := by
          have := hle m' hm'
          have := hle' m hm
          omega
        subst em
        by_cases h2 : 1 < m'
        · rw [if_pos h2]
          dsimp? [sp_exact_with]
          have hno := xw_none hs hsum hm hle (by omega) h2
          exact ⟨ss, rfl, hs, fun _ => ⟨fun _ => q, fun z => (z hno).elim⟩, fun z => (z hsum).elim⟩
        · rw [if_neg h2]
          exact nxt
      · rw [if_neg h1]
        exact nxt
  · exact h.elim
end Dl
end L2

/-! k63: exact clocks by steps. -/
namespace L2
namespace Dl
open PySem PySem.Spec PyProof.Rows
local macro_rules | `(tactic| dsimp? [$xs,*] $[$l]?) => `(tactic| simp only [wSeq, wNext, wBreak, wCont, wDrop, wRet, wRetN, wIfS, wSet, wAsgT, e_aug, e_setIx, e_par, e_gN, getS_0, getS_s, setS_0, setS_s, e_var, varK_v, varK_o, varK_u, wC, wBin, rdK_v, rdK_t, rdK_s, rdS_v, rdS_o, rdS_u, fzK_v, fzK_t, fzK_s, fzS_v, fzS_o, fzS_l, fzS_u, e_fz, asg_v, asg_t, asg_s, e_tb, tbK_b, wAnd, wOr, wNot, e_notV, e_andV, e_orV, wBV, wIf, e_neg, intK_i, e_oso, wONo, e_rng1, e_rng2, wFNil, wFCons, wANil, wACons, wTup, wLst, e_callB, rdAllK_n, rdAllK_c, wIsi, e_call, wMNil, wMCons, e_ld, lnsOf, avsK_n, avsK_f, avsK_l, lnS_o, lnS_v, lnS_u, poK_n, poK_c, poS_o, inS_0, inS_s, rsK_v, rsK_o, wSl, e_ownF, e_own0, ownB_o, oS_o, oS_v, oS_u, agS_i, muApp, oAdd_i, oAdd_l, oAdd_t, oAdd_s, oSub_i, oMul_i, oFdiv_i, oMod_i, oPow_i, oShl_i, oShr_i, oOr_i, oAndB_i, oLt_i, oLe_i, oGt_i, oGe_i, oEq_i, oNe_i, oEq, oNe, oIx_l, oIx_t, oLen_l, oLen_t, oInt_i, oInt_b, oMax_i, oMin_i, oList_l, oList_t, oTuple_l, oTuple_t, oSorted_l, oSorted_t, oIs_n, oIsN_n, oIs_b, oIsN_b, isNone_n, isNone_t, isNone_l, isNone_i, isNone_s, isNone_b, oSl_l, oSl_t, oIn, gT_t, gC_c, gNil', e_iseq, sqK_l, sqK_t, e_isq, sq2K_l, sq2K_t, e_sset, ssK_l, ssK_t, e_chain, e_lr1, e_lr2, wRev, rvD_l, rvD_t, e_in1, e_in2, negB_f, negB_t, wIZip, zpK_l, zpK_t, zpK_m, e_extend, extR_t, wYes, startEv, kenD_nx, kenD_rt, kenD_bk, kenD_ct, kenD_ex, outK_n, outK_c, otS_o, rvK_v, rvK_t, rvK_s, rvS_v, rvS_o, slOf, lsFrom, wipeE, restE, List.map_cons, List.map_nil, List.length_cons, List.length_nil, List.replicate, List.append_nil, List.cons_append, List.nil_append, List.getElem?_cons_zero, List.getElem?_cons_succ, List.getElem?_nil, List.set_cons_zero, List.set_cons_succ, List.set_nil, Option.getD_some, Option.getD_none, Option.map_some, Option.map_none, Option.some.injEq, Rs.val.injEq, Rs.tmp.injEq, Rs.slot.injEq, Sl.own.injEq, Sl.val.injEq, PyData.int.injEq, PyData.bool.injEq, PyData.str.injEq, PyData.list.injEq, PyData.tuple.injEq, Prod.mk.injEq, Nat.sub_self, Nat.zero_add, Nat.reduceAdd, Nat.reduceSub, Nat.add_zero, isTy_int_int, isTy_bool_int, isTy_int_bool, isTy_bool_bool, isTy_int_tup, isTy_int_lst, isTy_int_non, isTy_int_str, isTy_tup_tup, isTy_tup_lst, isTy_tup_int, isTy_tup_bool, isTy_tup_non, isTy_tup_str, isTy_lst_lst, isTy_lst_tup, isTy_lst_int, exists_eq_left', exists_eq_left, exists_and_left, exists_eq_right, exists_eq, exists_eq', exists_const, true_and, and_true, and_self, Bool.not_true, Bool.not_false, if_true, if_false, Bool.false_eq_true, reduceIte, reduceCtorEq, List.nodup_nil, decide_eq_true_eq, atI_0, atI_1, atI_2, atI_3, atI_4, atI_5, atI_6, atI_7, atI_8, atI_9, atI_10, atI_11, ixN_3_0, ixN_3_1, ixN_3_2, sh_int, sh_bool, sh_non, and_assoc, nd1, nd_true, eq_self, decide_true, decide_false, Int.cast_ofNat_Int, not_true_eq_false, not_false_eq_true, eqv_ii, eqv_bb, wRaise0, e_raiseG, grK_i, e_raise1, onK_i, e_callX, xa_1, xa_2, xa_3, xa_4, xa_5, xa_6, xa_7, e_many, e_most, e_number, e_row, isLst_l, lsK_l, e_rd, e_br, brS_o, brS_v, arS_o, arS_v, avbK_n, avbK_f, avbK_l, scK_b, scK_i, scK_n, scK_s, e_callS, tmK_t, e_rep, enK_l, e_ienum, wTry, eqv_ss, tpK_v, txK_1, tutK_t, e_repT, e_callT, enTK_t, e_ienumT, r3K_i, e_rng3, e_newD, e_putD, e_lenD, e_listD, dcS_d, dcB_d, pvK_b, pvK_i, tkK_m, tkK_2, e_ssetI, oMinL_c, e_lset, e_lstZ, zlK_c, e_ins, e_callF, $xs,*] $[$l]?)
theorem sg_of {ss : List Int} (h : (ss.all fun s => decide (1 ≤ s) && decide (s ≤ 60)) = true) (hl : ss.length ≤ 10) : SG ss := ⟨fun s hs => by
  have := List.all_eq_true.mp h s hs
  simp only [Bool.and_eq_true, decide_eq_true_eq] at this
  exact this, hl⟩
theorem exw_1 {Kr : List (List PyData) → Rv → Prop} {Kx : List (List PyData) → XD → Prop} (q : Kr [] (.val (tcl [(1, 0)]))) : sp_exact_with [.val (.tuple [.int 1])] Kr Kx := by
  have sg : SG [1] := sg_of (by decide) (by decide)
  have hsum : sumS (rsS [1]) (st0 [1]) = rsS [1] := by decide +kernel
  have hm : [((1 : Int), (0 : Int))] ∈ xwL [1] := (xw_mem sg (by simp) hsum _).mpr ⟨rfl, fun c hc => by rw [List.mem_singleton.mp hc]; exact ⟨by decide, by decide, by decide, by decide⟩, List.pairwise_singleton _ _, List.pairwise_singleton _ _⟩
  have ne : xwL [1] ≠ [] := fun z => by rw [z] at hm; cases hm
  have e : hdC (xwL [1]) = [(1, 0)] := by
    obtain ⟨h1, h2, _, _⟩ := (xw_mem sg (by simp) hsum _).mp (hdC_mem ne)
    generalize hdC (xwL [1]) = m at *
    obtain ⟨c, rfl⟩ : ∃ c, m = [c] := List.length_eq_one_iff.mp (by have := congrArg List.length h1; unfold stF at this; rw [List.length_map] at this; exact this)
    have h1 := (List.cons.inj h1).1
    have h1 : c.1 = 1 := h1
    obtain ⟨_, _, h3, h4⟩ := h2 c List.mem_cons_self
    have : c = (1, 0) := Prod.ext h1 (by show c.2 = 0; omega)
    rw [this]
  refine ⟨[1], rfl, sg, fun _ => ⟨fun z => (ne z).elim, fun _ => ?_⟩, fun z => (z hsum).elim⟩
  rw [e]
  exact q
theorem exw_236 {Kr : List (List PyData) → Rv → Prop} {Kx : List (List PyData) → XD → Prop} (q : Kr [] (.val .none)) : sp_exact_with [.val (.tuple [.int 2, .int 3, .int 6])] Kr Kx := by
  have sg : SG [2, 3, 6] := sg_of (by decide) (by decide)
  have hsum : sumS (rsS [2, 3, 6]) (st0 [2, 3, 6]) = rsS [2, 3, 6] := by decide +kernel
  have no := xw_none (m := 6) sg hsum (by decide) (by decide) (by decide) (by decide)
  exact ⟨[2, 3, 6], rfl, sg, fun _ => ⟨fun _ => q, fun z => (z no).elim⟩, fun z => (z hsum).elim⟩
theorem exw_22 {Kr : List (List PyData) → Rv → Prop} {Kx : List (List PyData) → XD → Prop} (q : Kr [] (.val (tcl [(2, 0), (2, 1)]))) : sp_exact_with [.val (.tuple [.int 2, .int 2])] Kr Kx := by
  have sg : SG [2, 2] := sg_of (by decide) (by decide)
  have hsum : sumS (rsS [2, 2]) (st0 [2, 2]) = rsS [2, 2] := by decide +kernel
  have ap : Apart (2, 0) (2, 1) := (ap_iff (by decide) (by decide)).mp (by decide)
  have hm : [((2 : Int), (0 : Int)), (2, 1)] ∈ xwL [2, 2] := (xw_mem sg (by simp) hsum _).mpr ⟨rfl, fun c hc => by
      rcases List.mem_cons.mp hc with rfl | hc
      · exact ⟨by decide, by decide, by decide, by decide⟩
      · rw [List.mem_singleton.mp hc]; exact ⟨by decide, by decide, by decide, by decide⟩, by
      refine List.pairwise_cons.mpr ⟨fun d hd => ?_, List.pairwise_singleton _ _⟩
      rw [List.mem_singleton.mp hd]
      exact .inr ⟨rfl, by decide⟩, by
      refine List.pairwise_cons.mpr ⟨fun d hd => ?_, List.pairwise_singleton _ _⟩
      rw [List.mem_singleton.mp hd]
      exact ap⟩
  have ne : xwL [2, 2] ≠ [] := fun z => by rw [z] at hm; cases hm
  have e : hdC (xwL [2, 2]) = [(2, 0), (2, 1)] := by
    obtain ⟨h1, h2, h3, _⟩ := (xw_mem sg (by simp) hsum _).mp (hdC_mem ne)
    generalize hdC (xwL [2, 2]) = m at *
    obtain ⟨c, d, rfl⟩ := two_ex (l := m) (by have := congrArg List.length h1; unfold stF at this; rw [List.length_map] at this; exact this)
    obtain ⟨e1, e2⟩ := List.cons.inj h1
    have e1 : c.1 = 2 := e1
    have e2 : d.1 = 2 := (List.cons.inj e2).1
    obtain ⟨_, _, c3, c4⟩ := h2 c List.mem_cons_self
    obtain ⟨_, _, d3, d4⟩ := h2 d (List.mem_cons_of_mem _ List.mem_cons_self)
    have lt := List.rel_of_pairwise_cons h3 (List.mem_cons_self (a := d))
    have z : c = (2, 0) ∧ d = (2, 1) := by
      rcases lt with lt | ⟨_, lt⟩
      · omega
      · exact ⟨Prod.ext e1 (by show c.2 = 0; omega), Prod.ext e2 (by show d.2 = 1; omega)⟩
    rw [z.1, z.2]
  refine ⟨[2, 2], rfl, sg, fun _ => ⟨fun z => (ne z).elim, fun _ => ?_⟩, fun z => (z hsum).elim⟩
  rw [e]
  exact q
theorem gm_fix : GM [(2, 0), (4, 1), (4, 3)] := by
  have a1 : Apart (2, 0) (4, 1) := (ap_iff (by decide) (by decide)).mp (by decide)
  have a2 : Apart (2, 0) (4, 3) := (ap_iff (by decide) (by decide)).mp (by decide)
  have a3 : Apart (4, 1) (4, 3) := (ap_iff (by decide) (by decide)).mp (by decide)
  refine ⟨fun c hc => ?_, by decide, by decide, ?_, ?_, by decide +kernel⟩
  · simp only [List.mem_cons, List.not_mem_nil, or_false] at hc
    rcases hc with rfl | rfl | rfl <;> exact ⟨⟨by decide, by decide, by decide, by decide⟩, by decide⟩
  · simp only [List.pairwise_cons, List.mem_cons, List.not_mem_nil, or_false, forall_eq_or_imp, forall_eq]
    exact ⟨⟨a1, a2⟩, a3, fun _ h => h.elim, List.Pairwise.nil⟩
  · simp only [List.pairwise_cons, List.mem_cons, List.not_mem_nil, or_false, forall_eq_or_imp, forall_eq]
    exact ⟨⟨.inl (by decide), .inl (by decide)⟩, .inr ⟨rfl, by decide⟩, fun _ h => h.elim, List.Pairwise.nil⟩
theorem srt_intL (ss : List Int) : Srts (ss.map .int) := by
  refine ⟨fun d hd e he => ?_, .inr fun d hd => ?_, fun d hd => ?_⟩
  · obtain ⟨a, _, rfl⟩ := List.mem_map.mp hd
    obtain ⟨b, _, rfl⟩ := List.mem_map.mp he
    rfl
  · obtain ⟨a, _, rfl⟩ := List.mem_map.mp hd
    exact ⟨fun h => (by cases h), fun xs h => (by cases h)⟩
  · obtain ⟨a, _, rfl⟩ := List.mem_map.mp hd
    rfl
def soI (ss : List Int) : List Int := ss.mergeSort fun a b => dLe (.int a) (.int b)
theorem sort_intL (ss : List Int) : (ss.map PyData.int).mergeSort dLe = (soI ss).map .int := (PySem.W.sort_maps PyData.int fun _ _ _ _ => rfl).symm
theorem soI_sg {ss : List Int} (h : SG ss) : SG (soI ss) ∧ (soI ss).length = ss.length := by
  have p : (soI ss).Perm ss := List.mergeSort_perm _ _
  exact ⟨⟨fun s hs => h.st s (p.mem_iff.mp hs), by rw [p.length_eq]; exact h.len⟩, p.length_eq⟩
def sp_law_k63 : Spc := spLaw
def w_law_k63_C1 : WE :=
  wLc [6, 7] (wISeq (wVar 3)) (gT 2 (gCons' (gN 6) (gCons' (gN 7) gNil'))) wYes (wVar 6)
def w_law_k63_C2 : WE :=
  wLc [6, 7] (wISeq (wVar 3)) (gT 2 (gCons' (gN 6) (gCons' (gN 7) gNil'))) wYes (wVar 6)
def w_law_k63_C3 : WE :=
  wLc [8] (wIRng1 (wBin oAdd (wC (.int 1)) (wCall 2 sp__law_draw (wLd 2 (wMCons (wC (.int 6)) wMNil))))) (gN 8) wYes (wBin oAdd (wC (.int 1)) (wCall 2 sp__law_draw (wLd 2 (wMCons (wC (.int 12)) wMNil))))
def w_law_k63_R1 : WS :=
  (wSeq (wIfS (wNot (wTB (wCall 1 sp__law_right_k63 (wMCons (wVar 3) wMNil)))) (wRet (wC (.bool false))) wNext)
    (wSeq (wSet 4 w_law_k63_C2)
    (wSeq (wSetIx 4 (wCall 2 sp__law_draw (wLd 2 (wMCons (wCallB oLen (wACons (wVar 4) wANil)) wMNil))) (wBin oAdd (wC (.int 1)) (wCall 2 sp__law_draw (wLd 2 (wMCons (wC (.int 60)) wMNil)))))
    (wSeq (wSet 5 w_law_k63_C3)
    (wIfS (wOr (wNot (wTB (wCall 1 sp__law_none_right (wMCons (wCallB oSorted (wACons (wVar 4) wANil)) wMNil)))) (wNot (wTB (wCall 1 sp__law_none_right (wMCons (wCallB oSorted (wACons (wVar 5) wANil)) wMNil))))) (wRet (wC (.bool false))) wNext)))))
def w_law_k63_B1 : WS :=
  (wSeq (wSet 2 (wCall 1 sp__law_pen_of (wMCons (wVar 1) wMNil)))
    (wSeq (wSet 3 (wCallB oTuple (wACons (wCall 3 sp__law_parts_by (wLd 2 (wMCons (wC (.int 1)) (wMCons (wC (.int 9)) wMNil)))) wANil)))
    (wSeq (wIfS (wTB (wBin oGt (wCallB oMax (wACons w_law_k63_C1 wANil)) (wC (.int 60)))) (wSet 3 (wTup (wFCons (wTup (wFCons (wC (.int 2)) (wFCons (wC (.int 0)) wFNil))) (wFCons (wTup (wFCons (wC (.int 4)) (wFCons (wC (.int 1)) wFNil))) (wFCons (wTup (wFCons (wC (.int 4)) (wFCons (wC (.int 3)) wFNil))) wFNil))))) wNext)
    w_law_k63_R1)))
def w_law_k63_L1 : WS :=
  wFor (wISeq (wBin oAdd (wLst (wFCons (wCall 2 sp__law_cell_at (wMCons (wVar 0) (wMCons (wC (.int 0)) wMNil))) wFNil)) (wSl (wVar 0) (wOSo (wC (.int 1))) (wOSo (wC (.int 5)))))) (gN 1) w_law_k63_B1
def w_law_k63_R2 : WS :=
  (wRet (wC (.bool true)))
/-- law: 0 script, 1 cell, 2 pen, 3 made, 4 steps, 5 some, 6 step, 7 rest, 8 turn -/
def w_law_k63 : WS :=
  (wSeq (wIfS (wOr (wTB (wBin oNe (wCall 1 sp_exact_with (wMCons (wTup (wFCons (wC (.int 1)) wFNil)) wMNil)) (wTup (wFCons (wTup (wFCons (wC (.int 1)) (wFCons (wC (.int 0)) wFNil))) wFNil)))) (wOr (wTB (wBin oIsNot (wCall 1 sp_exact_with (wMCons (wTup (wFCons (wC (.int 2)) (wFCons (wC (.int 3)) (wFCons (wC (.int 6)) wFNil)))) wMNil)) (wC .none))) (wTB (wBin oNe (wCall 1 sp_exact_with (wMCons (wTup (wFCons (wC (.int 2)) (wFCons (wC (.int 2)) wFNil))) wMNil)) (wTup (wFCons (wTup (wFCons (wC (.int 2)) (wFCons (wC (.int 0)) wFNil))) (wFCons (wTup (wFCons (wC (.int 2)) (wFCons (wC (.int 1)) wFNil))) wFNil))))))) (wRet (wC (.bool false))) wNext)
    (wSeq (wIfS (wNot (wTB (wCall 1 sp__law_steps_right (wMCons (wBin oAdd (wC (.int 1)) (wCallA 2 sp__law_draw (wCall 1 sp__law_pen_of (wMCons (wCall 2 sp__law_cell_at (wMCons (wVar 0) (wMCons (wC (.int 0)) wMNil))) wMNil)) (wMCons (wC (.int 12)) wMNil))) wMNil)))) (wRet (wC (.bool false))) wNext)
    (wSeq w_law_k63_L1
    w_law_k63_R2)))

theorem vc_law_k63 : ∀ avs Kr Kx, avs.length = 1 → sp_law_k63 avs Kr Kx → lsFrom 0 avs = [] ∧ w_law_k63 (startEv 9 avs) (kenD [] Kr Kx) := by
  rintro avs Kr Kx hl ⟨ns, rfl, hn, q⟩
  refine ⟨rfl, ?_⟩
  unfold w_law_k63
  refine seq_cut fun R hR => ?_
  dsimp? []
  refine ⟨by decide, exw_1 ?_⟩
  dsimp? []
  have e1 : ¬ (!(tcl [(1, 0)]).eqv (.tuple [.tuple [.int 1, .int 0]])) = true := by
    rw [show (tcl [(1, 0)]).eqv (.tuple [.tuple [.int 1, .int 0]]) = true from (eqv_tcks [(1, 0)] [(1, 0)]).trans (decide_eq_true rfl)]
    decide
  refine ⟨by decide, by decide, sh_tck _, sh_tck [(1, 0)], ?_⟩
  rw [if_neg e1]
  refine ⟨by decide, exw_236 ?_⟩
  dsimp? [isNone]
  refine ⟨by decide, exw_22 ?_⟩
  dsimp? []
  have e2 : ¬ (!(tcl [(2, 0), (2, 1)]).eqv (.tuple [.tuple [.int 2, .int 0], .tuple [.int 2, .int 1]])) = true := by
    rw [show (tcl [(2, 0), (2, 1)]).eqv (.tuple [.tuple [.int 2, .int 0], .tuple [.int 2, .int 1]]) = true from (eqv_tcks [(2, 0), (2, 1)] [(2, 0), (2, 1)]).trans (decide_eq_true rfl)]
    decide
  refine ⟨by decide, by decide, by decide, sh_tck _, sh_tck [(2, 0), (2, 1)], ?_⟩
  rw [if_neg e2]
  refine hR _ ?_
  refine seq_cut fun R hR => ?_
  dsimp? [sp__law_cell_at, wCallA, sp__law_pen_of]
  refine ⟨⟨ns, rfl⟩, by decide, fun n0 pen0 hp0 => ⟨_, rfl, rfl, ?_⟩⟩
  dsimp? [sp__law_draw]
  refine ⟨hp0, by decide, by decide, fun _ d _ d0 d1 => ?_⟩
  dsimp? [rsOf]
  obtain ⟨N, eN⟩ := Int.eq_ofNat_of_zero_le (show 0 ≤ 1 + d by omega)
  rw [eN]
  dsimp? [sp__law_steps_right]
  refine ⟨N, rfl, by omega, by omega, hR _ ?_⟩
  refine seq_cut fun R hR => ?_
  dsimp? [w_law_k63_L1, wFor, sp__law_cell_at]
  refine ⟨⟨ns, rfl⟩, by decide, fun n => ⟨by decide, cells_len hn, ?_⟩⟩
  refine each_ints (fun e => ∃ x1 x2 x3 x4 x5 , e = [.val (.list (ns.map .int)), x1, x2, x3, x4, x5, .un, .un, .un]) ?_ ?_ _ _ cells_ints ⟨_, _, _, _, _, rfl⟩
  · rintro e ⟨x1, x2, x3, x4, x5, rfl⟩
    refine hR _ ?_
    dsimp? [w_law_k63_R2]
    exact q
  · rintro m e R9 ⟨x1, x2, x3, x4, x5, rfl⟩ ih
    unfold w_law_k63_B1
    refine seq_cut fun R hR => ?_
    dsimp? [sp__law_pen_of]
    refine fun pen hp => hR _ ?_
    refine seq_cut fun R hR => ?_
    dsimp? [sp__law_parts_by]
    refine ⟨hp, by decide, by decide, by decide, by decide, fun p1 cs hp1 c1 c2 c3 c4 => ?_⟩
    have c3 : cs.length ≤ 9 := by omega
    refine hR _ ?_
    refine seq_cut fun R hR => ?_
    dsimp? [w_law_k63_C1, wLc]
    refine lc_map ck (fun c => .int c.1) cs (fun c hc A hA => ?_) (small100000 (by omega)) ?_
    · dsimp? [ck]
      exact hA
    rw [show (cs.map fun c => PyData.int c.1) = (stF cs).map PyData.int by unfold stF; rw [List.map_map]; rfl]
    dsimp? [oMax]
    refine ⟨stF cs, rfl, by unfold stF; rw [List.length_map]; omega, fun mx hmx hle => ?_⟩
    have main : ∀ made : List (Int × Int), GM made → R [.val (.list (ns.map .int)), .val (.int m), .own false p1, .val (.tuple (cks made)), x4, x5, .un, .un, .un] := fun made hm => by
      have l9 := hm.len
      have lpos := hm.pos
      refine hR _ ?_
      unfold w_law_k63_R1
      refine seq_cut fun R hR => ?_
      dsimp? [sp__law_right_k63]
      refine ⟨made, rfl, hm, hR _ ?_⟩
      refine seq_cut fun R hR => ?_
      dsimp? [w_law_k63_C2, wLc]
      refine lc_map ck (fun c => .int c.1) made (fun c hc A hA => ?_) (small100000 (by omega)) ?_
      · dsimp? [ck]
        exact hA
      rw [show (made.map fun c => PyData.int c.1) = (stF made).map PyData.int by unfold stF; rw [List.map_map]; rfl]
      dsimp? []
      refine hR _ ?_
      refine seq_cut fun R hR => ?_
      have sl : (stF made).length = made.length := by unfold stF; rw [List.length_map]
      dsimp? [sp__law_draw, List.length_map]
      refine ⟨hp1, by decide, by decide, fun p2 r hp2 r0 r1 => ⟨hp2, by omega, log_small (by omega) (by omega), fun p3 j hp3 j0 j1 => ?_⟩⟩
      obtain ⟨j, rfl⟩ := Int.eq_ofNat_of_zero_le j0
      refine ⟨j, by unfold ixN; simp; omega, hR _ ?_⟩
      rw [← List.map_set]
      have sg1 : SG ((stF made).set j (1 + r)) := ⟨fun s hs => by
        rcases List.mem_or_eq_of_mem_set hs with hs | rfl
        · exact hm.sg.st s hs
        · omega, by rw [List.length_set]; omega⟩
      have sl1 : 1 ≤ ((stF made).set j (1 + r)).length := by rw [List.length_set]; omega
      generalize (stF made).set j (1 + r) = ss1 at *
      refine seq_cut fun R hR => ?_
      dsimp? [w_law_k63_C3, wLc, sp__law_draw]
      refine ⟨hp3, by decide, by decide, fun p4 k hp4 k0 k1 => ⟨by omega, by omega, ?_⟩⟩
      refine lc_st (fun (i : Nat) => PyData.int (i : Int)) (fun d => ∃ s : Int, d = .int s ∧ 1 ≤ s ∧ s ≤ 60) (fun e => ∃ pn, e = [.val (.list (ns.map .int)), .val (.int m), .own false pn, .val (.tuple (cks made)), .own false (ss1.map .int), x5, .un, .un, .un] ∧ pen3 pn) _ [] _ ⟨_, rfl, hp4⟩ (fun _ z => (by cases z)) (by rw [List.length_nil, List.length_range]; omega) ?_ ?_
      · rintro acc e ⟨p5, rfl, hp5⟩ ha hlen
        rw [List.length_nil, List.length_range] at hlen
        have allI : ∀ l : List PyData, (∀ d ∈ l, ∃ s : Int, d = .int s ∧ 1 ≤ s ∧ s ≤ 60) → ∃ ss : List Int, l = ss.map .int ∧ ∀ s ∈ ss, 1 ≤ s ∧ s ≤ 60 := by
          intro l
          induction l with
          | nil => intro _; exact ⟨[], rfl, fun s h => (by cases h)⟩
          | cons d l ih =>
            intro h
            obtain ⟨s, rfl, hs⟩ := h d List.mem_cons_self
            obtain ⟨ss, rfl, h2⟩ := ih fun x hx => h x (List.mem_cons_of_mem _ hx)
            refine ⟨s :: ss, rfl, fun t ht => ?_⟩
            rcases List.mem_cons.mp ht with rfl | ht
            · exact hs
            · exact h2 t ht
        obtain ⟨ss2, rfl, hs2⟩ := allI acc ha
        rw [List.length_map] at hlen
        have sg2 : SG ss2 := ⟨hs2, by omega⟩
        dsimp? []
        refine hR _ ?_
        dsimp? []
        rw [sort_intL ss1, sort_intL ss2]
        obtain ⟨o1, o2⟩ := soI_sg sg1
        obtain ⟨o3, o4⟩ := soI_sg sg2
        refine ⟨srt_intL _, ?_⟩
        dsimp? [sp__law_none_right]
        refine ⟨soI ss1, rfl, o1, by omega, ?_⟩
        exact ⟨srt_intL _, soI ss2, rfl, o3, by omega, ih _ ⟨_, _, _, _, _, rfl⟩⟩
      · rintro i hi e ⟨p5, rfl, hp5⟩ A hA
        dsimp? [sp__law_draw]
        exact ⟨hp5, by decide, by decide, fun p6 t hp6 t0 t1 => hA _ _ ⟨_, rfl, by omega, by omega⟩ ⟨_, rfl, hp6⟩⟩
    by_cases h60 : 60 < mx
    · rw [if_pos h60]
      refine ⟨by decide, by decide, by decide, by decide, ?_⟩
      exact main [(2, 0), (4, 1), (4, 3)] gm_fix
    · rw [if_neg h60]
      refine main cs ⟨fun c hc => ⟨c1 c hc, by have := hle c.1 (List.mem_map.mpr ⟨c, hc, rfl⟩); omega⟩, c3, c2, c4.1.1, ?_, c4.1.2.1 _ (rnd_spec cs 1 (by decide) fun c hc => (c1 c hc).1).2.2.1⟩
      obtain ⟨l, rfl⟩ := c4.2.1
      have nd := apart_nd c4.1.1
      exact sort_clt ((List.mergeSort_perm l cle).nodup_iff.mp nd)
end Dl
end L2

namespace L2
namespace Dl
namespace K63
open PySem PySem.Spec PyProof.Rows L2H
def topS (i : Nat) : Stmt := PySem.Challenge.pw_coverclocks_k63_exact_clocks_by_steps.main.body.getD i (.Pass ⟨0, 0, 0, 0⟩)
abbrev s_rings : Stmt := topS 1
abbrev N_rings : List Str := ["clock", "number"]
theorem sc_rings : FnScope N_rings ["clock", "number"] (defScope s_rings) := ⟨rfl, rfl, rfl, by decide +kernel, rfl, by decide +kernel, by decide +kernel⟩
abbrev s_rings_at : Stmt := topS 2
abbrev N_rings_at : List Str := ["clocks", "number", "clock"]
theorem sc_rings_at : FnScope N_rings_at ["clocks", "number"] (defScope s_rings_at) := ⟨rfl, rfl, rfl, by decide +kernel, rfl, by decide +kernel, by decide +kernel⟩
abbrev s_divisor_of : Stmt := topS 3
abbrev N_divisor_of : List Str := ["one", "other"]
theorem sc_divisor_of : FnScope N_divisor_of ["one", "other"] (defScope s_divisor_of) := ⟨rfl, rfl, rfl, by decide +kernel, rfl, by decide +kernel, by decide +kernel⟩
abbrev s_round_of : Stmt := topS 4
abbrev N_round_of : List Str := ["clocks", "found", "step", "rest"]
theorem sc_round_of : FnScope N_round_of ["clocks"] (defScope s_round_of) := ⟨rfl, rfl, rfl, by decide +kernel, rfl, by decide +kernel, by decide +kernel⟩
abbrev s_back_of : Stmt := topS 5
abbrev N_back_of : List Str := ["one", "other", "before", "now", "left", "right", "often"]
theorem sc_back_of : FnScope N_back_of ["one", "other"] (defScope s_back_of) := ⟨rfl, rfl, rfl, by decide +kernel, rfl, by decide +kernel, by decide +kernel⟩
abbrev s_meet_of : Stmt := topS 6
abbrev N_meet_of : List Str := ["one", "other", "share", "step", "turns"]
theorem sc_meet_of : FnScope N_meet_of ["one", "other"] (defScope s_meet_of) := ⟨rfl, rfl, rfl, by decide +kernel, rfl, by decide +kernel, by decide +kernel⟩
abbrev s_shares_of : Stmt := topS 8
abbrev N_shares_of : List Str := ["clocks", "bottom", "top", "share", "step", "rest"]
theorem sc_shares_of : FnScope N_shares_of ["clocks"] (defScope s_shares_of) := ⟨rfl, rfl, rfl, by decide +kernel, rfl, by decide +kernel, by decide +kernel⟩
abbrev s_steps_of : Stmt := topS 10
abbrev N_steps_of : List Str := ["n", "step"]
theorem sc_steps_of : FnScope N_steps_of ["n"] (defScope s_steps_of) := ⟨rfl, rfl, rfl, by decide +kernel, rfl, by decide +kernel, by decide +kernel⟩
abbrev s_fillings : Stmt := topS 11
abbrev N_fillings : List Str := ["n", "left", "found", "step", "clock", "own", "rest", "number", "more"]
theorem sc_fillings : FnScope N_fillings ["n", "left"] (defScope s_fillings) := ⟨rfl, rfl, rfl, by decide +kernel, rfl, by decide +kernel, by decide +kernel⟩
abbrev s_every_exact : Stmt := topS 12
abbrev N_every_exact : List Str := ["n", "clocks"]
theorem sc_every_exact : FnScope N_every_exact ["n"] (defScope s_every_exact) := ⟨rfl, rfl, rfl, by decide +kernel, rfl, by decide +kernel, by decide +kernel⟩
abbrev s_exact_of : Stmt := topS 13
abbrev N_exact_of : List Str := ["n"]
theorem sc_exact_of : FnScope N_exact_of ["n"] (defScope s_exact_of) := ⟨rfl, rfl, rfl, by decide +kernel, rfl, by decide +kernel, by decide +kernel⟩
abbrev s_exact_steps : Stmt := topS 14
abbrev N_exact_steps : List Str := ["n", "many", "clocks", "steps", "step", "rest"]
theorem sc_exact_steps : FnScope N_exact_steps ["n"] (defScope s_exact_steps) := ⟨rfl, rfl, rfl, by decide +kernel, rfl, by decide +kernel, by decide +kernel⟩
abbrev s_first_gap : Stmt := topS 15
abbrev N_first_gap : List Str := ["clocks", "number"]
theorem sc_first_gap : FnScope N_first_gap ["clocks"] (defScope s_first_gap) := ⟨rfl, rfl, rfl, by decide +kernel, rfl, by decide +kernel, by decide +kernel⟩
abbrev s_with_steps : Stmt := topS 16
abbrev N_with_steps : List Str := ["clocks", "steps", "number", "found", "step", "clock", "left", "other"]
theorem sc_with_steps : FnScope N_with_steps ["clocks", "steps"] (defScope s_with_steps) := ⟨rfl, rfl, rfl, by decide +kernel, rfl, by decide +kernel, by decide +kernel⟩
abbrev s_exact_with : Stmt := topS 17
abbrev N_exact_with : List Str := ["steps", "found", "step"]
theorem sc_exact_with : FnScope N_exact_with ["steps"] (defScope s_exact_with) := ⟨rfl, rfl, rfl, by decide +kernel, rfl, by decide +kernel, by decide +kernel⟩
abbrev s__law_cell_at : Stmt := topS 19
abbrev N__law_cell_at : List Str := ["script", "k"]
theorem sc__law_cell_at : FnScope N__law_cell_at ["script", "k"] (defScope s__law_cell_at) := ⟨rfl, rfl, rfl, by decide +kernel, rfl, by decide +kernel, by decide +kernel⟩
abbrev s__law_next : Stmt := topS 20
abbrev N__law_next : List Str := ["seed"]
theorem sc__law_next : FnScope N__law_next ["seed"] (defScope s__law_next) := ⟨rfl, rfl, rfl, by decide +kernel, rfl, by decide +kernel, by decide +kernel⟩
abbrev s__law_pen_of : Stmt := topS 21
abbrev N__law_pen_of : List Str := ["cell", "left"]
theorem sc__law_pen_of : FnScope N__law_pen_of ["cell"] (defScope s__law_pen_of) := ⟨rfl, rfl, rfl, by decide +kernel, rfl, by decide +kernel, by decide +kernel⟩
abbrev s__law_draw : Stmt := topS 22
abbrev N__law_draw : List Str := ["pen", "many", "found"]
theorem sc__law_draw : FnScope N__law_draw ["pen", "many"] (defScope s__law_draw) := ⟨rfl, rfl, rfl, by decide +kernel, rfl, by decide +kernel, by decide +kernel⟩
abbrev s__law_whole : Stmt := topS 23
abbrev N__law_whole : List Str := ["found"]
theorem sc__law_whole : FnScope N__law_whole ["found"] (defScope s__law_whole) := ⟨rfl, rfl, rfl, by decide +kernel, rfl, by decide +kernel, by decide +kernel⟩
abbrev s__law_parts_by : Stmt := topS 25
abbrev N__law_parts_by : List Str := ["pen", "least", "most", "clocks", "k", "step", "rest", "part"]
theorem sc__law_parts_by : FnScope N__law_parts_by ["pen", "least", "most"] (defScope s__law_parts_by) := ⟨rfl, rfl, rfl, by decide +kernel, rfl, by decide +kernel, by decide +kernel⟩
abbrev s__law_common : Stmt := topS 28
abbrev N__law_common : List Str := ["one", "other"]
theorem sc__law_common : FnScope N__law_common ["one", "other"] (defScope s__law_common) := ⟨rfl, rfl, rfl, by decide +kernel, rfl, by decide +kernel, by decide +kernel⟩
abbrev s__law_round : Stmt := topS 29
abbrev N__law_round : List Str := ["clocks", "found", "step", "rest"]
theorem sc__law_round : FnScope N__law_round ["clocks"] (defScope s__law_round) := ⟨rfl, rfl, rfl, by decide +kernel, rfl, by decide +kernel, by decide +kernel⟩
abbrev s__law_exact : Stmt := topS 30
abbrev N__law_exact : List Str := ["clocks", "size", "place", "other", "share", "step", "rest"]
theorem sc__law_exact : FnScope N__law_exact ["clocks"] (defScope s__law_exact) := ⟨rfl, rfl, rfl, by decide +kernel, rfl, by decide +kernel, by decide +kernel⟩
abbrev s__law_all_with : Stmt := topS 31
abbrev N__law_all_with : List Str := ["steps", "clocks", "step", "found", "rest", "good", "own", "other"]
theorem sc__law_all_with : FnScope N__law_all_with ["steps", "clocks"] (defScope s__law_all_with) := ⟨rfl, rfl, rfl, by decide +kernel, rfl, by decide +kernel, by decide +kernel⟩
abbrev s__law_right : Stmt := topS 32
abbrev N__law_right : List Str := ["made", "steps", "found", "step", "rest"]
theorem sc__law_right : FnScope N__law_right ["made"] (defScope s__law_right) := ⟨rfl, rfl, rfl, by decide +kernel, rfl, by decide +kernel, by decide +kernel⟩
abbrev s__law_steps_right : Stmt := topS 33
abbrev N__law_steps_right : List Str := ["n", "due", "clocks", "steps", "turn", "found", "step", "rest", "one"]
theorem sc__law_steps_right : FnScope N__law_steps_right ["n"] (defScope s__law_steps_right) := ⟨rfl, rfl, rfl, by decide +kernel, rfl, by decide +kernel, by decide +kernel⟩
abbrev s__law_none_right : Stmt := topS 34
abbrev N__law_none_right : List Str := ["steps", "size", "step"]
theorem sc__law_none_right : FnScope N__law_none_right ["steps"] (defScope s__law_none_right) := ⟨rfl, rfl, rfl, by decide +kernel, rfl, by decide +kernel, by decide +kernel⟩
abbrev s_law : Stmt := topS 35
abbrev N_law : List Str := ["script", "cell", "pen", "made", "steps", "some", "step", "rest", "turn"]
theorem sc_law : FnScope N_law ["script"] (defScope s_law) := ⟨rfl, rfl, rfl, by decide +kernel, rfl, by decide +kernel, by decide +kernel⟩
structure Zs (mg : Str → Option Value) : Prop where
  all_ : mg "all" = none
  bool : mg "bool" = none
  int_ : mg "int" = none
  isinstance : mg "isinstance" = none
  len : mg "len" = none
  list_ : mg "list" = none
  max_ : mg "max" = none
  min_ : mg "min" = none
  range_ : mg "range" = none
  set_ : mg "set" = none
  sorted : mg "sorted" = none
  sum_ : mg "sum" = none
  tuple : mg "tuple" = none
section
variable {P : Program} {w : World} {K : PySem.W.Frag} {mg : Str → Option Value} {base : Heap}
theorem ok_rings {f : Addr} {fd : FuncData} (F : Fun K "rings" "rings" s_rings f fd) (Z : Zs mg)  : FnOk P w K mg base (L2N.CX P w) 1 f fd ["clock", "number"] (low K mg 2 sp_rings) := by
  refine def_ok (N := N_rings) (ps := ["clock", "number"]) F sc_rings (ls := []) (wb := w_rings) (fun cdv A outer s H E B hr hB hL tk hp => ?_) vc_rings
  have nd := sc_rings.nd
  have hu := hr.u65
  have hu7 := hr.u67
  exact (dss_one (ds_ret (de_cmp (dop_eq hu) (de_op dop_mod (dv 1) (de_ix (dv 0) de_int)) (de_ix (dv 0) de_int))))
theorem ok_rings_at {f : Addr} {fd : FuncData} (F : Fun K "rings_at" "rings_at" s_rings_at f fd) (Z : Zs mg) (c_rings : Cal P w K mg base 1 "rings" 2 sp_rings) : FnOk P w K mg base (L2N.CX P w) 2 f fd ["clocks", "number"] (low K mg 2 sp_rings_at) := by
  refine def_ok (N := N_rings_at) (ps := ["clocks", "number"]) F sc_rings_at (ls := []) (wb := w_rings_at) (fun cdv A outer s H E B hr hB hL tk hp => ?_) vc_rings_at
  have nd := sc_rings_at.nd
  have hu := hr.u65
  have hu7 := hr.u67
  exact (dss_one (ds_ret (de_lc (own := [("clock", 2)]) (di_seq (dv 0)) (blkOk_by (N := N_rings_at) (sc := defScope s_rings_at) (by decide +kernel)) (by decide) (nls hL (by decide)) nd (fun _ _ _ _ _ => (dg_name 2 (nl hL (by decide)) nd)) (fun _ _ _ _ _ => (dts_one (dt_val (de_call c_rings hr hB tk0 (dm_cons (dv 2) (dm_cons (dv 1) dm_nil)))))) (fun _ _ _ _ _ => (dv 2)))))
theorem ok_divisor_of {f : Addr} {fd : FuncData} (F : Fun K "divisor_of" "divisor_of" s_divisor_of f fd) (Z : Zs mg)  : FnOk P w K mg base (L2N.CX P w) 1 f fd ["one", "other"] (low K mg 2 sp_divisor_of) := by
  refine def_ok (N := N_divisor_of) (ps := ["one", "other"]) F sc_divisor_of (ls := []) (wb := w_divisor_of) (fun cdv A outer s H E B hr hB hL tk hp => ?_) vc_divisor_of
  have nd := sc_divisor_of.nd
  have hu := hr.u65
  have hu7 := hr.u67
  exact (dss_cons (ds_while hp (dt_cmp (dop_gt hu) (dv 1) de_int) (dss_one (ds_par 0 1 (df_cons (dv 1) (df_cons (de_op dop_mod (dv 0) (dv 1)) df_nil)) (nl hL (by decide)) (nl hL (by decide)) nd)))
      (dss_one (ds_ret (dv 0))))
theorem ok_round_of {f : Addr} {fd : FuncData} (F : Fun K "round_of" "round_of" s_round_of f fd) (Z : Zs mg) (c_divisor_of : Cal P w K mg base 1 "divisor_of" 2 sp_divisor_of) : FnOk P w K mg base (L2N.CX P w) 2 f fd ["clocks"] (low K mg 1 sp_round_of) := by
  refine def_ok (N := N_round_of) (ps := ["clocks"]) F sc_round_of (ls := []) (wb := w_round_of) (fun cdv A outer s H E B hr hB hL tk hp => ?_) vc_round_of
  have nd := sc_round_of.nd
  have hu := hr.u65
  have hu7 := hr.u67
  exact (dss_cons (ds_set 1 de_int (nl hL (by decide)) nd)
      (dss_cons (ds_for hp (di_seq (dv 0)) (dg_tup rfl (dgs_cons (dg_name 2 (nl hL (by decide)) nd) (dgs_cons (dg_name 3 (nl hL (by decide)) nd) dgs_nil))) (dss_one (ds_set 1 (de_op dop_fdiv (de_op dop_mul (dv 1) (dv 2)) (de_call c_divisor_of hr hB tk (dm_cons (dv 1) (dm_cons (dv 2) dm_nil)))) (nl hL (by decide)) nd)))
      (dss_one (ds_ret (dv 1)))))
theorem ok_back_of {f : Addr} {fd : FuncData} (F : Fun K "back_of" "back_of" s_back_of f fd) (Z : Zs mg)  : FnOk P w K mg base (L2N.CX P w) 1 f fd ["one", "other"] (low K mg 2 sp_back_of) := by
  refine def_ok (N := N_back_of) (ps := ["one", "other"]) F sc_back_of (ls := []) (wb := w_back_of) (fun cdv A outer s H E B hr hB hL tk hp => ?_) vc_back_of
  have nd := sc_back_of.nd
  have hu := hr.u65
  have hu7 := hr.u67
  exact (dss_cons (ds_asgT (de_tup (df_cons de_int (df_cons de_int df_nil))) (dg_tup rfl (dgs_cons (dg_name 2 (nl hL (by decide)) nd) (dgs_cons (dg_name 3 (nl hL (by decide)) nd) dgs_nil))))
      (dss_cons (ds_par 4 5 (df_cons (dv 1) (df_cons (de_op dop_mod (dv 0) (dv 1)) df_nil)) (nl hL (by decide)) (nl hL (by decide)) nd)
      (dss_cons (ds_while hp (dt_cmp (dop_gt hu) (dv 5) de_int) (dss_cons (ds_set 6 (de_op dop_fdiv (dv 4) (dv 5)) (nl hL (by decide)) nd)
      (dss_cons (ds_par 2 3 (df_cons (dv 3) (df_cons (de_op dop_sub (dv 2) (de_op dop_mul (dv 6) (dv 3))) df_nil)) (nl hL (by decide)) (nl hL (by decide)) nd)
      (dss_one (ds_par 4 5 (df_cons (dv 5) (df_cons (de_op dop_sub (dv 4) (de_op dop_mul (dv 6) (dv 5))) df_nil)) (nl hL (by decide)) (nl hL (by decide)) nd)))))
      (dss_one (ds_ret (de_op dop_mod (dv 2) (dv 1)))))))
theorem ok_meet_of {f : Addr} {fd : FuncData} (F : Fun K "meet_of" "meet_of" s_meet_of f fd) (Z : Zs mg) (c_divisor_of : Cal P w K mg base 1 "divisor_of" 2 sp_divisor_of) (c_back_of : Cal P w K mg base 1 "back_of" 2 sp_back_of) : FnOk P w K mg base (L2N.CX P w) 2 f fd ["one", "other"] (low K mg 2 sp_meet_of) := by
  refine def_ok (N := N_meet_of) (ps := ["one", "other"]) F sc_meet_of (ls := []) (wb := w_meet_of) (fun cdv A outer s H E B hr hB hL tk hp => ?_) vc_meet_of
  have nd := sc_meet_of.nd
  have hu := hr.u65
  have hu7 := hr.u67
  exact (dss_cons (ds_set 2 (de_call c_divisor_of hr hB tk (dm_cons (de_ix (dv 0) de_int) (dm_cons (de_ix (dv 1) de_int) dm_nil))) (nl hL (by decide)) nd)
      (dss_cons (ds_if (dt_cmp (dop_ne hu) (de_op dop_mod (de_op dop_sub (de_ix (dv 1) de_int) (de_ix (dv 0) de_int)) (dv 2)) de_int) (dss_one (ds_ret de_non)) dss_nil)
      (dss_cons (ds_set 3 (de_op dop_mul (de_op dop_fdiv (de_ix (dv 0) de_int) (dv 2)) (de_ix (dv 1) de_int)) (nl hL (by decide)) nd)
      (dss_cons (ds_set 4 (de_op dop_mul (de_op dop_fdiv (de_op dop_sub (de_ix (dv 1) de_int) (de_ix (dv 0) de_int)) (dv 2)) (de_call c_back_of hr hB tk (dm_cons (de_op dop_fdiv (de_ix (dv 0) de_int) (dv 2)) (dm_cons (de_op dop_fdiv (de_ix (dv 1) de_int) (dv 2)) dm_nil)))) (nl hL (by decide)) nd)
      (dss_one (ds_ret (de_tup (df_cons (dv 3) (df_cons (de_op dop_mod (de_op dop_add (de_ix (dv 0) de_int) (de_op dop_mul (de_ix (dv 0) de_int) (dv 4))) (dv 3)) df_nil)))))))))
theorem ok_shares_of {f : Addr} {fd : FuncData} (F : Fun K "shares_of" "shares_of" s_shares_of f fd) (Z : Zs mg) (c_round_of : Cal P w K mg base 2 "round_of" 1 sp_round_of) (c_divisor_of : Cal P w K mg base 2 "divisor_of" 2 sp_divisor_of) : FnOk P w K mg base (L2N.CX P w) 3 f fd ["clocks"] (low K mg 1 sp_shares_of) := by
  refine def_ok (N := N_shares_of) (ps := ["clocks"]) F sc_shares_of (ls := []) (wb := w_shares_of) (fun cdv A outer s H E B hr hB hL tk hp => ?_) vc_shares_of
  have nd := sc_shares_of.nd
  have hu := hr.u65
  have hu7 := hr.u67
  exact (dss_cons (ds_set 1 (de_call c_round_of hr hB tk (dm_cons (dv 0) dm_nil)) (nl hL (by decide)) nd)
      (dss_cons (ds_set 2 (de_callB (dcl_sum rfl) (da_cons (de_lc (own := [("step", 4), ("rest", 5)]) (di_seq (dv 0)) (blkOk_by (N := N_shares_of) (sc := defScope s_shares_of) (by decide +kernel)) (by decide) (nls hL (by decide)) nd (fun _ _ _ _ _ => (dg_tup rfl (dgs_cons (dg_name 4 (nl hL (by decide)) nd) (dgs_cons (dg_name 5 (nl hL (by decide)) nd) dgs_nil)))) (fun _ _ _ _ _ => dts_nil) (fun _ _ _ _ _ => (de_op dop_fdiv (dv 1) (dv 4)))) da_nil) (by rfl) Z.sum_ bt_sum) (nl hL (by decide)) nd)
      (dss_cons (ds_set 3 (de_call c_divisor_of hr hB tk (dm_cons (dv 1) (dm_cons (dv 2) dm_nil))) (nl hL (by decide)) nd)
      (dss_one (ds_ret (de_tup (df_cons (de_op dop_fdiv (dv 2) (dv 3)) (df_cons (de_op dop_fdiv (dv 1) (dv 3)) df_nil))))))))
theorem ok_steps_of {f : Addr} {fd : FuncData} (F : Fun K "steps_of" "steps_of" s_steps_of f fd) (Z : Zs mg)  : FnOk P w K mg base (L2N.CX P w) 1 f fd ["n"] (low K mg 1 sp_steps_of) := by
  refine def_ok (N := N_steps_of) (ps := ["n"]) F sc_steps_of (ls := []) (wb := w_steps_of) (fun cdv A outer s H E B hr hB hL tk hp => ?_) vc_steps_of
  have nd := sc_steps_of.nd
  have hu := hr.u65
  have hu7 := hr.u67
  exact (dss_one (ds_ret (de_lc (own := [("step", 1)]) (di_rng2 de_int (de_op dop_add (dv 0) de_int) (by rfl) Z.range_) (blkOk_by (N := N_steps_of) (sc := defScope s_steps_of) (by decide +kernel)) (by decide) (nls hL (by decide)) nd (fun _ _ _ _ _ => (dg_name 1 (nl hL (by decide)) nd)) (fun _ _ _ _ _ => (dts_one (dt_cmp (dop_eq hu) (de_op dop_mod (dv 0) (dv 1)) de_int))) (fun _ _ _ _ _ => (dv 1)))))
theorem ok_fillings (n k : Nat) {f : Addr} {fd : FuncData} (F : Fun K "fillings" "fillings" s_fillings f fd) (Z : Zs mg) (c_steps_of : Cal P w K mg base k "steps_of" 1 sp_steps_of) (c_fillings : Cal P w K mg base k "fillings" 2 (sp_fillings n)) : FnOk P w K mg base (L2N.CX P w) (k + 1) f fd ["n", "left"] (low K mg 2 (sp_fillings (n + 1))) := by
  refine def_ok (N := N_fillings) (ps := ["n", "left"]) F sc_fillings (ls := []) (wb := w_fillings n) (fun cdv A outer s H E B hr hB hL tk hp => ?_) (vc_fillings n)
  have nd := sc_fillings.nd
  have hu := hr.u65
  have hu7 := hr.u67
  exact (dss_cons (ds_if (dt_cmp (dop_eq hu) (dv 1) (de_tup df_nil)) (dss_one (ds_ret (de_lst (df_cons (de_tup df_nil) df_nil)))) dss_nil)
      (dss_cons (ds_set 2 (de_lst df_nil) (nl hL (by decide)) nd)
      (dss_cons (ds_for hp (di_seq (de_call c_steps_of hr hB tk (dm_cons (dv 0) dm_nil))) (dg_name 3 (nl hL (by decide)) nd) (dss_cons (ds_set 4 (de_tup (df_cons (dv 3) (df_cons (de_op dop_mod (de_ix (dv 1) de_int) (dv 3)) df_nil))) (nl hL (by decide)) nd)
      (dss_cons (ds_set 5 (de_lc (own := [("number", 7)]) (di_rng3 (df_cons (de_ix (dv 4) de_int) (df_cons (dv 0) (df_cons (dv 3) df_nil))) (by rfl) Z.range_) (blkOk_by (N := N_fillings) (sc := defScope s_fillings) (by decide +kernel)) (by decide) (nls hL (by decide)) nd (fun _ _ _ _ _ => (dg_name 7 (nl hL (by decide)) nd)) (fun _ _ _ _ _ => dts_nil) (fun _ _ _ _ _ => (dv 7))) (nl hL (by decide)) nd)
      (dss_one (ds_if (dt_val (de_callB (dcl_all rfl) (da_cons (de_lc (own := [("number", 7)]) (di_seq (dv 5)) (blkOk_by (N := N_fillings) (sc := defScope s_fillings) (by decide +kernel)) (by decide) (nls hL (by decide)) nd (fun _ _ _ _ _ => (dg_name 7 (nl hL (by decide)) nd)) (fun _ _ _ _ _ => dts_nil) (fun _ _ _ _ _ => (de_cmp (dop_in hu) (dv 7) (dv 1)))) da_nil) (by rfl) Z.all_ bt_all)) (dss_cons (ds_set 6 (de_callTy dcl_tuple (da_cons (de_lc (own := [("number", 7)]) (di_seq (dv 1)) (blkOk_by (N := N_fillings) (sc := defScope s_fillings) (by decide +kernel)) (by decide) (nls hL (by decide)) nd (fun _ _ _ _ _ => (dg_name 7 (nl hL (by decide)) nd)) (fun _ _ _ _ _ => (dts_one (dt_cmp (dop_notIn hu) (dv 7) (dv 5)))) (fun _ _ _ _ _ => (dv 7))) da_nil) (by rfl) Z.tuple bt_tuple) (nl hL (by decide)) nd)
      (dss_one (ds_expr (de_extend 2 (de_lc (own := [("more", 8)]) (di_seq (de_call c_fillings hr hB tk (dm_cons (dv 0) (dm_cons (dv 6) dm_nil)))) (blkOk_by (N := N_fillings) (sc := defScope s_fillings) (by decide +kernel)) (by decide) (nls hL (by decide)) nd (fun _ _ _ _ _ => (dg_name 8 (nl hL (by decide)) nd)) (fun _ _ _ _ _ => dts_nil) (fun _ _ _ _ _ => (de_op dop_add (de_tup (df_cons (dv 4) df_nil)) (dv 8)))))))) dss_nil)))))
      (dss_one (ds_ret (dv 2))))))
theorem ok_every_exact {f : Addr} {fd : FuncData} (F : Fun K "every_exact" "every_exact" s_every_exact f fd) (Z : Zs mg) (c_fillings : Cal P w K mg base 18 "fillings" 2 (sp_fillings 17)) : FnOk P w K mg base (L2N.CX P w) 19 f fd ["n"] (low K mg 1 sp_every_exact) := by
  refine def_ok (N := N_every_exact) (ps := ["n"]) F sc_every_exact (ls := []) (wb := w_every_exact) (fun cdv A outer s H E B hr hB hL tk hp => ?_) vc_every_exact
  have nd := sc_every_exact.nd
  have hu := hr.u65
  have hu7 := hr.u67
  exact (dss_one (ds_ret (de_callB (dcl_sorted hu7) (da_cons (de_lc (own := [("clocks", 1)]) (di_seq (de_call c_fillings hr hB tk (dm_cons (dv 0) (dm_cons (de_tupR1 rfl (by rfl) Z.tuple (by rfl) Z.range_ (dv 0)) dm_nil)))) (blkOk_by (N := N_every_exact) (sc := defScope s_every_exact) (by decide +kernel)) (by decide) (nls hL (by decide)) nd (fun _ _ _ _ _ => (dg_name 1 (nl hL (by decide)) nd)) (fun _ _ _ _ _ => dts_nil) (fun _ _ _ _ _ => (de_callTy dcl_tuple (da_cons (de_callB (dcl_sorted hu7) (da_cons (dv 1) da_nil) (by rfl) Z.sorted bt_sorted) da_nil) (by rfl) Z.tuple bt_tuple))) da_nil) (by rfl) Z.sorted bt_sorted)))
theorem ok_exact_of {f : Addr} {fd : FuncData} (F : Fun K "exact_of" "exact_of" s_exact_of f fd) (Z : Zs mg) (c_every_exact : Cal P w K mg base 19 "every_exact" 1 sp_every_exact) : FnOk P w K mg base (L2N.CX P w) 20 f fd ["n"] (low K mg 1 sp_exact_of) := by
  refine def_ok (N := N_exact_of) (ps := ["n"]) F sc_exact_of (ls := []) (wb := w_exact_of) (fun cdv A outer s H E B hr hB hL tk hp => ?_) vc_exact_of
  have nd := sc_exact_of.nd
  have hu := hr.u65
  have hu7 := hr.u67
  exact (dss_one (ds_ret (de_call c_every_exact hr hB tk (dm_cons (dv 0) dm_nil))))
theorem ok_exact_steps {f : Addr} {fd : FuncData} (F : Fun K "exact_steps" "exact_steps" s_exact_steps f fd) (Z : Zs mg) (c_every_exact : Cal P w K mg base 19 "every_exact" 1 sp_every_exact) : FnOk P w K mg base (L2N.CX P w) 20 f fd ["n"] (low K mg 1 sp_exact_steps) := by
  refine def_ok (N := N_exact_steps) (ps := ["n"]) F sc_exact_steps (ls := []) (wb := w_exact_steps) (fun cdv A outer s H E B hr hB hL tk hp => ?_) vc_exact_steps
  have nd := sc_exact_steps.nd
  have hu := hr.u65
  have hu7 := hr.u67
  exact (dss_cons (ds_newD 1 (nl hL (by decide)) nd)
      (dss_cons (ds_for hp (di_seq (de_call c_every_exact hr hB tk (dm_cons (dv 0) dm_nil))) (dg_name 2 (nl hL (by decide)) nd) (dss_cons (ds_set 3 (de_callTy dcl_tuple (da_cons (de_lc (own := [("step", 4), ("rest", 5)]) (di_seq (dv 2)) (blkOk_by (N := N_exact_steps) (sc := defScope s_exact_steps) (by decide +kernel)) (by decide) (nls hL (by decide)) nd (fun _ _ _ _ _ => (dg_tup rfl (dgs_cons (dg_name 4 (nl hL (by decide)) nd) (dgs_cons (dg_name 5 (nl hL (by decide)) nd) dgs_nil)))) (fun _ _ _ _ _ => dts_nil) (fun _ _ _ _ _ => (dv 4))) da_nil) (by rfl) Z.tuple bt_tuple) (nl hL (by decide)) nd)
      (dss_one (ds_putD 1 hu (de_op dop_add (de_getD 1 hu (dv 3) de_int ⟨rfl, rfl, rfl, rfl⟩) de_int) (dv 3)))))
      (dss_one (ds_ret (de_callB (dcl_sorted hu7) (da_cons (de_itemsD 1 rfl (by rfl) Z.list_) da_nil) (by rfl) Z.sorted bt_sorted)))))
theorem ok_first_gap {f : Addr} {fd : FuncData} (F : Fun K "first_gap" "first_gap" s_first_gap f fd) (Z : Zs mg) (c_rings_at : Cal P w K mg base 2 "rings_at" 2 sp_rings_at) : FnOk P w K mg base (L2N.CX P w) 3 f fd ["clocks"] (low K mg 1 sp_first_gap) := by
  refine def_ok (N := N_first_gap) (ps := ["clocks"]) F sc_first_gap (ls := []) (wb := w_first_gap) (fun cdv A outer s H E B hr hB hL tk hp => ?_) vc_first_gap
  have nd := sc_first_gap.nd
  have hu := hr.u65
  have hu7 := hr.u67
  exact (dss_cons (ds_set 1 de_int (nl hL (by decide)) nd)
      (dss_cons (ds_while hp (dt_cmp (dop_ne hu) (de_call c_rings_at hr hB tk (dm_cons (dv 0) (dm_cons (dv 1) dm_nil))) (de_lst df_nil)) (dss_one (ds_aug 1 ip_add de_int (nl hL (by decide)) nd)))
      (dss_one (ds_ret (dv 1)))))
theorem ok_with_steps (n k : Nat) {f : Addr} {fd : FuncData} (F : Fun K "with_steps" "with_steps" s_with_steps f fd) (Z : Zs mg) (c_first_gap : Cal P w K mg base k "first_gap" 1 sp_first_gap) (c_meet_of : Cal P w K mg base k "meet_of" 2 sp_meet_of) (c_with_steps : Cal P w K mg base k "with_steps" 2 (sp_with_steps n)) : FnOk P w K mg base (L2N.CX P w) (k + 1) f fd ["clocks", "steps"] (low K mg 2 (sp_with_steps (n + 1))) := by
  refine def_ok (N := N_with_steps) (ps := ["clocks", "steps"]) F sc_with_steps (ls := []) (wb := w_with_steps n) (fun cdv A outer s H E B hr hB hL tk hp => ?_) (vc_with_steps n)
  have nd := sc_with_steps.nd
  have hu := hr.u65
  have hu7 := hr.u67
  exact (dss_cons (ds_if (dt_cmp (dop_eq hu) (dv 1) (de_lst df_nil)) (dss_one (ds_ret (de_lst (df_cons (de_callTy dcl_tuple (da_cons (de_callB (dcl_sorted hu7) (da_cons (dv 0) da_nil) (by rfl) Z.sorted bt_sorted) da_nil) (by rfl) Z.tuple bt_tuple) df_nil)))) dss_nil)
      (dss_cons (ds_set 2 (de_call c_first_gap hr hB tk (dm_cons (dv 0) dm_nil)) (nl hL (by decide)) nd)
      (dss_cons (ds_set 3 (de_lst df_nil) (nl hL (by decide)) nd)
      (dss_cons (ds_for hp (di_seq (de_sortSetJ rfl (by rfl) Z.sorted (by rfl) Z.set_ (dv 1))) (dg_name 4 (nl hL (by decide)) nd) (dss_cons (ds_set 5 (de_tup (df_cons (dv 4) (df_cons (de_op dop_mod (dv 2) (dv 4)) df_nil))) (nl hL (by decide)) nd)
      (dss_one (ds_if (dt_val (de_callB (dcl_all rfl) (da_cons (de_lc (own := [("other", 7)]) (di_seq (dv 0)) (blkOk_by (N := N_with_steps) (sc := defScope s_with_steps) (by decide +kernel)) (by decide) (nls hL (by decide)) nd (fun _ _ _ _ _ => (dg_name 7 (nl hL (by decide)) nd)) (fun _ _ _ _ _ => dts_nil) (fun _ _ _ _ _ => (de_cmp dop_is (de_call c_meet_of hr hB tk0 (dm_cons (dv 5) (dm_cons (dv 7) dm_nil))) de_non))) da_nil) (by rfl) Z.all_ bt_all)) (dss_cons (ds_set 6 (de_callTy dcl_list (da_cons (dv 1) da_nil) (by rfl) Z.list_ bt_list) (nl hL (by decide)) nd)
      (dss_cons (ds_expr (de_remove 6 (dv 4)))
      (dss_one (ds_expr (de_extend 3 (de_call c_with_steps hr hB tk (dm_cons (de_op dop_add (dv 0) (de_lst (df_cons (dv 5) df_nil))) (dm_cons (dv 6) dm_nil)))))))) dss_nil))))
      (dss_one (ds_ret (dv 3)))))))
theorem ok_exact_with {f : Addr} {fd : FuncData} (F : Fun K "exact_with" "exact_with" s_exact_with f fd) (Z : Zs mg) (c_shares_of : Cal P w K mg base 14 "shares_of" 1 sp_shares_of) (c_with_steps : Cal P w K mg base 14 "with_steps" 2 (sp_with_steps 11)) : FnOk P w K mg base (L2N.CX P w) 15 f fd ["steps"] (low K mg 1 sp_exact_with) := by
  refine def_ok (N := N_exact_with) (ps := ["steps"]) F sc_exact_with (ls := []) (wb := w_exact_with) (fun cdv A outer s H E B hr hB hL tk hp => ?_) vc_exact_with
  have nd := sc_exact_with.nd
  have hu := hr.u65
  have hu7 := hr.u67
  exact (dss_cons (ds_if (dt_cmp (dop_ne hu) (de_call c_shares_of hr hB tk (dm_cons (de_lc (own := [("step", 2)]) (di_seq (dv 0)) (blkOk_by (N := N_exact_with) (sc := defScope s_exact_with) (by decide +kernel)) (by decide) (nls hL (by decide)) nd (fun _ _ _ _ _ => (dg_name 2 (nl hL (by decide)) nd)) (fun _ _ _ _ _ => dts_nil) (fun _ _ _ _ _ => (de_tup (df_cons (dv 2) (df_cons de_int df_nil))))) dm_nil)) (de_tup (df_cons de_int (df_cons de_int df_nil)))) (dss_one (ds_ret de_non)) dss_nil)
      (dss_cons (ds_set 1 (de_call c_with_steps hr hB tk (dm_cons (de_lst df_nil) (dm_cons (de_callTy dcl_list (da_cons (dv 0) da_nil) (by rfl) Z.list_ bt_list) dm_nil))) (nl hL (by decide)) nd)
      (dss_cons (ds_if (dt_cmp (dop_eq hu) (dv 1) (de_lst df_nil)) (dss_one (ds_ret de_non)) dss_nil)
      (dss_one (ds_ret (de_callB (dcl_minL rfl hu7) (da_cons (dv 1) da_nil) (by rfl) Z.min_ bt_min))))))
theorem ok__law_cell_at {f : Addr} {fd : FuncData} (F : Fun K "_law_cell_at" "_law_cell_at" s__law_cell_at f fd) (Z : Zs mg)  : FnOk P w K mg base (L2N.CX P w) 1 f fd ["script", "k"] (low K mg 2 sp__law_cell_at) := by
  refine def_ok (N := N__law_cell_at) (ps := ["script", "k"]) F sc__law_cell_at (ls := []) (wb := w__law_cell_at) (fun cdv A outer s H E B hr hB hL tk hp => ?_) vc__law_cell_at
  have nd := sc__law_cell_at.nd
  have hu := hr.u65
  have hu7 := hr.u67
  exact (dss_cons (ds_if (dt_cmp (dop_lt hu) (dv 1) (de_callB dcl_len (da_cons (dv 0) da_nil) (by rfl) Z.len bt_len)) (dss_one (ds_ret (de_ix (dv 0) (dv 1)))) dss_nil)
      (dss_one (ds_ret de_int)))
theorem ok__law_next {f : Addr} {fd : FuncData} (F : Fun K "_law_next" "_law_next" s__law_next f fd) (Z : Zs mg)  : FnOk P w K mg base (L2N.CX P w) 1 f fd ["seed"] (low K mg 1 sp__law_next) := by
  refine def_ok (N := N__law_next) (ps := ["seed"]) F sc__law_next (ls := []) (wb := w__law_next) (fun cdv A outer s H E B hr hB hL tk hp => ?_) vc__law_next
  have nd := sc__law_next.nd
  have hu := hr.u65
  have hu7 := hr.u67
  exact (dss_cons (ds_set 0 (de_op dop_mod (de_op dop_add (dv 0) de_int) de_int) (nl hL (by decide)) nd)
      (dss_one (ds_ret (de_op dop_mod (de_op dop_add (de_op dop_add (de_op dop_mul (dv 0) (dv 0)) (de_op dop_mul de_int (dv 0))) de_int) de_int))))
theorem ok__law_pen_of {f : Addr} {fd : FuncData} (F : Fun K "_law_pen_of" "_law_pen_of" s__law_pen_of f fd) (Z : Zs mg)  : FnOk P w K mg base (L2N.CX P w) 1 f fd ["cell"] (low K mg 1 sp__law_pen_of) := by
  refine def_ok (N := N__law_pen_of) (ps := ["cell"]) F sc__law_pen_of (ls := []) (wb := w__law_pen_of) (fun cdv A outer s H E B hr hB hL tk hp => ?_) vc__law_pen_of
  have nd := sc__law_pen_of.nd
  have hu := hr.u65
  have hu7 := hr.u67
  exact (dss_cons (ds_set 1 (de_callB (dcl_max rfl) (da_cons (dv 0) (da_cons (de_op dop_sub de_int (dv 0)) da_nil)) (by rfl) Z.max_ bt_max) (nl hL (by decide)) nd)
      (dss_one (ds_ret (de_lst (df_cons (dv 1) (df_cons (de_callTy dcl_int (da_cons (de_cmp (dop_ge hu) (dv 1) (de_op dop_pow de_int de_int)) da_nil) (by rfl) Z.int_ bt_int) (df_cons (de_op dop_mod (dv 1) de_int) df_nil)))))))
theorem ok__law_draw {f : Addr} {fd : FuncData} (F : Fun K "_law_draw" "_law_draw" s__law_draw f fd) (Z : Zs mg) (c__law_next : Cal P w K mg base 1 "_law_next" 1 sp__law_next) : FnOk P w K mg base (L2N.CX P w) 2 f fd ["pen", "many"] (low K mg 2 sp__law_draw) := by
  refine def_ok (N := N__law_draw) (ps := ["pen", "many"]) F sc__law_draw (ls := [0]) (wb := w__law_draw) (fun cdv A outer s H E B hr hB hL tk hp => ?_) vc__law_draw
  have nd := sc__law_draw.nd
  have hu := hr.u65
  have hu7 := hr.u67
  exact (dss_cons (ds_if (dt_cmp (dop_eq hu) (de_ix (dv 0) de_int) de_int) (dss_cons (ds_set 2 (de_op dop_mod (de_ix (dv 0) de_int) (dv 1)) (nl hL (by decide)) nd)
      (dss_cons (ds_setIx 0 (de_op dop_fdiv (de_ix (dv 0) de_int) (dv 1)) de_int)
      (dss_one (ds_ret (dv 2))))) dss_nil)
      (dss_cons (ds_setIx 0 (de_call c__law_next hr hB tk (dm_cons (de_op dop_add (de_call c__law_next hr hB tk (dm_cons (de_ix (dv 0) de_int) dm_nil)) de_int) dm_nil)) de_int)
      (dss_one (ds_ret (de_op dop_mod (de_op dop_fdiv (de_ix (dv 0) de_int) de_int) (dv 1))))))
theorem ok__law_whole {f : Addr} {fd : FuncData} (F : Fun K "_law_whole" "_law_whole" s__law_whole f fd) (Z : Zs mg)  : FnOk P w K mg base (L2N.CX P w) 1 f fd ["found"] (low K mg 1 sp__law_whole) := by
  refine def_ok (N := N__law_whole) (ps := ["found"]) F sc__law_whole (ls := []) (wb := w__law_whole) (fun cdv A outer s H E B hr hB hL tk hp => ?_) vc__law_whole
  have nd := sc__law_whole.nd
  have hu := hr.u65
  have hu7 := hr.u67
  exact (dss_one (ds_ret (de_and (de_isi (dv 0) (by rfl) Z.isinstance (by rfl) Z.int_ bt_int (by decide)) (de_one (de_not (de_isi (dv 0) (by rfl) Z.isinstance (by rfl) Z.bool bt_bool (by decide)))))))
theorem ok__law_parts_by {f : Addr} {fd : FuncData} (F : Fun K "_law_parts_by" "_law_parts_by" s__law_parts_by f fd) (Z : Zs mg) (c__law_draw : Cal P w K mg base 2 "_law_draw" 2 sp__law_draw) : FnOk P w K mg base (L2N.CX P w) 3 f fd ["pen", "least", "most"] (low K mg 3 sp__law_parts_by) := by
  refine def_ok (N := N__law_parts_by) (ps := ["pen", "least", "most"]) F sc__law_parts_by (ls := [0]) (wb := w__law_parts_by) (fun cdv A outer s H E B hr hB hL tk hp => ?_) vc__law_parts_by
  have nd := sc__law_parts_by.nd
  have hu := hr.u65
  have hu7 := hr.u67
  exact (dss_cons (ds_set 3 (de_lst (df_cons (de_tup (df_cons de_int (df_cons de_int df_nil))) df_nil)) (nl hL (by decide)) nd)
      (dss_cons (ds_while hp ((dw_or (dt_cmp (dop_lt hu) (de_callB dcl_len (da_cons (dv 3) da_nil) (by rfl) Z.len bt_len) (dv 1)) (dw_or1 ((dw_and (dt_cmp (dop_gt hu) (de_call c__law_draw hr hB tk (dm_lend 0 (dm_cons de_int dm_nil))) de_int) (dw_and1 (dt_cmp (dop_lt hu) (de_callB dcl_len (da_cons (dv 3) da_nil) (by rfl) Z.len bt_len) (dv 2))))).dt))).dt (dss_cons (ds_set 4 (de_ix (de_lst (df_cons de_int (df_cons de_int (df_cons de_int (df_cons de_int (df_cons de_int (df_cons de_int df_nil))))))) (de_call c__law_draw hr hB tk (dm_lend 0 (dm_cons de_int dm_nil)))) (nl hL (by decide)) nd)
      (dss_cons (ds_set 4 (de_callB (dcl_min rfl) (da_cons (dv 4) (da_cons (de_callB (dcl_max rfl) (da_cons de_int (da_cons (de_op dop_add (de_op dop_sub (dv 2) (de_callB dcl_len (da_cons (dv 3) da_nil) (by rfl) Z.len bt_len)) de_int) da_nil)) (by rfl) Z.max_ bt_max) da_nil)) (by rfl) Z.min_ bt_min) (nl hL (by decide)) nd)
      (dss_cons (ds_asgT (de_popAt 3 (de_call c__law_draw hr hB tk (dm_lend 0 (dm_cons (de_callB dcl_len (da_cons (dv 3) da_nil) (by rfl) Z.len bt_len) dm_nil)))) (dg_tup rfl (dgs_cons (dg_name 5 (nl hL (by decide)) nd) (dgs_cons (dg_name 6 (nl hL (by decide)) nd) dgs_nil))))
      (dss_cons (ds_if (dt_cmp (dop_gt hu) (de_op dop_mul (dv 5) (dv 4)) de_int) (dss_one (ds_ret (de_callB (dcl_sorted hu7) (da_cons (de_op dop_add (dv 3) (de_lst (df_cons (de_tup (df_cons (dv 5) (df_cons (dv 6) df_nil))) df_nil))) da_nil) (by rfl) Z.sorted bt_sorted))) dss_nil)
      (dss_one (ds_set 3 (de_op dop_add (dv 3) (de_lc (own := [("part", 7)]) (di_rng1 (dv 4) (by rfl) Z.range_) (blkOk_by (N := N__law_parts_by) (sc := defScope s__law_parts_by) (by decide +kernel)) (by decide) (nls hL (by decide)) nd (fun _ _ _ _ _ => (dg_name 7 (nl hL (by decide)) nd)) (fun _ _ _ _ _ => dts_nil) (fun _ _ _ _ _ => (de_tup (df_cons (de_op dop_mul (dv 5) (dv 4)) (df_cons (de_op dop_add (dv 6) (de_op dop_mul (dv 5) (dv 7))) df_nil)))))) (nl hL (by decide)) nd)))))))
      (dss_one (ds_ret (de_callB (dcl_sorted hu7) (da_cons (dv 3) da_nil) (by rfl) Z.sorted bt_sorted)))))
theorem ok__law_common {f : Addr} {fd : FuncData} (F : Fun K "_law_common" "_law_common" s__law_common f fd) (Z : Zs mg)  : FnOk P w K mg base (L2N.CX P w) 1 f fd ["one", "other"] (low K mg 2 sp__law_common) := by
  refine def_ok (N := N__law_common) (ps := ["one", "other"]) F sc__law_common (ls := []) (wb := w__law_common) (fun cdv A outer s H E B hr hB hL tk hp => ?_) vc__law_common
  have nd := sc__law_common.nd
  have hu := hr.u65
  have hu7 := hr.u67
  exact (dss_cons (ds_while hp (dt_cmp (dop_gt hu) (dv 1) de_int) (dss_one (ds_par 0 1 (df_cons (dv 1) (df_cons (de_op dop_mod (dv 0) (dv 1)) df_nil)) (nl hL (by decide)) (nl hL (by decide)) nd)))
      (dss_one (ds_ret (dv 0))))
theorem ok__law_round {f : Addr} {fd : FuncData} (F : Fun K "_law_round" "_law_round" s__law_round f fd) (Z : Zs mg) (c__law_common : Cal P w K mg base 1 "_law_common" 2 sp__law_common) : FnOk P w K mg base (L2N.CX P w) 2 f fd ["clocks"] (low K mg 1 sp__law_round_k03) := by
  refine def_ok (N := N__law_round) (ps := ["clocks"]) F sc__law_round (ls := []) (wb := w__law_round_k03) (fun cdv A outer s H E B hr hB hL tk hp => ?_) vc__law_round_k03
  have nd := sc__law_round.nd
  have hu := hr.u65
  have hu7 := hr.u67
  exact (dss_cons (ds_set 1 de_int (nl hL (by decide)) nd)
      (dss_cons (ds_for hp (di_seq (dv 0)) (dg_tup rfl (dgs_cons (dg_name 2 (nl hL (by decide)) nd) (dgs_cons (dg_name 3 (nl hL (by decide)) nd) dgs_nil))) (dss_one (ds_set 1 (de_op dop_mul (de_op dop_fdiv (dv 1) (de_call c__law_common hr hB tk (dm_cons (dv 1) (dm_cons (dv 2) dm_nil)))) (dv 2)) (nl hL (by decide)) nd)))
      (dss_one (ds_ret (dv 1)))))
theorem ok__law_exact {f : Addr} {fd : FuncData} (F : Fun K "_law_exact" "_law_exact" s__law_exact f fd) (Z : Zs mg) (c__law_round : Cal P w K mg base 2 "_law_round" 1 sp__law_round_k03) (c__law_common : Cal P w K mg base 2 "_law_common" 2 sp__law_common) : FnOk P w K mg base (L2N.CX P w) 3 f fd ["clocks"] (low K mg 1 sp__law_exact) := by
  refine def_ok (N := N__law_exact) (ps := ["clocks"]) F sc__law_exact (ls := []) (wb := w__law_exact) (fun cdv A outer s H E B hr hB hL tk hp => ?_) vc__law_exact
  have nd := sc__law_exact.nd
  have hu := hr.u65
  have hu7 := hr.u67
  exact (dss_cons (ds_set 1 (de_call c__law_round hr hB tk (dm_cons (dv 0) dm_nil)) (nl hL (by decide)) nd)
      (dss_cons (ds_if (dt_cmp (dop_ne hu) (de_callB (dcl_sum rfl) (da_cons (de_lc (own := [("step", 5), ("rest", 6)]) (di_seq (dv 0)) (blkOk_by (N := N__law_exact) (sc := defScope s__law_exact) (by decide +kernel)) (by decide) (nls hL (by decide)) nd (fun _ _ _ _ _ => (dg_tup rfl (dgs_cons (dg_name 5 (nl hL (by decide)) nd) (dgs_cons (dg_name 6 (nl hL (by decide)) nd) dgs_nil)))) (fun _ _ _ _ _ => dts_nil) (fun _ _ _ _ _ => (de_op dop_fdiv (dv 1) (dv 5)))) da_nil) (by rfl) Z.sum_ bt_sum) (dv 1)) (dss_one (ds_ret de_bl)) dss_nil)
      (dss_cons (ds_for hp (di_rng1 (de_callB dcl_len (da_cons (dv 0) da_nil) (by rfl) Z.len bt_len) (by rfl) Z.range_) (dg_name 2 (nl hL (by decide)) nd) (dss_one (ds_for hp (di_rng1 (dv 2) (by rfl) Z.range_) (dg_name 3 (nl hL (by decide)) nd) (dss_cons (ds_set 4 (de_call c__law_common hr hB tk (dm_cons (de_ix (de_ix (dv 0) (dv 2)) de_int) (dm_cons (de_ix (de_ix (dv 0) (dv 3)) de_int) dm_nil))) (nl hL (by decide)) nd)
      (dss_one (ds_if (dt_cmp (dop_eq hu) (de_op dop_mod (de_op dop_sub (de_ix (de_ix (dv 0) (dv 2)) de_int) (de_ix (de_ix (dv 0) (dv 3)) de_int)) (dv 4)) de_int) (dss_one (ds_ret de_bl)) dss_nil))))))
      (dss_one (ds_ret de_bl)))))
theorem ok__law_all_with (n k : Nat) {f : Addr} {fd : FuncData} (F : Fun K "_law_all_with" "_law_all_with" s__law_all_with f fd) (Z : Zs mg) (c__law_common : Cal P w K mg base k "_law_common" 2 sp__law_common) (c__law_all_with : Cal P w K mg base k "_law_all_with" 2 (sp__law_all_with n)) : FnOk P w K mg base (L2N.CX P w) (k + 1) f fd ["steps", "clocks"] (low K mg 2 (sp__law_all_with (n + 1))) := by
  refine def_ok (N := N__law_all_with) (ps := ["steps", "clocks"]) F sc__law_all_with (ls := []) (wb := w__law_all_with n) (fun cdv A outer s H E B hr hB hL tk hp => ?_) (vc__law_all_with n)
  have nd := sc__law_all_with.nd
  have hu := hr.u65
  have hu7 := hr.u67
  exact (dss_cons (ds_if (dt_cmp (dop_eq hu) (de_callB dcl_len (da_cons (dv 1) da_nil) (by rfl) Z.len bt_len) (de_callB dcl_len (da_cons (dv 0) da_nil) (by rfl) Z.len bt_len)) (dss_one (ds_ret (de_lst (df_cons (dv 1) df_nil)))) dss_nil)
      (dss_cons (ds_set 2 (de_ix (dv 0) (de_callB dcl_len (da_cons (dv 1) da_nil) (by rfl) Z.len bt_len)) (nl hL (by decide)) nd)
      (dss_cons (ds_set 3 (de_lst df_nil) (nl hL (by decide)) nd)
      (dss_cons (ds_for hp (di_rng1 (dv 2) (by rfl) Z.range_) (dg_name 4 (nl hL (by decide)) nd) (dss_cons (ds_set 5 (de_or (de_cmp (dop_eq hu) (dv 1) (de_tup df_nil)) (de_one (de_cmp (dop_gt hu) (de_tup (df_cons (dv 2) (df_cons (dv 4) df_nil))) (de_ix (dv 1) (de_neg de_int))))) (nl hL (by decide)) nd)
      (dss_cons (ds_for hp (di_seq (dv 1)) (dg_tup rfl (dgs_cons (dg_name 6 (nl hL (by decide)) nd) (dgs_cons (dg_name 7 (nl hL (by decide)) nd) dgs_nil))) (dss_one (ds_if (dt_cmp (dop_eq hu) (de_op dop_mod (de_op dop_sub (dv 7) (dv 4)) (de_call c__law_common hr hB tk (dm_cons (dv 6) (dm_cons (dv 2) dm_nil)))) de_int) (dss_one (ds_set 5 de_bl (nl hL (by decide)) nd)) dss_nil)))
      (dss_one (ds_if (dt_val (dv 5)) (dss_one (ds_set 3 (de_op dop_add (dv 3) (de_call c__law_all_with hr hB tk (dm_cons (dv 0) (dm_cons (de_op dop_add (dv 1) (de_tup (df_cons (de_tup (df_cons (dv 2) (df_cons (dv 4) df_nil))) df_nil))) dm_nil)))) (nl hL (by decide)) nd)) dss_nil)))))
      (dss_one (ds_ret (dv 3)))))))
theorem ok__law_right {f : Addr} {fd : FuncData} (F : Fun K "_law_right" "_law_right" s__law_right f fd) (Z : Zs mg) (c_exact_with : Cal P w K mg base 15 "exact_with" 1 sp_exact_with) (c__law_whole : Cal P w K mg base 15 "_law_whole" 1 sp__law_whole) (c__law_all_with : Cal P w K mg base 15 "_law_all_with" 2 (sp__law_all_with 11)) (c__law_exact : Cal P w K mg base 15 "_law_exact" 1 sp__law_exact) : FnOk P w K mg base (L2N.CX P w) 16 f fd ["made"] (low K mg 1 sp__law_right_k63) := by
  refine def_ok (N := N__law_right) (ps := ["made"]) F sc__law_right (ls := []) (wb := w__law_right_k63) (fun cdv A outer s H E B hr hB hL tk hp => ?_) vc__law_right_k63
  have nd := sc__law_right.nd
  have hu := hr.u65
  have hu7 := hr.u67
  exact (dss_cons (ds_set 1 (de_callTy dcl_tuple (da_cons (de_lc (own := [("step", 3), ("rest", 4)]) (di_seq (dv 0)) (blkOk_by (N := N__law_right) (sc := defScope s__law_right) (by decide +kernel)) (by decide) (nls hL (by decide)) nd (fun _ _ _ _ _ => (dg_tup rfl (dgs_cons (dg_name 3 (nl hL (by decide)) nd) (dgs_cons (dg_name 4 (nl hL (by decide)) nd) dgs_nil)))) (fun _ _ _ _ _ => dts_nil) (fun _ _ _ _ _ => (dv 3))) da_nil) (by rfl) Z.tuple bt_tuple) (nl hL (by decide)) nd)
      (dss_cons (ds_set 2 (de_call c_exact_with hr hB tk (dm_cons (dv 1) dm_nil)) (nl hL (by decide)) nd)
      (dss_cons (ds_if ((dw_or (dt_not (dt_val (de_isi (dv 2) (by rfl) Z.isinstance (by rfl) Z.tuple bt_tuple (by decide)))) (dw_or (dt_cmp (dop_ne hu) (de_callTy dcl_tuple (da_cons (de_lc (own := [("step", 3), ("rest", 4)]) (di_seq (dv 2)) (blkOk_by (N := N__law_right) (sc := defScope s__law_right) (by decide +kernel)) (by decide) (nls hL (by decide)) nd (fun _ _ _ _ _ => (dg_tup rfl (dgs_cons (dg_name 3 (nl hL (by decide)) nd) (dgs_cons (dg_name 4 (nl hL (by decide)) nd) dgs_nil)))) (fun _ _ _ _ _ => dts_nil) (fun _ _ _ _ _ => (dv 3))) da_nil) (by rfl) Z.tuple bt_tuple) (dv 1)) (dw_or1 (dt_cmp (dop_gt hu) (dv 2) (dv 0)))))).dt (dss_one (ds_ret de_bl)) dss_nil)
      (dss_cons (ds_if (dt_not (dt_val (de_callB (dcl_all rfl) (da_cons (de_lc (own := [("step", 3), ("rest", 4)]) (di_seq (dv 2)) (blkOk_by (N := N__law_right) (sc := defScope s__law_right) (by decide +kernel)) (by decide) (nls hL (by decide)) nd (fun _ _ _ _ _ => (dg_tup rfl (dgs_cons (dg_name 3 (nl hL (by decide)) nd) (dgs_cons (dg_name 4 (nl hL (by decide)) nd) dgs_nil)))) (fun _ _ _ _ _ => dts_nil) (fun _ _ _ _ _ => (de_and (de_call c__law_whole hr hB tk0 (dm_cons (dv 3) dm_nil)) (de_and (de_call c__law_whole hr hB tk0 (dm_cons (dv 4) dm_nil)) (de_one (de_chain (dop_le hu) (dop_lt hu) de_int (dv 4) (dv 3))))))) da_nil) (by rfl) Z.all_ bt_all))) (dss_one (ds_ret de_bl)) dss_nil)
      (dss_cons (ds_if ((dw_and (dt_cmp (dop_lt hu) (de_callB dcl_len (da_cons (dv 1) da_nil) (by rfl) Z.len bt_len) de_int) (dw_and (dt_cmp (dop_lt hu) (de_callB (dcl_maxT rfl) (da_cons (dv 1) da_nil) (by rfl) Z.max_ bt_max) de_int) (dw_and1 (dt_cmp (dop_ne hu) (dv 2) (de_callB (dcl_minL rfl hu7) (da_cons (de_call c__law_all_with hr hB tk (dm_cons (dv 1) (dm_cons (de_tup df_nil) dm_nil))) da_nil) (by rfl) Z.min_ bt_min)))))).dt (dss_one (ds_ret de_bl)) dss_nil)
      (dss_one (ds_ret (de_and (de_call c__law_exact hr hB tk (dm_cons (dv 2) dm_nil)) (de_one (de_cmp (dop_eq hu) (de_call c_exact_with hr hB tk (dm_cons (dv 1) dm_nil)) (dv 2)))))))))))
theorem ok__law_steps_right {f : Addr} {fd : FuncData} (F : Fun K "_law_steps_right" "_law_steps_right" s__law_steps_right f fd) (Z : Zs mg) (c_exact_of : Cal P w K mg base 20 "exact_of" 1 sp_exact_of) (c_exact_steps : Cal P w K mg base 20 "exact_steps" 1 sp_exact_steps) (c__law_whole : Cal P w K mg base 20 "_law_whole" 1 sp__law_whole) : FnOk P w K mg base (L2N.CX P w) 21 f fd ["n"] (low K mg 1 sp__law_steps_right) := by
  refine def_ok (N := N__law_steps_right) (ps := ["n"]) F sc__law_steps_right (ls := []) (wb := w__law_steps_right) (fun cdv A outer s H E B hr hB hL tk hp => ?_) vc__law_steps_right
  have nd := sc__law_steps_right.nd
  have hu := hr.u65
  have hu7 := hr.u67
  exact (dss_cons (ds_newD 1 (nl hL (by decide)) nd)
      (dss_cons (ds_for hp (di_seq (de_call c_exact_of hr hB tk (dm_cons (dv 0) dm_nil))) (dg_name 2 (nl hL (by decide)) nd) (dss_cons (ds_set 3 (de_callTy dcl_tuple (da_cons (de_lc (own := [("step", 6), ("rest", 7)]) (di_seq (dv 2)) (blkOk_by (N := N__law_steps_right) (sc := defScope s__law_steps_right) (by decide +kernel)) (by decide) (nls hL (by decide)) nd (fun _ _ _ _ _ => (dg_tup rfl (dgs_cons (dg_name 6 (nl hL (by decide)) nd) (dgs_cons (dg_name 7 (nl hL (by decide)) nd) dgs_nil)))) (fun _ _ _ _ _ => dts_nil) (fun _ _ _ _ _ => (dv 6))) da_nil) (by rfl) Z.tuple bt_tuple) (nl hL (by decide)) nd)
      (dss_one (ds_putD 1 hu (de_op dop_add (de_getD 1 hu (dv 3) de_int ⟨rfl, rfl, rfl, rfl⟩) de_int) (dv 3)))))
      (dss_cons (ds_for hp (di_rng1 de_int (by rfl) Z.range_) (dg_name 4 (nl hL (by decide)) nd) (dss_cons (ds_set 5 (de_call c_exact_steps hr hB tk (dm_cons (dv 0) dm_nil)) (nl hL (by decide)) nd)
      (dss_cons (ds_if ((dw_or (dt_not (dt_val (de_isi (dv 5) (by rfl) Z.isinstance (by rfl) Z.list_ bt_list (by decide)))) (dw_or1 (dt_cmp (dop_ne hu) (dv 5) (de_callB (dcl_sorted hu7) (da_cons (de_lcD 1 (own := [("steps", 3)]) (List.map_eq_nil_iff.mp hL) (blkOk_by (N := N__law_steps_right) (sc := defScope s__law_steps_right) (by decide +kernel)) (by decide) (by decide) nd (fun B hL _ _ _ _ _ => (dg_name 3 (nl hL (by decide)) nd)) (fun a od kvs _ _ _ _ _ => (de_tup (df_cons (dv 3) (df_cons (de_getP 1 (List.map_eq_nil_iff.mp hL) hu (dv 3) (by intro _ _; rfl)) df_nil))))) da_nil) (by rfl) Z.sorted bt_sorted))))).dt (dss_one (ds_ret de_bl)) dss_nil)
      (dss_cons (ds_if (dt_not (dt_val (de_bw 5 (de_callB (dcl_all rfl) (da_cons (de_lc (own := [("one", 8)]) (di_seq (dv 5)) (blkOk_by (N := N__law_steps_right) (sc := defScope s__law_steps_right) (by decide +kernel)) (by decide) (nls hL (by decide)) nd (fun _ _ _ _ _ => (dg_name 8 (nl hL (by decide)) nd)) (fun _ _ _ _ _ => dts_nil) (fun _ _ _ _ _ => (de_and (de_isi (dv 8) (by rfl) Z.isinstance (by rfl) Z.tuple bt_tuple (by decide)) (de_one (de_call c__law_whole hr hB tk0 (dm_cons (de_ix (dv 8) de_int) dm_nil)))))) da_nil) (by rfl) Z.all_ bt_all)))) (dss_one (ds_ret de_bl)) dss_nil)
      (dss_one (ds_expr (de_append 5 de_int)))))))
      (dss_one (ds_ret de_bl)))))
theorem ok__law_none_right {f : Addr} {fd : FuncData} (F : Fun K "_law_none_right" "_law_none_right" s__law_none_right f fd) (Z : Zs mg) (c__law_round : Cal P w K mg base 15 "_law_round" 1 sp__law_round_k03) (c_exact_with : Cal P w K mg base 15 "exact_with" 1 sp_exact_with) : FnOk P w K mg base (L2N.CX P w) 16 f fd ["steps"] (low K mg 1 sp__law_none_right) := by
  refine def_ok (N := N__law_none_right) (ps := ["steps"]) F sc__law_none_right (ls := []) (wb := w__law_none_right) (fun cdv A outer s H E B hr hB hL tk hp => ?_) vc__law_none_right
  have nd := sc__law_none_right.nd
  have hu := hr.u65
  have hu7 := hr.u67
  exact (dss_cons (ds_set 1 (de_call c__law_round hr hB tk (dm_cons (de_lc (own := [("step", 2)]) (di_seq (dv 0)) (blkOk_by (N := N__law_none_right) (sc := defScope s__law_none_right) (by decide +kernel)) (by decide) (nls hL (by decide)) nd (fun _ _ _ _ _ => (dg_name 2 (nl hL (by decide)) nd)) (fun _ _ _ _ _ => dts_nil) (fun _ _ _ _ _ => (de_tup (df_cons (dv 2) (df_cons de_int df_nil))))) dm_nil)) (nl hL (by decide)) nd)
      (dss_cons (ds_if ((dw_or (dt_cmp (dop_ne hu) (de_callB (dcl_sum rfl) (da_cons (de_lc (own := [("step", 2)]) (di_seq (dv 0)) (blkOk_by (N := N__law_none_right) (sc := defScope s__law_none_right) (by decide +kernel)) (by decide) (nls hL (by decide)) nd (fun _ _ _ _ _ => (dg_name 2 (nl hL (by decide)) nd)) (fun _ _ _ _ _ => dts_nil) (fun _ _ _ _ _ => (de_op dop_fdiv (dv 1) (dv 2)))) da_nil) (by rfl) Z.sum_ bt_sum) (dv 1)) (dw_or1 ((dw_and (dt_cmp (dop_eq hu) (de_count hu (dv 0) (de_callB (dcl_max rfl) (da_cons (dv 0) da_nil) (by rfl) Z.max_ bt_max)) de_int) (dw_and1 (dt_cmp (dop_gt hu) (de_callB (dcl_max rfl) (da_cons (dv 0) da_nil) (by rfl) Z.max_ bt_max) de_int)))).dt))).dt (dss_one (ds_ret (de_cmp dop_is (de_call c_exact_with hr hB tk (dm_cons (de_callTy dcl_tuple (da_cons (dv 0) da_nil) (by rfl) Z.tuple bt_tuple) dm_nil)) de_non))) dss_nil)
      (dss_one (ds_ret de_bl))))
theorem ok_law {f : Addr} {fd : FuncData} (F : Fun K "law" "law" s_law f fd) (Z : Zs mg) (c_exact_with : Cal P w K mg base 21 "exact_with" 1 sp_exact_with) (c__law_cell_at : Cal P w K mg base 21 "_law_cell_at" 2 sp__law_cell_at) (c__law_pen_of : Cal P w K mg base 21 "_law_pen_of" 1 sp__law_pen_of) (c__law_draw : Cal P w K mg base 21 "_law_draw" 2 sp__law_draw) (c__law_steps_right : Cal P w K mg base 21 "_law_steps_right" 1 sp__law_steps_right) (c__law_parts_by : Cal P w K mg base 21 "_law_parts_by" 3 sp__law_parts_by) (c__law_right : Cal P w K mg base 21 "_law_right" 1 sp__law_right_k63) (c__law_none_right : Cal P w K mg base 21 "_law_none_right" 1 sp__law_none_right) : FnOk P w K mg base (L2N.CX P w) 22 f fd ["script"] (low K mg 1 sp_law_k63) := by
  refine def_ok (N := N_law) (ps := ["script"]) F sc_law (ls := []) (wb := w_law_k63) (fun cdv A outer s H E B hr hB hL tk hp => ?_) vc_law_k63
  have nd := sc_law.nd
  have hu := hr.u65
  have hu7 := hr.u67
  exact (dss_cons (ds_if ((dw_or (dt_cmp (dop_ne hu) (de_call c_exact_with hr hB tk (dm_cons (de_tup (df_cons de_int df_nil)) dm_nil)) (de_tup (df_cons (de_tup (df_cons de_int (df_cons de_int df_nil))) df_nil))) (dw_or (dt_cmp dop_isNot (de_call c_exact_with hr hB tk (dm_cons (de_tup (df_cons de_int (df_cons de_int (df_cons de_int df_nil)))) dm_nil)) de_non) (dw_or1 (dt_cmp (dop_ne hu) (de_call c_exact_with hr hB tk (dm_cons (de_tup (df_cons de_int (df_cons de_int df_nil))) dm_nil)) (de_tup (df_cons (de_tup (df_cons de_int (df_cons de_int df_nil))) (df_cons (de_tup (df_cons de_int (df_cons de_int df_nil))) df_nil)))))))).dt (dss_one (ds_ret de_bl)) dss_nil)
      (dss_cons (ds_if (dt_not (dt_val (de_call c__law_steps_right hr hB tk (dm_cons (de_op dop_add de_int (de_callA c__law_draw hr hB tk (de_call c__law_pen_of hr hB tk (dm_cons (de_call c__law_cell_at hr hB tk (dm_cons (dv 0) (dm_cons de_int dm_nil))) dm_nil)) (dm_cons de_int dm_nil))) dm_nil)))) (dss_one (ds_ret de_bl)) dss_nil)
      (dss_cons (ds_for hp (di_seq (de_op dop_add (de_lst (df_cons (de_call c__law_cell_at hr hB tk (dm_cons (dv 0) (dm_cons de_int dm_nil))) df_nil)) (de_sl (dv 0) (do_some de_int) (do_some de_int)))) (dg_name 1 (nl hL (by decide)) nd) (dss_cons (ds_set 2 (de_call c__law_pen_of hr hB tk (dm_cons (dv 1) dm_nil)) (nl hL (by decide)) nd)
      (dss_cons (ds_set 3 (de_callTy dcl_tuple (da_cons (de_call c__law_parts_by hr hB tk (dm_lend 2 (dm_cons de_int (dm_cons de_int dm_nil)))) da_nil) (by rfl) Z.tuple bt_tuple) (nl hL (by decide)) nd)
      (dss_cons (ds_if (dt_cmp (dop_gt hu) (de_callB (dcl_max rfl) (da_cons (de_lc (own := [("step", 6), ("rest", 7)]) (di_seq (dv 3)) (blkOk_by (N := N_law) (sc := defScope s_law) (by decide +kernel)) (by decide) (nls hL (by decide)) nd (fun _ _ _ _ _ => (dg_tup rfl (dgs_cons (dg_name 6 (nl hL (by decide)) nd) (dgs_cons (dg_name 7 (nl hL (by decide)) nd) dgs_nil)))) (fun _ _ _ _ _ => dts_nil) (fun _ _ _ _ _ => (dv 6))) da_nil) (by rfl) Z.max_ bt_max) de_int) (dss_one (ds_set 3 (de_tup (df_cons (de_tup (df_cons de_int (df_cons de_int df_nil))) (df_cons (de_tup (df_cons de_int (df_cons de_int df_nil))) (df_cons (de_tup (df_cons de_int (df_cons de_int df_nil))) df_nil)))) (nl hL (by decide)) nd)) dss_nil)
      (dss_cons (ds_if (dt_not (dt_val (de_call c__law_right hr hB tk (dm_cons (dv 3) dm_nil)))) (dss_one (ds_ret de_bl)) dss_nil)
      (dss_cons (ds_setLc 4 (own := [("step", 6), ("rest", 7)]) (di_seq (dv 3)) (blkOk_by (N := N_law) (sc := defScope s_law) (by decide +kernel)) (by decide) (nls hL (by decide)) (nl hL (by decide)) nd (fun _ _ _ _ _ => (dg_tup rfl (dgs_cons (dg_name 6 (nl hL (by decide)) nd) (dgs_cons (dg_name 7 (nl hL (by decide)) nd) dgs_nil)))) (fun _ _ _ _ _ => dts_nil) (fun _ _ _ _ _ => (dv 6)))
      (dss_cons (ds_setIx 4 (de_op dop_add de_int (de_call c__law_draw hr hB tk (dm_lend 2 (dm_cons de_int dm_nil)))) (de_call c__law_draw hr hB tk (dm_lend 2 (dm_cons (de_callB dcl_len (da_cons (dv 4) da_nil) (by rfl) Z.len bt_len) dm_nil))))
      (dss_cons (ds_setLc 5 (own := [("turn", 8)]) (di_rng1 (de_op dop_add de_int (de_call c__law_draw hr hB tk (dm_lend 2 (dm_cons de_int dm_nil)))) (by rfl) Z.range_) (blkOk_by (N := N_law) (sc := defScope s_law) (by decide +kernel)) (by decide) (nls hL (by decide)) (nl hL (by decide)) nd (fun _ _ _ _ _ => (dg_name 8 (nl hL (by decide)) nd)) (fun _ _ _ _ _ => dts_nil) (fun _ _ _ _ _ => (de_op dop_add de_int (de_call c__law_draw hr hB tk0 (dm_lend 2 (dm_cons de_int dm_nil))))))
      (dss_one (ds_if ((dw_or (dt_not (dt_val (de_call c__law_none_right hr hB tk (dm_cons (de_callB (dcl_sorted hu7) (da_cons (dv 4) da_nil) (by rfl) Z.sorted bt_sorted) dm_nil)))) (dw_or1 (dt_not (dt_val (de_call c__law_none_right hr hB tk (dm_cons (de_callB (dcl_sorted hu7) (da_cons (dv 5) da_nil) (by rfl) Z.sorted bt_sorted) dm_nil))))))).dt (dss_one (ds_ret de_bl)) dss_nil))))))))))
      (dss_one (ds_ret de_bl)))))
end
theorem all_mk {l : PySem.W.OpenLaw} {w : World} {K : PySem.W.Frag} {h : Heap} {mg : Str → Option Value} {fa f1 f2 f3 f4 f5 f6 f7 f8 f9 f10 f11 f12 f13 f14 f15 f16 f17 f18 f19 f20 f21 f22 f23 f24 f25 f26 f27 f28 f29 : Addr} (X : K.In h) (G : h.Ns mainGlobals mg) (hfa : mg "law" = some (.ref fa))
    {od1 an1 od2 an2 od3 an3 od4 an4 od5 an5 od6 an6 od7 an7 od8 an8 od9 an9 od10 an10 od11 an11 od12 an12 od13 an13 od14 an14 od15 an15 od16 an16 od17 an17 od18 an18 od19 an19 od20 an20 od21 an21 od22 an22 od23 an23 od24 an24 od25 an25 od26 an26 od27 an27 od28 an28 od29 an29 : Option Addr} {sl1 sl2 sl3 sl4 sl5 sl6 sl7 sl8 sl9 sl10 sl11 sl12 sl13 sl14 sl15 sl16 sl17 sl18 sl19 sl20 sl21 sl22 sl23 sl24 sl25 sl26 sl27 sl28 sl29 : Array (Option Value)} {oc1 kV1 dc1 pm1 cd1 ct1 oc2 kV2 dc2 pm2 cd2 ct2 oc3 kV3 dc3 pm3 cd3 ct3 oc4 kV4 dc4 pm4 cd4 ct4 oc5 kV5 dc5 pm5 cd5 ct5 oc6 kV6 dc6 pm6 cd6 ct6 oc7 kV7 dc7 pm7 cd7 ct7 oc8 kV8 dc8 pm8 cd8 ct8 oc9 kV9 dc9 pm9 cd9 ct9 oc10 kV10 dc10 pm10 cd10 ct10 oc11 kV11 dc11 pm11 cd11 ct11 oc12 kV12 dc12 pm12 cd12 ct12 oc13 kV13 dc13 pm13 cd13 ct13 oc14 kV14 dc14 pm14 cd14 ct14 oc15 kV15 dc15 pm15 cd15 ct15 oc16 kV16 dc16 pm16 cd16 ct16 oc17 kV17 dc17 pm17 cd17 ct17 oc18 kV18 dc18 pm18 cd18 ct18 oc19 kV19 dc19 pm19 cd19 ct19 oc20 kV20 dc20 pm20 cd20 ct20 oc21 kV21 dc21 pm21 cd21 ct21 oc22 kV22 dc22 pm22 cd22 ct22 oc23 kV23 dc23 pm23 cd23 ct23 oc24 kV24 dc24 pm24 cd24 ct24 oc25 kV25 dc25 pm25 cd25 ct25 oc26 kV26 dc26 pm26 cd26 ct26 oc27 kV27 dc27 pm27 cd27 ct27 oc28 kV28 dc28 pm28 cd28 ct28 oc29 kV29 dc29 pm29 cd29 ct29 : Value}
    (a1 : PySem.W.nsIn K mainGlobals "rings" = some (some (.ref f1))) (l1 : K.lookup f1 = some ⟨oc1, od1, .func (PySem.W.fnOf "rings" "rings" (defArgs s_rings) (defBody s_rings) (defScope s_rings) .none kV1 dc1 pm1 an1 cd1 ct1), sl1⟩) (c1 : PySem.W.codeIn K cd1 "rings" = true) (k1 : PySem.W.keepIn K (.ref f1) = true)
    (a2 : PySem.W.nsIn K mainGlobals "rings_at" = some (some (.ref f2))) (l2 : K.lookup f2 = some ⟨oc2, od2, .func (PySem.W.fnOf "rings_at" "rings_at" (defArgs s_rings_at) (defBody s_rings_at) (defScope s_rings_at) .none kV2 dc2 pm2 an2 cd2 ct2), sl2⟩) (c2 : PySem.W.codeIn K cd2 "rings_at" = true) (k2 : PySem.W.keepIn K (.ref f2) = true)
    (a3 : PySem.W.nsIn K mainGlobals "divisor_of" = some (some (.ref f3))) (l3 : K.lookup f3 = some ⟨oc3, od3, .func (PySem.W.fnOf "divisor_of" "divisor_of" (defArgs s_divisor_of) (defBody s_divisor_of) (defScope s_divisor_of) .none kV3 dc3 pm3 an3 cd3 ct3), sl3⟩) (c3 : PySem.W.codeIn K cd3 "divisor_of" = true) (k3 : PySem.W.keepIn K (.ref f3) = true)
    (a4 : PySem.W.nsIn K mainGlobals "round_of" = some (some (.ref f4))) (l4 : K.lookup f4 = some ⟨oc4, od4, .func (PySem.W.fnOf "round_of" "round_of" (defArgs s_round_of) (defBody s_round_of) (defScope s_round_of) .none kV4 dc4 pm4 an4 cd4 ct4), sl4⟩) (c4 : PySem.W.codeIn K cd4 "round_of" = true) (k4 : PySem.W.keepIn K (.ref f4) = true)
    (a5 : PySem.W.nsIn K mainGlobals "back_of" = some (some (.ref f5))) (l5 : K.lookup f5 = some ⟨oc5, od5, .func (PySem.W.fnOf "back_of" "back_of" (defArgs s_back_of) (defBody s_back_of) (defScope s_back_of) .none kV5 dc5 pm5 an5 cd5 ct5), sl5⟩) (c5 : PySem.W.codeIn K cd5 "back_of" = true) (k5 : PySem.W.keepIn K (.ref f5) = true)
    (a6 : PySem.W.nsIn K mainGlobals "meet_of" = some (some (.ref f6))) (l6 : K.lookup f6 = some ⟨oc6, od6, .func (PySem.W.fnOf "meet_of" "meet_of" (defArgs s_meet_of) (defBody s_meet_of) (defScope s_meet_of) .none kV6 dc6 pm6 an6 cd6 ct6), sl6⟩) (c6 : PySem.W.codeIn K cd6 "meet_of" = true) (k6 : PySem.W.keepIn K (.ref f6) = true)
    (a7 : PySem.W.nsIn K mainGlobals "shares_of" = some (some (.ref f7))) (l7 : K.lookup f7 = some ⟨oc7, od7, .func (PySem.W.fnOf "shares_of" "shares_of" (defArgs s_shares_of) (defBody s_shares_of) (defScope s_shares_of) .none kV7 dc7 pm7 an7 cd7 ct7), sl7⟩) (c7 : PySem.W.codeIn K cd7 "shares_of" = true) (k7 : PySem.W.keepIn K (.ref f7) = true)
    (a8 : PySem.W.nsIn K mainGlobals "steps_of" = some (some (.ref f8))) (l8 : K.lookup f8 = some ⟨oc8, od8, .func (PySem.W.fnOf "steps_of" "steps_of" (defArgs s_steps_of) (defBody s_steps_of) (defScope s_steps_of) .none kV8 dc8 pm8 an8 cd8 ct8), sl8⟩) (c8 : PySem.W.codeIn K cd8 "steps_of" = true) (k8 : PySem.W.keepIn K (.ref f8) = true)
    (a9 : PySem.W.nsIn K mainGlobals "fillings" = some (some (.ref f9))) (l9 : K.lookup f9 = some ⟨oc9, od9, .func (PySem.W.fnOf "fillings" "fillings" (defArgs s_fillings) (defBody s_fillings) (defScope s_fillings) .none kV9 dc9 pm9 an9 cd9 ct9), sl9⟩) (c9 : PySem.W.codeIn K cd9 "fillings" = true) (k9 : PySem.W.keepIn K (.ref f9) = true)
    (a10 : PySem.W.nsIn K mainGlobals "every_exact" = some (some (.ref f10))) (l10 : K.lookup f10 = some ⟨oc10, od10, .func (PySem.W.fnOf "every_exact" "every_exact" (defArgs s_every_exact) (defBody s_every_exact) (defScope s_every_exact) .none kV10 dc10 pm10 an10 cd10 ct10), sl10⟩) (c10 : PySem.W.codeIn K cd10 "every_exact" = true) (k10 : PySem.W.keepIn K (.ref f10) = true)
    (a11 : PySem.W.nsIn K mainGlobals "exact_of" = some (some (.ref f11))) (l11 : K.lookup f11 = some ⟨oc11, od11, .func (PySem.W.fnOf "exact_of" "exact_of" (defArgs s_exact_of) (defBody s_exact_of) (defScope s_exact_of) .none kV11 dc11 pm11 an11 cd11 ct11), sl11⟩) (c11 : PySem.W.codeIn K cd11 "exact_of" = true) (k11 : PySem.W.keepIn K (.ref f11) = true)
    (a12 : PySem.W.nsIn K mainGlobals "exact_steps" = some (some (.ref f12))) (l12 : K.lookup f12 = some ⟨oc12, od12, .func (PySem.W.fnOf "exact_steps" "exact_steps" (defArgs s_exact_steps) (defBody s_exact_steps) (defScope s_exact_steps) .none kV12 dc12 pm12 an12 cd12 ct12), sl12⟩) (c12 : PySem.W.codeIn K cd12 "exact_steps" = true) (k12 : PySem.W.keepIn K (.ref f12) = true)
    (a13 : PySem.W.nsIn K mainGlobals "first_gap" = some (some (.ref f13))) (l13 : K.lookup f13 = some ⟨oc13, od13, .func (PySem.W.fnOf "first_gap" "first_gap" (defArgs s_first_gap) (defBody s_first_gap) (defScope s_first_gap) .none kV13 dc13 pm13 an13 cd13 ct13), sl13⟩) (c13 : PySem.W.codeIn K cd13 "first_gap" = true) (k13 : PySem.W.keepIn K (.ref f13) = true)
    (a14 : PySem.W.nsIn K mainGlobals "with_steps" = some (some (.ref f14))) (l14 : K.lookup f14 = some ⟨oc14, od14, .func (PySem.W.fnOf "with_steps" "with_steps" (defArgs s_with_steps) (defBody s_with_steps) (defScope s_with_steps) .none kV14 dc14 pm14 an14 cd14 ct14), sl14⟩) (c14 : PySem.W.codeIn K cd14 "with_steps" = true) (k14 : PySem.W.keepIn K (.ref f14) = true)
    (a15 : PySem.W.nsIn K mainGlobals "exact_with" = some (some (.ref f15))) (l15 : K.lookup f15 = some ⟨oc15, od15, .func (PySem.W.fnOf "exact_with" "exact_with" (defArgs s_exact_with) (defBody s_exact_with) (defScope s_exact_with) .none kV15 dc15 pm15 an15 cd15 ct15), sl15⟩) (c15 : PySem.W.codeIn K cd15 "exact_with" = true) (k15 : PySem.W.keepIn K (.ref f15) = true)
    (a16 : PySem.W.nsIn K mainGlobals "_law_cell_at" = some (some (.ref f16))) (l16 : K.lookup f16 = some ⟨oc16, od16, .func (PySem.W.fnOf "_law_cell_at" "_law_cell_at" (defArgs s__law_cell_at) (defBody s__law_cell_at) (defScope s__law_cell_at) .none kV16 dc16 pm16 an16 cd16 ct16), sl16⟩) (c16 : PySem.W.codeIn K cd16 "_law_cell_at" = true) (k16 : PySem.W.keepIn K (.ref f16) = true)
    (a17 : PySem.W.nsIn K mainGlobals "_law_next" = some (some (.ref f17))) (l17 : K.lookup f17 = some ⟨oc17, od17, .func (PySem.W.fnOf "_law_next" "_law_next" (defArgs s__law_next) (defBody s__law_next) (defScope s__law_next) .none kV17 dc17 pm17 an17 cd17 ct17), sl17⟩) (c17 : PySem.W.codeIn K cd17 "_law_next" = true) (k17 : PySem.W.keepIn K (.ref f17) = true)
    (a18 : PySem.W.nsIn K mainGlobals "_law_pen_of" = some (some (.ref f18))) (l18 : K.lookup f18 = some ⟨oc18, od18, .func (PySem.W.fnOf "_law_pen_of" "_law_pen_of" (defArgs s__law_pen_of) (defBody s__law_pen_of) (defScope s__law_pen_of) .none kV18 dc18 pm18 an18 cd18 ct18), sl18⟩) (c18 : PySem.W.codeIn K cd18 "_law_pen_of" = true) (k18 : PySem.W.keepIn K (.ref f18) = true)
    (a19 : PySem.W.nsIn K mainGlobals "_law_draw" = some (some (.ref f19))) (l19 : K.lookup f19 = some ⟨oc19, od19, .func (PySem.W.fnOf "_law_draw" "_law_draw" (defArgs s__law_draw) (defBody s__law_draw) (defScope s__law_draw) .none kV19 dc19 pm19 an19 cd19 ct19), sl19⟩) (c19 : PySem.W.codeIn K cd19 "_law_draw" = true) (k19 : PySem.W.keepIn K (.ref f19) = true)
    (a20 : PySem.W.nsIn K mainGlobals "_law_whole" = some (some (.ref f20))) (l20 : K.lookup f20 = some ⟨oc20, od20, .func (PySem.W.fnOf "_law_whole" "_law_whole" (defArgs s__law_whole) (defBody s__law_whole) (defScope s__law_whole) .none kV20 dc20 pm20 an20 cd20 ct20), sl20⟩) (c20 : PySem.W.codeIn K cd20 "_law_whole" = true) (k20 : PySem.W.keepIn K (.ref f20) = true)
    (a21 : PySem.W.nsIn K mainGlobals "_law_parts_by" = some (some (.ref f21))) (l21 : K.lookup f21 = some ⟨oc21, od21, .func (PySem.W.fnOf "_law_parts_by" "_law_parts_by" (defArgs s__law_parts_by) (defBody s__law_parts_by) (defScope s__law_parts_by) .none kV21 dc21 pm21 an21 cd21 ct21), sl21⟩) (c21 : PySem.W.codeIn K cd21 "_law_parts_by" = true) (k21 : PySem.W.keepIn K (.ref f21) = true)
    (a22 : PySem.W.nsIn K mainGlobals "_law_common" = some (some (.ref f22))) (l22 : K.lookup f22 = some ⟨oc22, od22, .func (PySem.W.fnOf "_law_common" "_law_common" (defArgs s__law_common) (defBody s__law_common) (defScope s__law_common) .none kV22 dc22 pm22 an22 cd22 ct22), sl22⟩) (c22 : PySem.W.codeIn K cd22 "_law_common" = true) (k22 : PySem.W.keepIn K (.ref f22) = true)
    (a23 : PySem.W.nsIn K mainGlobals "_law_round" = some (some (.ref f23))) (l23 : K.lookup f23 = some ⟨oc23, od23, .func (PySem.W.fnOf "_law_round" "_law_round" (defArgs s__law_round) (defBody s__law_round) (defScope s__law_round) .none kV23 dc23 pm23 an23 cd23 ct23), sl23⟩) (c23 : PySem.W.codeIn K cd23 "_law_round" = true) (k23 : PySem.W.keepIn K (.ref f23) = true)
    (a24 : PySem.W.nsIn K mainGlobals "_law_exact" = some (some (.ref f24))) (l24 : K.lookup f24 = some ⟨oc24, od24, .func (PySem.W.fnOf "_law_exact" "_law_exact" (defArgs s__law_exact) (defBody s__law_exact) (defScope s__law_exact) .none kV24 dc24 pm24 an24 cd24 ct24), sl24⟩) (c24 : PySem.W.codeIn K cd24 "_law_exact" = true) (k24 : PySem.W.keepIn K (.ref f24) = true)
    (a25 : PySem.W.nsIn K mainGlobals "_law_all_with" = some (some (.ref f25))) (l25 : K.lookup f25 = some ⟨oc25, od25, .func (PySem.W.fnOf "_law_all_with" "_law_all_with" (defArgs s__law_all_with) (defBody s__law_all_with) (defScope s__law_all_with) .none kV25 dc25 pm25 an25 cd25 ct25), sl25⟩) (c25 : PySem.W.codeIn K cd25 "_law_all_with" = true) (k25 : PySem.W.keepIn K (.ref f25) = true)
    (a26 : PySem.W.nsIn K mainGlobals "_law_right" = some (some (.ref f26))) (l26 : K.lookup f26 = some ⟨oc26, od26, .func (PySem.W.fnOf "_law_right" "_law_right" (defArgs s__law_right) (defBody s__law_right) (defScope s__law_right) .none kV26 dc26 pm26 an26 cd26 ct26), sl26⟩) (c26 : PySem.W.codeIn K cd26 "_law_right" = true) (k26 : PySem.W.keepIn K (.ref f26) = true)
    (a27 : PySem.W.nsIn K mainGlobals "_law_steps_right" = some (some (.ref f27))) (l27 : K.lookup f27 = some ⟨oc27, od27, .func (PySem.W.fnOf "_law_steps_right" "_law_steps_right" (defArgs s__law_steps_right) (defBody s__law_steps_right) (defScope s__law_steps_right) .none kV27 dc27 pm27 an27 cd27 ct27), sl27⟩) (c27 : PySem.W.codeIn K cd27 "_law_steps_right" = true) (k27 : PySem.W.keepIn K (.ref f27) = true)
    (a28 : PySem.W.nsIn K mainGlobals "_law_none_right" = some (some (.ref f28))) (l28 : K.lookup f28 = some ⟨oc28, od28, .func (PySem.W.fnOf "_law_none_right" "_law_none_right" (defArgs s__law_none_right) (defBody s__law_none_right) (defScope s__law_none_right) .none kV28 dc28 pm28 an28 cd28 ct28), sl28⟩) (c28 : PySem.W.codeIn K cd28 "_law_none_right" = true) (k28 : PySem.W.keepIn K (.ref f28) = true)
    (a29 : PySem.W.nsIn K mainGlobals "law" = some (some (.ref f29))) (l29 : K.lookup f29 = some ⟨oc29, od29, .func (PySem.W.fnOf "law" "law" (defArgs s_law) (defBody s_law) (defScope s_law) .none kV29 dc29 pm29 an29 cd29 ct29), sl29⟩) (c29 : PySem.W.codeIn K cd29 "law" = true) (k29 : PySem.W.keepIn K (.ref f29) = true)
    (z1 : PySem.W.nsIn K mainGlobals "all" = some none)
    (z2 : PySem.W.nsIn K mainGlobals "bool" = some none)
    (z3 : PySem.W.nsIn K mainGlobals "int" = some none)
    (z4 : PySem.W.nsIn K mainGlobals "isinstance" = some none)
    (z5 : PySem.W.nsIn K mainGlobals "len" = some none)
    (z6 : PySem.W.nsIn K mainGlobals "list" = some none)
    (z7 : PySem.W.nsIn K mainGlobals "max" = some none)
    (z8 : PySem.W.nsIn K mainGlobals "min" = some none)
    (z9 : PySem.W.nsIn K mainGlobals "range" = some none)
    (z10 : PySem.W.nsIn K mainGlobals "set" = some none)
    (z11 : PySem.W.nsIn K mainGlobals "sorted" = some none)
    (z12 : PySem.W.nsIn K mainGlobals "sum" = some none)
    (z13 : PySem.W.nsIn K mainGlobals "tuple" = some none)
    : ∃ fd : FuncData, (∀ (s : Shared) (v : Value), BindsTo s fd ⟨[v], []⟩ [("script", v)]) ∧ ∀ base : Heap, K.In base → base.Ns mainGlobals mg → FnOk l.prog w K mg base (L2N.CX l.prog w) 22 fa fd ["script"] (spTop K) := by
  have e := hfa.symm.trans (PySem.W.mg_of X G a29)
  cases e
  have Z : Zs mg := ⟨PySem.W.mg_none_of X G z1, PySem.W.mg_none_of X G z2, PySem.W.mg_none_of X G z3, PySem.W.mg_none_of X G z4, PySem.W.mg_none_of X G z5, PySem.W.mg_none_of X G z6, PySem.W.mg_none_of X G z7, PySem.W.mg_none_of X G z8, PySem.W.mg_none_of X G z9, PySem.W.mg_none_of X G z10, PySem.W.mg_none_of X G z11, PySem.W.mg_none_of X G z12, PySem.W.mg_none_of X G z13⟩
  have F1 := fun_mk (st := s_rings) l1 c1 k1
  have F2 := fun_mk (st := s_rings_at) l2 c2 k2
  have F3 := fun_mk (st := s_divisor_of) l3 c3 k3
  have F4 := fun_mk (st := s_round_of) l4 c4 k4
  have F5 := fun_mk (st := s_back_of) l5 c5 k5
  have F6 := fun_mk (st := s_meet_of) l6 c6 k6
  have F7 := fun_mk (st := s_shares_of) l7 c7 k7
  have F8 := fun_mk (st := s_steps_of) l8 c8 k8
  have F9 := fun_mk (st := s_fillings) l9 c9 k9
  have F10 := fun_mk (st := s_every_exact) l10 c10 k10
  have F11 := fun_mk (st := s_exact_of) l11 c11 k11
  have F12 := fun_mk (st := s_exact_steps) l12 c12 k12
  have F13 := fun_mk (st := s_first_gap) l13 c13 k13
  have F14 := fun_mk (st := s_with_steps) l14 c14 k14
  have F15 := fun_mk (st := s_exact_with) l15 c15 k15
  have F16 := fun_mk (st := s__law_cell_at) l16 c16 k16
  have F17 := fun_mk (st := s__law_next) l17 c17 k17
  have F18 := fun_mk (st := s__law_pen_of) l18 c18 k18
  have F19 := fun_mk (st := s__law_draw) l19 c19 k19
  have F20 := fun_mk (st := s__law_whole) l20 c20 k20
  have F21 := fun_mk (st := s__law_parts_by) l21 c21 k21
  have F22 := fun_mk (st := s__law_common) l22 c22 k22
  have F23 := fun_mk (st := s__law_round) l23 c23 k23
  have F24 := fun_mk (st := s__law_exact) l24 c24 k24
  have F25 := fun_mk (st := s__law_all_with) l25 c25 k25
  have F26 := fun_mk (st := s__law_right) l26 c26 k26
  have F27 := fun_mk (st := s__law_steps_right) l27 c27 k27
  have F28 := fun_mk (st := s__law_none_right) l28 c28 k28
  have F29 := fun_mk (st := s_law) l29 c29 k29
  refine ⟨PySem.W.fnOf "law" "law" (defArgs s_law) (defBody s_law) (defScope s_law) .none kV29 dc29 pm29 an29 cd29 ct29, fun s v => .of_eq rfl, fun base _ _ => ?_⟩
  have b1 := F1.binds (ps := ["clock", "number"]) fun _ _ _ _ _ _ us hl => match us, hl with | [_, _], _ => rfl
  have x_rings : Cal l.prog w K mg base 1 "rings" 2 sp_rings := cal_of F1 (PySem.W.mg_of X G a1) b1 (ok_rings F1 Z )
  have b2 := F2.binds (ps := ["clocks", "number"]) fun _ _ _ _ _ _ us hl => match us, hl with | [_, _], _ => rfl
  have x_rings_at : Cal l.prog w K mg base 2 "rings_at" 2 sp_rings_at := cal_of F2 (PySem.W.mg_of X G a2) b2 (ok_rings_at F2 Z (x_rings.mono (by decide)))
  have b3 := F3.binds (ps := ["one", "other"]) fun _ _ _ _ _ _ us hl => match us, hl with | [_, _], _ => rfl
  have x_divisor_of : Cal l.prog w K mg base 1 "divisor_of" 2 sp_divisor_of := cal_of F3 (PySem.W.mg_of X G a3) b3 (ok_divisor_of F3 Z )
  have b4 := F4.binds (ps := ["clocks"]) fun _ _ _ _ _ _ us hl => match us, hl with | [_], _ => rfl
  have x_round_of : Cal l.prog w K mg base 2 "round_of" 1 sp_round_of := cal_of F4 (PySem.W.mg_of X G a4) b4 (ok_round_of F4 Z (x_divisor_of.mono (by decide)))
  have b5 := F5.binds (ps := ["one", "other"]) fun _ _ _ _ _ _ us hl => match us, hl with | [_, _], _ => rfl
  have x_back_of : Cal l.prog w K mg base 1 "back_of" 2 sp_back_of := cal_of F5 (PySem.W.mg_of X G a5) b5 (ok_back_of F5 Z )
  have b6 := F6.binds (ps := ["one", "other"]) fun _ _ _ _ _ _ us hl => match us, hl with | [_, _], _ => rfl
  have x_meet_of : Cal l.prog w K mg base 2 "meet_of" 2 sp_meet_of := cal_of F6 (PySem.W.mg_of X G a6) b6 (ok_meet_of F6 Z (x_divisor_of.mono (by decide)) (x_back_of.mono (by decide)))
  have b7 := F7.binds (ps := ["clocks"]) fun _ _ _ _ _ _ us hl => match us, hl with | [_], _ => rfl
  have x_shares_of : Cal l.prog w K mg base 3 "shares_of" 1 sp_shares_of := cal_of F7 (PySem.W.mg_of X G a7) b7 (ok_shares_of F7 Z (x_round_of.mono (by decide)) (x_divisor_of.mono (by decide)))
  have b8 := F8.binds (ps := ["n"]) fun _ _ _ _ _ _ us hl => match us, hl with | [_], _ => rfl
  have x_steps_of : Cal l.prog w K mg base 1 "steps_of" 1 sp_steps_of := cal_of F8 (PySem.W.mg_of X G a8) b8 (ok_steps_of F8 Z )
  have b9 := F9.binds (ps := ["n", "left"]) fun _ _ _ _ _ _ us hl => match us, hl with | [_, _], _ => rfl
  have x_fillings_0 : Cal l.prog w K mg base 1 "fillings" 2 (sp_fillings 0) := cal_never F9 (PySem.W.mg_of X G a9) b9
  have x_fillings_1 : Cal l.prog w K mg base 2 "fillings" 2 (sp_fillings 1) := cal_of F9 (PySem.W.mg_of X G a9) b9 (ok_fillings 0 1 F9 Z (x_steps_of.mono (by decide)) x_fillings_0)
  have x_fillings_2 : Cal l.prog w K mg base 3 "fillings" 2 (sp_fillings 2) := cal_of F9 (PySem.W.mg_of X G a9) b9 (ok_fillings 1 2 F9 Z (x_steps_of.mono (by decide)) x_fillings_1)
  have x_fillings_3 : Cal l.prog w K mg base 4 "fillings" 2 (sp_fillings 3) := cal_of F9 (PySem.W.mg_of X G a9) b9 (ok_fillings 2 3 F9 Z (x_steps_of.mono (by decide)) x_fillings_2)
  have x_fillings_4 : Cal l.prog w K mg base 5 "fillings" 2 (sp_fillings 4) := cal_of F9 (PySem.W.mg_of X G a9) b9 (ok_fillings 3 4 F9 Z (x_steps_of.mono (by decide)) x_fillings_3)
  have x_fillings_5 : Cal l.prog w K mg base 6 "fillings" 2 (sp_fillings 5) := cal_of F9 (PySem.W.mg_of X G a9) b9 (ok_fillings 4 5 F9 Z (x_steps_of.mono (by decide)) x_fillings_4)
  have x_fillings_6 : Cal l.prog w K mg base 7 "fillings" 2 (sp_fillings 6) := cal_of F9 (PySem.W.mg_of X G a9) b9 (ok_fillings 5 6 F9 Z (x_steps_of.mono (by decide)) x_fillings_5)
  have x_fillings_7 : Cal l.prog w K mg base 8 "fillings" 2 (sp_fillings 7) := cal_of F9 (PySem.W.mg_of X G a9) b9 (ok_fillings 6 7 F9 Z (x_steps_of.mono (by decide)) x_fillings_6)
  have x_fillings_8 : Cal l.prog w K mg base 9 "fillings" 2 (sp_fillings 8) := cal_of F9 (PySem.W.mg_of X G a9) b9 (ok_fillings 7 8 F9 Z (x_steps_of.mono (by decide)) x_fillings_7)
  have x_fillings_9 : Cal l.prog w K mg base 10 "fillings" 2 (sp_fillings 9) := cal_of F9 (PySem.W.mg_of X G a9) b9 (ok_fillings 8 9 F9 Z (x_steps_of.mono (by decide)) x_fillings_8)
  have x_fillings_10 : Cal l.prog w K mg base 11 "fillings" 2 (sp_fillings 10) := cal_of F9 (PySem.W.mg_of X G a9) b9 (ok_fillings 9 10 F9 Z (x_steps_of.mono (by decide)) x_fillings_9)
  have x_fillings_11 : Cal l.prog w K mg base 12 "fillings" 2 (sp_fillings 11) := cal_of F9 (PySem.W.mg_of X G a9) b9 (ok_fillings 10 11 F9 Z (x_steps_of.mono (by decide)) x_fillings_10)
  have x_fillings_12 : Cal l.prog w K mg base 13 "fillings" 2 (sp_fillings 12) := cal_of F9 (PySem.W.mg_of X G a9) b9 (ok_fillings 11 12 F9 Z (x_steps_of.mono (by decide)) x_fillings_11)
  have x_fillings_13 : Cal l.prog w K mg base 14 "fillings" 2 (sp_fillings 13) := cal_of F9 (PySem.W.mg_of X G a9) b9 (ok_fillings 12 13 F9 Z (x_steps_of.mono (by decide)) x_fillings_12)
  have x_fillings_14 : Cal l.prog w K mg base 15 "fillings" 2 (sp_fillings 14) := cal_of F9 (PySem.W.mg_of X G a9) b9 (ok_fillings 13 14 F9 Z (x_steps_of.mono (by decide)) x_fillings_13)
  have x_fillings_15 : Cal l.prog w K mg base 16 "fillings" 2 (sp_fillings 15) := cal_of F9 (PySem.W.mg_of X G a9) b9 (ok_fillings 14 15 F9 Z (x_steps_of.mono (by decide)) x_fillings_14)
  have x_fillings_16 : Cal l.prog w K mg base 17 "fillings" 2 (sp_fillings 16) := cal_of F9 (PySem.W.mg_of X G a9) b9 (ok_fillings 15 16 F9 Z (x_steps_of.mono (by decide)) x_fillings_15)
  have x_fillings_17 : Cal l.prog w K mg base 18 "fillings" 2 (sp_fillings 17) := cal_of F9 (PySem.W.mg_of X G a9) b9 (ok_fillings 16 17 F9 Z (x_steps_of.mono (by decide)) x_fillings_16)
  have x_fillings := x_fillings_17
  have b10 := F10.binds (ps := ["n"]) fun _ _ _ _ _ _ us hl => match us, hl with | [_], _ => rfl
  have x_every_exact : Cal l.prog w K mg base 19 "every_exact" 1 sp_every_exact := cal_of F10 (PySem.W.mg_of X G a10) b10 (ok_every_exact F10 Z (x_fillings.mono (by decide)))
  have b11 := F11.binds (ps := ["n"]) fun _ _ _ _ _ _ us hl => match us, hl with | [_], _ => rfl
  have x_exact_of : Cal l.prog w K mg base 20 "exact_of" 1 sp_exact_of := cal_of F11 (PySem.W.mg_of X G a11) b11 (ok_exact_of F11 Z (x_every_exact.mono (by decide)))
  have b12 := F12.binds (ps := ["n"]) fun _ _ _ _ _ _ us hl => match us, hl with | [_], _ => rfl
  have x_exact_steps : Cal l.prog w K mg base 20 "exact_steps" 1 sp_exact_steps := cal_of F12 (PySem.W.mg_of X G a12) b12 (ok_exact_steps F12 Z (x_every_exact.mono (by decide)))
  have b13 := F13.binds (ps := ["clocks"]) fun _ _ _ _ _ _ us hl => match us, hl with | [_], _ => rfl
  have x_first_gap : Cal l.prog w K mg base 3 "first_gap" 1 sp_first_gap := cal_of F13 (PySem.W.mg_of X G a13) b13 (ok_first_gap F13 Z (x_rings_at.mono (by decide)))
  have b14 := F14.binds (ps := ["clocks", "steps"]) fun _ _ _ _ _ _ us hl => match us, hl with | [_, _], _ => rfl
  have x_with_steps_0 : Cal l.prog w K mg base 3 "with_steps" 2 (sp_with_steps 0) := cal_never F14 (PySem.W.mg_of X G a14) b14
  have x_with_steps_1 : Cal l.prog w K mg base 4 "with_steps" 2 (sp_with_steps 1) := cal_of F14 (PySem.W.mg_of X G a14) b14 (ok_with_steps 0 3 F14 Z (x_first_gap.mono (by decide)) (x_meet_of.mono (by decide)) x_with_steps_0)
  have x_with_steps_2 : Cal l.prog w K mg base 5 "with_steps" 2 (sp_with_steps 2) := cal_of F14 (PySem.W.mg_of X G a14) b14 (ok_with_steps 1 4 F14 Z (x_first_gap.mono (by decide)) (x_meet_of.mono (by decide)) x_with_steps_1)
  have x_with_steps_3 : Cal l.prog w K mg base 6 "with_steps" 2 (sp_with_steps 3) := cal_of F14 (PySem.W.mg_of X G a14) b14 (ok_with_steps 2 5 F14 Z (x_first_gap.mono (by decide)) (x_meet_of.mono (by decide)) x_with_steps_2)
  have x_with_steps_4 : Cal l.prog w K mg base 7 "with_steps" 2 (sp_with_steps 4) := cal_of F14 (PySem.W.mg_of X G a14) b14 (ok_with_steps 3 6 F14 Z (x_first_gap.mono (by decide)) (x_meet_of.mono (by decide)) x_with_steps_3)
  have x_with_steps_5 : Cal l.prog w K mg base 8 "with_steps" 2 (sp_with_steps 5) := cal_of F14 (PySem.W.mg_of X G a14) b14 (ok_with_steps 4 7 F14 Z (x_first_gap.mono (by decide)) (x_meet_of.mono (by decide)) x_with_steps_4)
  have x_with_steps_6 : Cal l.prog w K mg base 9 "with_steps" 2 (sp_with_steps 6) := cal_of F14 (PySem.W.mg_of X G a14) b14 (ok_with_steps 5 8 F14 Z (x_first_gap.mono (by decide)) (x_meet_of.mono (by decide)) x_with_steps_5)
  have x_with_steps_7 : Cal l.prog w K mg base 10 "with_steps" 2 (sp_with_steps 7) := cal_of F14 (PySem.W.mg_of X G a14) b14 (ok_with_steps 6 9 F14 Z (x_first_gap.mono (by decide)) (x_meet_of.mono (by decide)) x_with_steps_6)
  have x_with_steps_8 : Cal l.prog w K mg base 11 "with_steps" 2 (sp_with_steps 8) := cal_of F14 (PySem.W.mg_of X G a14) b14 (ok_with_steps 7 10 F14 Z (x_first_gap.mono (by decide)) (x_meet_of.mono (by decide)) x_with_steps_7)
  have x_with_steps_9 : Cal l.prog w K mg base 12 "with_steps" 2 (sp_with_steps 9) := cal_of F14 (PySem.W.mg_of X G a14) b14 (ok_with_steps 8 11 F14 Z (x_first_gap.mono (by decide)) (x_meet_of.mono (by decide)) x_with_steps_8)
  have x_with_steps_10 : Cal l.prog w K mg base 13 "with_steps" 2 (sp_with_steps 10) := cal_of F14 (PySem.W.mg_of X G a14) b14 (ok_with_steps 9 12 F14 Z (x_first_gap.mono (by decide)) (x_meet_of.mono (by decide)) x_with_steps_9)
  have x_with_steps_11 : Cal l.prog w K mg base 14 "with_steps" 2 (sp_with_steps 11) := cal_of F14 (PySem.W.mg_of X G a14) b14 (ok_with_steps 10 13 F14 Z (x_first_gap.mono (by decide)) (x_meet_of.mono (by decide)) x_with_steps_10)
  have x_with_steps := x_with_steps_11
  have b15 := F15.binds (ps := ["steps"]) fun _ _ _ _ _ _ us hl => match us, hl with | [_], _ => rfl
  have x_exact_with : Cal l.prog w K mg base 15 "exact_with" 1 sp_exact_with := cal_of F15 (PySem.W.mg_of X G a15) b15 (ok_exact_with F15 Z (x_shares_of.mono (by decide)) (x_with_steps.mono (by decide)))
  have b16 := F16.binds (ps := ["script", "k"]) fun _ _ _ _ _ _ us hl => match us, hl with | [_, _], _ => rfl
  have x__law_cell_at : Cal l.prog w K mg base 1 "_law_cell_at" 2 sp__law_cell_at := cal_of F16 (PySem.W.mg_of X G a16) b16 (ok__law_cell_at F16 Z )
  have b17 := F17.binds (ps := ["seed"]) fun _ _ _ _ _ _ us hl => match us, hl with | [_], _ => rfl
  have x__law_next : Cal l.prog w K mg base 1 "_law_next" 1 sp__law_next := cal_of F17 (PySem.W.mg_of X G a17) b17 (ok__law_next F17 Z )
  have b18 := F18.binds (ps := ["cell"]) fun _ _ _ _ _ _ us hl => match us, hl with | [_], _ => rfl
  have x__law_pen_of : Cal l.prog w K mg base 1 "_law_pen_of" 1 sp__law_pen_of := cal_of F18 (PySem.W.mg_of X G a18) b18 (ok__law_pen_of F18 Z )
  have b19 := F19.binds (ps := ["pen", "many"]) fun _ _ _ _ _ _ us hl => match us, hl with | [_, _], _ => rfl
  have x__law_draw : Cal l.prog w K mg base 2 "_law_draw" 2 sp__law_draw := cal_of F19 (PySem.W.mg_of X G a19) b19 (ok__law_draw F19 Z (x__law_next.mono (by decide)))
  have b20 := F20.binds (ps := ["found"]) fun _ _ _ _ _ _ us hl => match us, hl with | [_], _ => rfl
  have x__law_whole : Cal l.prog w K mg base 1 "_law_whole" 1 sp__law_whole := cal_of F20 (PySem.W.mg_of X G a20) b20 (ok__law_whole F20 Z )
  have b21 := F21.binds (ps := ["pen", "least", "most"]) fun _ _ _ _ _ _ us hl => match us, hl with | [_, _, _], _ => rfl
  have x__law_parts_by : Cal l.prog w K mg base 3 "_law_parts_by" 3 sp__law_parts_by := cal_of F21 (PySem.W.mg_of X G a21) b21 (ok__law_parts_by F21 Z (x__law_draw.mono (by decide)))
  have b22 := F22.binds (ps := ["one", "other"]) fun _ _ _ _ _ _ us hl => match us, hl with | [_, _], _ => rfl
  have x__law_common : Cal l.prog w K mg base 1 "_law_common" 2 sp__law_common := cal_of F22 (PySem.W.mg_of X G a22) b22 (ok__law_common F22 Z )
  have b23 := F23.binds (ps := ["clocks"]) fun _ _ _ _ _ _ us hl => match us, hl with | [_], _ => rfl
  have x__law_round : Cal l.prog w K mg base 2 "_law_round" 1 sp__law_round_k03 := cal_of F23 (PySem.W.mg_of X G a23) b23 (ok__law_round F23 Z (x__law_common.mono (by decide)))
  have b24 := F24.binds (ps := ["clocks"]) fun _ _ _ _ _ _ us hl => match us, hl with | [_], _ => rfl
  have x__law_exact : Cal l.prog w K mg base 3 "_law_exact" 1 sp__law_exact := cal_of F24 (PySem.W.mg_of X G a24) b24 (ok__law_exact F24 Z (x__law_round.mono (by decide)) (x__law_common.mono (by decide)))
  have b25 := F25.binds (ps := ["steps", "clocks"]) fun _ _ _ _ _ _ us hl => match us, hl with | [_, _], _ => rfl
  have x__law_all_with_0 : Cal l.prog w K mg base 1 "_law_all_with" 2 (sp__law_all_with 0) := cal_never F25 (PySem.W.mg_of X G a25) b25
  have x__law_all_with_1 : Cal l.prog w K mg base 2 "_law_all_with" 2 (sp__law_all_with 1) := cal_of F25 (PySem.W.mg_of X G a25) b25 (ok__law_all_with 0 1 F25 Z (x__law_common.mono (by decide)) x__law_all_with_0)
  have x__law_all_with_2 : Cal l.prog w K mg base 3 "_law_all_with" 2 (sp__law_all_with 2) := cal_of F25 (PySem.W.mg_of X G a25) b25 (ok__law_all_with 1 2 F25 Z (x__law_common.mono (by decide)) x__law_all_with_1)
  have x__law_all_with_3 : Cal l.prog w K mg base 4 "_law_all_with" 2 (sp__law_all_with 3) := cal_of F25 (PySem.W.mg_of X G a25) b25 (ok__law_all_with 2 3 F25 Z (x__law_common.mono (by decide)) x__law_all_with_2)
  have x__law_all_with_4 : Cal l.prog w K mg base 5 "_law_all_with" 2 (sp__law_all_with 4) := cal_of F25 (PySem.W.mg_of X G a25) b25 (ok__law_all_with 3 4 F25 Z (x__law_common.mono (by decide)) x__law_all_with_3)
  have x__law_all_with_5 : Cal l.prog w K mg base 6 "_law_all_with" 2 (sp__law_all_with 5) := cal_of F25 (PySem.W.mg_of X G a25) b25 (ok__law_all_with 4 5 F25 Z (x__law_common.mono (by decide)) x__law_all_with_4)
  have x__law_all_with_6 : Cal l.prog w K mg base 7 "_law_all_with" 2 (sp__law_all_with 6) := cal_of F25 (PySem.W.mg_of X G a25) b25 (ok__law_all_with 5 6 F25 Z (x__law_common.mono (by decide)) x__law_all_with_5)
  have x__law_all_with_7 : Cal l.prog w K mg base 8 "_law_all_with" 2 (sp__law_all_with 7) := cal_of F25 (PySem.W.mg_of X G a25) b25 (ok__law_all_with 6 7 F25 Z (x__law_common.mono (by decide)) x__law_all_with_6)
  have x__law_all_with_8 : Cal l.prog w K mg base 9 "_law_all_with" 2 (sp__law_all_with 8) := cal_of F25 (PySem.W.mg_of X G a25) b25 (ok__law_all_with 7 8 F25 Z (x__law_common.mono (by decide)) x__law_all_with_7)
  have x__law_all_with_9 : Cal l.prog w K mg base 10 "_law_all_with" 2 (sp__law_all_with 9) := cal_of F25 (PySem.W.mg_of X G a25) b25 (ok__law_all_with 8 9 F25 Z (x__law_common.mono (by decide)) x__law_all_with_8)
  have x__law_all_with_10 : Cal l.prog w K mg base 11 "_law_all_with" 2 (sp__law_all_with 10) := cal_of F25 (PySem.W.mg_of X G a25) b25 (ok__law_all_with 9 10 F25 Z (x__law_common.mono (by decide)) x__law_all_with_9)
  have x__law_all_with_11 : Cal l.prog w K mg base 12 "_law_all_with" 2 (sp__law_all_with 11) := cal_of F25 (PySem.W.mg_of X G a25) b25 (ok__law_all_with 10 11 F25 Z (x__law_common.mono (by decide)) x__law_all_with_10)
  have x__law_all_with := x__law_all_with_11
  have b26 := F26.binds (ps := ["made"]) fun _ _ _ _ _ _ us hl => match us, hl with | [_], _ => rfl
  have x__law_right : Cal l.prog w K mg base 16 "_law_right" 1 sp__law_right_k63 := cal_of F26 (PySem.W.mg_of X G a26) b26 (ok__law_right F26 Z (x_exact_with.mono (by decide)) (x__law_whole.mono (by decide)) (x__law_all_with.mono (by decide)) (x__law_exact.mono (by decide)))
  have b27 := F27.binds (ps := ["n"]) fun _ _ _ _ _ _ us hl => match us, hl with | [_], _ => rfl
  have x__law_steps_right : Cal l.prog w K mg base 21 "_law_steps_right" 1 sp__law_steps_right := cal_of F27 (PySem.W.mg_of X G a27) b27 (ok__law_steps_right F27 Z (x_exact_of.mono (by decide)) (x_exact_steps.mono (by decide)) (x__law_whole.mono (by decide)))
  have b28 := F28.binds (ps := ["steps"]) fun _ _ _ _ _ _ us hl => match us, hl with | [_], _ => rfl
  have x__law_none_right : Cal l.prog w K mg base 16 "_law_none_right" 1 sp__law_none_right := cal_of F28 (PySem.W.mg_of X G a28) b28 (ok__law_none_right F28 Z (x__law_round.mono (by decide)) (x_exact_with.mono (by decide)))
  exact top_ok (ok_law F29 Z (x_exact_with.mono (by decide)) (x__law_cell_at.mono (by decide)) (x__law_pen_of.mono (by decide)) (x__law_draw.mono (by decide)) (x__law_steps_right.mono (by decide)) (x__law_parts_by.mono (by decide)) (x__law_right.mono (by decide)) (x__law_none_right.mono (by decide)))
end K63
end Dl
end L2
open PySem PySem.W PyProof.Rows
set_option maxHeartbeats 0 in
theorem PySem.Challenge.cw_coverclocks_k63_exact_clocks_by_steps_holds : PySem.Challenge.rw_coverclocks_k63_exact_clocks_by_steps.Holds := by
  w_on; o_law; k_head; (case hw => w_witness2)
  k_fill
  refine L2.walk_of (l := PySem.Challenge.rw_coverclocks_k63_exact_clocks_by_steps) (n := 63) (k := 22) (x := "script") (CX := fun w => L2N.CX PySem.Challenge.rw_coverclocks_k63_exact_clocks_by_steps.prog w) (sp := fun w => L2.Dl.spTop _) rfl (by decide) rfl ⟨rfl, by decide, by decide⟩ (fun w h Y => PySem.W.kIn_of Y) ?F (fun _ _ a ns hl hO hS => ⟨a, ns, rfl, hl, hS, fun _ _ e => e⟩) (fun _ _ _ _ _ h => L2.Dl.noCX h)
  case F =>
    intro w mg fa h KX G hmg
    refine' L2.Dl.K63.all_mk KX G hmg ?a1 ?l1 ?c1 ?k1 ?a2 ?l2 ?c2 ?k2 ?a3 ?l3 ?c3 ?k3 ?a4 ?l4 ?c4 ?k4 ?a5 ?l5 ?c5 ?k5 ?a6 ?l6 ?c6 ?k6 ?a7 ?l7 ?c7 ?k7 ?a8 ?l8 ?c8 ?k8 ?a9 ?l9 ?c9 ?k9 ?a10 ?l10 ?c10 ?k10 ?a11 ?l11 ?c11 ?k11 ?a12 ?l12 ?c12 ?k12 ?a13 ?l13 ?c13 ?k13 ?a14 ?l14 ?c14 ?k14 ?a15 ?l15 ?c15 ?k15 ?a16 ?l16 ?c16 ?k16 ?a17 ?l17 ?c17 ?k17 ?a18 ?l18 ?c18 ?k18 ?a19 ?l19 ?c19 ?k19 ?a20 ?l20 ?c20 ?k20 ?a21 ?l21 ?c21 ?k21 ?a22 ?l22 ?c22 ?k22 ?a23 ?l23 ?c23 ?k23 ?a24 ?l24 ?c24 ?k24 ?a25 ?l25 ?c25 ?k25 ?a26 ?l26 ?c26 ?k26 ?a27 ?l27 ?c27 ?k27 ?a28 ?l28 ?c28 ?k28 ?a29 ?l29 ?c29 ?k29 ?z1 ?z2 ?z3 ?z4 ?z5 ?z6 ?z7 ?z8 ?z9 ?z10 ?z11 ?z12 ?z13
    (case a1 => k_is)
    (case l1 => k_is)
    (case c1 => k_is)
    (case k1 => k_is)
    (case a2 => k_is)
    (case l2 => k_is)
    (case c2 => k_is)
    (case k2 => k_is)
    (case a3 => k_is)
    (case l3 => k_is)
    (case c3 => k_is)
    (case k3 => k_is)
    (case a4 => k_is)
    (case l4 => k_is)
    (case c4 => k_is)
    (case k4 => k_is)
    (case a5 => k_is)
    (case l5 => k_is)
    (case c5 => k_is)
    (case k5 => k_is)
    (case a6 => k_is)
    (case l6 => k_is)
    (case c6 => k_is)
    (case k6 => k_is)
    (case a7 => k_is)
    (case l7 => k_is)
    (case c7 => k_is)
    (case k7 => k_is)
    (case a8 => k_is)
    (case l8 => k_is)
    (case c8 => k_is)
    (case k8 => k_is)
    (case a9 => k_is)
    (case l9 => k_is)
    (case c9 => k_is)
    (case k9 => k_is)
    (case a10 => k_is)
    (case l10 => k_is)
    (case c10 => k_is)
    (case k10 => k_is)
    (case a11 => k_is)
    (case l11 => k_is)
    (case c11 => k_is)
    (case k11 => k_is)
    (case a12 => k_is)
    (case l12 => k_is)
    (case c12 => k_is)
    (case k12 => k_is)
    (case a13 => k_is)
    (case l13 => k_is)
    (case c13 => k_is)
    (case k13 => k_is)
    (case a14 => k_is)
    (case l14 => k_is)
    (case c14 => k_is)
    (case k14 => k_is)
    (case a15 => k_is)
    (case l15 => k_is)
    (case c15 => k_is)
    (case k15 => k_is)
    (case a16 => k_is)
    (case l16 => k_is)
    (case c16 => k_is)
    (case k16 => k_is)
    (case a17 => k_is)
    (case l17 => k_is)
    (case c17 => k_is)
    (case k17 => k_is)
    (case a18 => k_is)
    (case l18 => k_is)
    (case c18 => k_is)
    (case k18 => k_is)
    (case a19 => k_is)
    (case l19 => k_is)
    (case c19 => k_is)
    (case k19 => k_is)
    (case a20 => k_is)
    (case l20 => k_is)
    (case c20 => k_is)
    (case k20 => k_is)
    (case a21 => k_is)
    (case l21 => k_is)
    (case c21 => k_is)
    (case k21 => k_is)
    (case a22 => k_is)
    (case l22 => k_is)
    (case c22 => k_is)
    (case k22 => k_is)
    (case a23 => k_is)
    (case l23 => k_is)
    (case c23 => k_is)
    (case k23 => k_is)
    (case a24 => k_is)
    (case l24 => k_is)
    (case c24 => k_is)
    (case k24 => k_is)
    (case a25 => k_is)
    (case l25 => k_is)
    (case c25 => k_is)
    (case k25 => k_is)
    (case a26 => k_is)
    (case l26 => k_is)
    (case c26 => k_is)
    (case k26 => k_is)
    (case a27 => k_is)
    (case l27 => k_is)
    (case c27 => k_is)
    (case k27 => k_is)
    (case a28 => k_is)
    (case l28 => k_is)
    (case c28 => k_is)
    (case k28 => k_is)
    (case a29 => k_is)
    (case l29 => k_is)
    (case c29 => k_is)
    (case k29 => k_is)
    (case z1 => k_is)
    (case z2 => k_is)
    (case z3 => k_is)
    (case z4 => k_is)
    (case z5 => k_is)
    (case z6 => k_is)
    (case z7 => k_is)
    (case z8 => k_is)
    (case z9 => k_is)
    (case z10 => k_is)
    (case z11 => k_is)
    (case z12 => k_is)
    (case z13 => k_is)

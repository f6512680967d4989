import PyProof.Rows.All
import HandS.ForMost
import HandS.ForExc
import HandS.CallSlots
import HandS.IsInst
import HandS.Flow
import HandS.ExcCtx
import HandS.HotCalls
import HandS.ExcInit
import HandS.ExcField
import HandS.ExcIs
import HandS.TupAny
import HandS.TupLe
import HandS.Deep
import HandS.WideBits
import HandS.Conv
import KE.DataCmp
import HandS.Text
import HandS.SetFor
import HandS.Walk
import HandS.SortInts
import HandS.TupSets
import KE.SortData
import HandS.Zip
import HandS.Steps
import KE.KRevSl
import KE.KExcIs
import KE.DataFind
import HandS.ExcInitHot
import HandS.Iter
import HandS.Hot
import HandS.Comp
import KE.GoesMore
import PyProof.EnumMake
import HandS.TupMul
import HandS.Dict
import HandS.TupLen
import HandS.Small
import HandS.Strs
import KE.DataMinMax
import PyProof.SetRoads
import KE.KDictZip
import KE.KItemsList
import HandS.DictTup
import HandS.More
import PySem.Challenge.RW_coverclocks_k45_whole_rests_and_cases
set_option Elab.async false
set_option linter.all false
set_option autoImplicit false
set_option maxRecDepth 100000
set_option maxHeartbeats 4000000
/-! The D layer, 1: data by value over the abstract heap; slots; what relates them; judgements. -/
namespace L2
namespace Dl
open PySem PySem.Spec PyProof.Rows

/-! ### data that stand still in F -/
mutual
inductive Rp (K : PySem.W.Frag) (F : Hp) : V → PyData → Prop
  | non : Rp K F .non .none
  | bl (b : Bool) : Rp K F (.bl b) (.bool b)
  | int (i : Int) : Rp K F (.int i) (.int i)
  | str (x : Str) : Rp K F (.str x) (.str x)
  | lst {a : Addr} {xs : List V} {ds : List PyData} : SqL K F a xs → RpAll K F xs ds → Rp K F (.ref a) (.list ds)
  | tup {a : Addr} {xs : List V} {ds : List PyData} : F a = some (.tup xs) → RpAll K F xs ds → Rp K F (.ref a) (.tuple ds)
  | dct {a : Addr} : F a = some (.dK []) → Rp K F (.ref a) (.dict [])
inductive RpAll (K : PySem.W.Frag) (F : Hp) : List V → List PyData → Prop
  | nil : RpAll K F [] []
  | cons {v : V} {vs : List V} {d : PyData} {ds : List PyData} : Rp K F v d → RpAll K F vs ds → RpAll K F (v :: vs) (d :: ds)
end
theorem sqT_same {K : PySem.W.Frag} {H H' : Hp} {a : Addr} {xs : List V} (e : Same H H') (h : SqT K H a xs) : SqT K H' a xs := by
  rcases h with (h | ⟨o, h⟩) | h
  · exact .inl (.inl (e _ _ h))
  · exact .inl (.inr ⟨o, e _ _ h⟩)
  · exact .inr h
theorem SqT.of {K : PySem.W.Frag} {F : Hp} {a : Addr} {xs : List V} (h : F a = some (.tup xs)) : SqT K F a xs := .inl (.inl h)
section
variable {K : PySem.W.Frag} {F F' H : Hp}
mutual
theorem Rp.mono (s : Same F F') : ∀ (d : PyData) (v : V), Rp K F v d → Rp K F' v d
  | .none, _, h => by cases h; exact .non
  | .bool b, _, h => by cases h; exact .bl b
  | .int b, _, h => by cases h; exact .int b
  | .str b, _, h => by cases h; exact .str b
  | .list ds, _, h => by
    cases h with
    | lst a b => exact .lst (s.seq a) (RpAll.mono s ds _ b)
  | .tuple ds, _, h => by
    cases h with
    | tup a b => exact .tup (s _ _ a) (RpAll.mono s ds _ b)
  | .dict _, _, h => by
    cases h with
    | dct a => exact .dct (s _ _ a)
theorem RpAll.mono (s : Same F F') : ∀ (ds : List PyData) (vs : List V), RpAll K F vs ds → RpAll K F' vs ds
  | [], _, h => by cases h; exact .nil
  | d :: ds, _, h => by
    cases h with
    | cons a b => exact .cons (Rp.mono s d _ a) (RpAll.mono s ds _ b)
end
theorem RpAll.length : ∀ {vs : List V} {ds : List PyData}, RpAll K F vs ds → vs.length = ds.length
  | _, [], h => by cases h; rfl
  | _, d :: ds, h => by
    cases h with
    | cons a b => rw [List.length_cons, List.length_cons, b.length]
theorem RpAll.append : ∀ {vs : List V} {ds : List PyData} {ws : List V} {es : List PyData}, RpAll K F vs ds → RpAll K F ws es → RpAll K F (vs ++ ws) (ds ++ es)
  | _, [], _, _, h, k => by cases h; exact k
  | _, d :: ds, _, _, h, k => by
    cases h with
    | cons a b => exact .cons a (RpAll.append b k)
theorem RpAll.get : ∀ {vs : List V} {ds : List PyData} {i : Nat} {d : PyData}, RpAll K F vs ds → ds[i]? = some d → ∃ v, vs[i]? = some v ∧ Rp K F v d
  | _, [], _, _, _, e => by simp at e
  | _, x :: ds, 0, d, h, e => by
    cases h with
    | cons a b =>
      have e' : x = d := by simpa using e
      subst e'
      exact ⟨_, rfl, a⟩
  | _, x :: ds, i + 1, d, h, e => by
    cases h with
    | cons a b =>
      obtain ⟨v, h1, h2⟩ := RpAll.get (i := i) b (by simpa using e)
      exact ⟨v, by simpa using h1, h2⟩
theorem RpAll.get2 : ∀ {vs : List V} {ds : List PyData} {i : Nat} {v : V}, RpAll K F vs ds → vs[i]? = some v → ∃ d, ds[i]? = some d ∧ Rp K F v d := fun {vs ds i v} h e => by
  have hl := h.length
  have hi : i < vs.length := (List.getElem?_eq_some_iff.mp e).1
  obtain ⟨w, e2, r⟩ := h.get (i := i) (d := ds[i]'(by omega)) (by simp [← hl, hi])
  rw [e] at e2
  cases e2
  exact ⟨_, by simp [← hl, hi], r⟩
theorem RpAll.take : ∀ {vs : List V} {ds : List PyData} (n : Nat), RpAll K F vs ds → RpAll K F (vs.take n) (ds.take n)
  | _, [], n, h => by cases h; cases n <;> exact .nil
  | _, d :: ds, 0, h => .nil
  | _, d :: ds, n + 1, h => by
    cases h with
    | cons a b => exact .cons a (b.take n)
theorem RpAll.drop : ∀ {vs : List V} {ds : List PyData} (n : Nat), RpAll K F vs ds → RpAll K F (vs.drop n) (ds.drop n)
  | _, [], n, h => by cases h; cases n <;> exact .nil
  | _, d :: ds, 0, h => h
  | _, d :: ds, n + 1, h => by
    cases h with
    | cons a b => exact b.drop n
theorem RpAll.set : ∀ {vs : List V} {ds : List PyData} (n : Nat) {v : V} {d : PyData}, RpAll K F vs ds → Rp K F v d → RpAll K F (vs.set n v) (ds.set n d)
  | _, [], n, _, _, h, r => by cases h; exact .nil
  | _, _ :: ds, 0, _, _, h, r => by
    cases h with
    | cons a b => exact .cons r b
  | _, _ :: ds, n + 1, _, _, h, r => by
    cases h with
    | cons a b => exact .cons a (b.set n r)
theorem RpAll.erase : ∀ {vs : List V} {ds : List PyData} (n : Nat), RpAll K F vs ds → RpAll K F (vs.eraseIdx n) (ds.eraseIdx n)
  | _, [], n, h => by cases h; exact .nil
  | _, d :: ds, 0, h => by
    cases h with
    | cons a b => exact b
  | _, d :: ds, n + 1, h => by
    cases h with
    | cons a b => exact .cons a (b.erase n)
theorem RpAll.reverse : ∀ {vs : List V} {ds : List PyData}, RpAll K F vs ds → RpAll K F vs.reverse ds.reverse
  | _, [], h => by cases h; exact .nil
  | _, d :: ds, h => by
    cases h with
    | cons a b =>
      rw [List.reverse_cons, List.reverse_cons]
      exact b.reverse.append (.cons a .nil)
theorem RpAll.rep : ∀ {vs : List V} {ds : List PyData}, RpAll K F vs ds → ∀ k : Nat, RpAll K F (List.replicate k vs).flatten (List.replicate k ds).flatten
  | _, _, _, 0 => .nil
  | _, _, h, k + 1 => by
    rw [List.replicate_succ, List.replicate_succ, List.flatten_cons, List.flatten_cons]
    exact h.append (h.rep k)
theorem RpAll.ints : ∀ {ns : List Int} {vs : List V}, RpAll K F vs (ns.map .int) → vs = ns.map .int
  | [], _, h => by cases h; rfl
  | n :: ns, _, h => by
    cases h with
    | cons a b =>
      cases a
      rw [b.ints]
      rfl
theorem RpAll.of_ints : ∀ (ns : List Int), RpAll K F (ns.map .int) (ns.map .int)
  | [] => .nil
  | n :: ns => .cons (.int n) (RpAll.of_ints ns)
theorem RpAll.bools : ∀ {bs : List Bool} {vs : List V}, RpAll K F vs (bs.map .bool) → vs = bs.map .bl
  | [], _, h => by cases h; rfl
  | n :: ns, _, h => by
    cases h with
    | cons a b =>
      cases a
      rw [b.bools]
      rfl
end

/-! ### slots -/
inductive Sl where
  | un
  | val (d : PyData)
  | own (l : Bool) (ds : List PyData)
  | dct (kvs : List (List Int × PyData))
abbrev Ev := List Sl
inductive Rs where
  | val (d : PyData)
  | slot (i : Nat)
  | tmp (ds : List PyData)
/-- an exception: its class's name, its fields -/
structure XD where
  name : Str
  fs : List (Str × PyData)
/-- the ground of a def's run: the heap and the frozen part at its entry, the lent slots with their addresses, the module's names -/
structure Bs where
  H0 : Hp
  F0 : Hp
  lent : List (Nat × Addr)
  mg : Str → Option Value
  fns : List (Nat × Addr) := []
/-- the places that hold what they held -/
abbrev Bs.all (B : Bs) : List (Nat × Addr) := B.lent ++ B.fns

/-- a value of a dict: no object -/
def vOf : PyData → V
  | .int i => .int i
  | .bool b => .bl b
  | .str x => .str x
  | _ => .non
def kvO (kvs : List (List Int × PyData)) : List (List Key × V) := kvs.map fun p => (p.1.map Sum.inl, vOf p.2)
/-- nothing stood there, or the thing is a tuple -/
def Nw0 (H : Hp) (b : Addr) (x : HO) : Prop := H b = none ∨ ∃ ys, x = .tup ys
/-- nothing stood there, or just this tuple -/
def Nw1 (H : Hp) (b : Addr) (x : HO) : Prop := H b = none ∨ (H b = some x ∧ ∃ ys, x = .tup ys)
theorem Nw1.lst {H : Hp} {b : Addr} {x : HO} {vs : List V} (h : Nw1 H b x) (e : H b = some (.lst vs)) : False := by
  rcases h with h | ⟨h, ys, rfl⟩
  · rw [e] at h; cases h
  · rw [e] at h; cases h
theorem Nw1.dT {H : Hp} {b : Addr} {x : HO} {ks : List (List Key × V)} (h : Nw1 H b x) (e : H b = some (.dT ks)) : False := by
  rcases h with h | ⟨h, ys, rfl⟩
  · rw [e] at h; cases h
  · rw [e] at h; cases h
def slR (K : PySem.W.Frag) (F H : Hp) : Option Sl → Option (Option V) → Prop
  | some (.val d), o => ∃ v, o = some (some v) ∧ Rp K F v d
  | some (.own _ ds), o => ∃ a vs, o = some (some (.ref a)) ∧ H a = some (.lst vs) ∧ F a = none ∧ RpAll K F vs ds
  | some (.dct kvs), o => ∃ a, o = some (some (.ref a)) ∧ H a = some (.dT (kvO kvs)) ∧ F a = none
  | _, _ => True
def ownL (env : Ev) (σ : St) (a : Addr) : Prop := ∃ (i : Nat) (l : Bool) (ds : List PyData), env[i]? = some (Sl.own l ds) ∧ σ[i]? = some (some (.ref a))
def ownAt (env : Ev) (σ : St) (a : Addr) : Prop := ownL env σ a ∨ ∃ (i : Nat) (kvs : List (List Int × PyData)), env[i]? = some (Sl.dct kvs) ∧ σ[i]? = some (some (.ref a))
structure Rl (K : PySem.W.Frag) (B : Bs) (F H : Hp) (env : Ev) (σ : St) : Prop where
  len : env.length = σ.length
  sub : Same F H
  sl : ∀ i : Nat, slR K F H env[i]? σ[i]?
  dist : ∀ (i j : Nat) (l m : Bool) (ds es : List PyData) (a : Addr), env[i]? = some (Sl.own l ds) → env[j]? = some (Sl.own m es) → σ[i]? = some (some (.ref a)) → σ[j]? = some (some (.ref a)) → i = j
  sub0 : Same B.F0 F
  new : ∀ b x, F b = some x → B.F0 b = some x ∨ Nw0 B.H0 b x
  frm : ∀ b x, B.H0 b = some x → (∀ p ∈ B.lent, p.2 ≠ b) → H b = some x
  dom : ∀ b, B.H0 b ≠ none → H b ≠ none
  own0 : ∀ (i : Nat) (ds : List PyData) (a : Addr), env[i]? = some (Sl.own false ds) → σ[i]? = some (some (.ref a)) → B.H0 a = none
  own1 : ∀ (i : Nat) (ds : List PyData) (a : Addr), env[i]? = some (Sl.own true ds) → σ[i]? = some (some (.ref a)) → ∃ p ∈ B.lent, p.2 = a
  lsl : ∀ p ∈ B.all, σ[p.1]? = some (some (.ref p.2))
  dd : ∀ (i j : Nat) (kv kw : List (List Int × PyData)) (a : Addr), env[i]? = some (Sl.dct kv) → env[j]? = some (Sl.dct kw) → σ[i]? = some (some (.ref a)) → σ[j]? = some (some (.ref a)) → i = j
  d0 : ∀ (i : Nat) (kv : List (List Int × PyData)) (a : Addr), env[i]? = some (Sl.dct kv) → σ[i]? = some (some (.ref a)) → B.H0 a = none
structure Fm (env : Ev) (σ : St) (F H : Hp) (env' : Ev) (F' H' : Hp) : Prop where
  keep : ∀ b x, H b = some x → ¬ ownAt env σ b → H' b = some x
  sub : Same F F'
  new : ∀ b x, F' b = some x → F b = some x ∨ Nw1 H b x ∨ ownAt env σ b
  own : ∀ (i : Nat) (l : Bool) (ds : List PyData), env'[i]? = some (Sl.own l ds) → ∃ ds0, env[i]? = some (Sl.own l ds0)
  dom : ∀ b, H b ≠ none → H' b ≠ none
  od : ∀ (i : Nat) (kv : List (List Int × PyData)), env'[i]? = some (Sl.dct kv) → ∃ kw, env[i]? = some (Sl.dct kw)
section
variable {env env1 env2 : Ev} {σ : St} {F F1 F2 H H1 H2 : Hp}
theorem Fm.refl : Fm env σ F H env F H := ⟨fun _ _ h _ => h, fun _ _ h => h, fun _ _ h => .inl h, fun _ _ _ h => ⟨_, h⟩, fun _ h => h, fun _ _ h => ⟨_, h⟩⟩
theorem Fm.ownAt (f : Fm env σ F H env1 F1 H1) {a : Addr} (h : L2.Dl.ownAt env1 σ a) : L2.Dl.ownAt env σ a := by
  rcases h with ⟨i, l, ds, h1, h2⟩ | ⟨i, kv, h1, h2⟩
  · obtain ⟨ds0, h3⟩ := f.own i l ds h1
    exact .inl ⟨i, l, ds0, h3, h2⟩
  · obtain ⟨kw, h3⟩ := f.od i kv h1
    exact .inr ⟨i, kw, h3, h2⟩
theorem Fm.trans (f : Fm env σ F H env1 F1 H1) (g : Fm env1 σ F1 H1 env2 F2 H2) : Fm env σ F H env2 F2 H2 where
  keep := fun b x h n => g.keep b x (f.keep b x h n) fun q => n (f.ownAt q)
  sub := f.sub.trans g.sub
  new := fun b x h => by
    rcases g.new b x h with h | h | h
    · exact f.new b x h
    · cases q : H b with
      | none => exact .inr (.inl (.inl q))
      | some y =>
        by_cases o : L2.Dl.ownAt env σ b
        · exact .inr (.inr o)
        · rcases h with h | ⟨h, z⟩
          · rw [f.keep b y q o] at h
            cases h
          · rw [f.keep b y q o] at h
            exact .inr (.inl (.inr ⟨q.trans h, z⟩))
    · exact .inr (.inr (f.ownAt h))
  own := fun i l ds h => by
    obtain ⟨ds0, h1⟩ := g.own i l ds h
    exact f.own i l ds0 h1
  dom := fun b h => g.dom b (f.dom b h)
  od := fun i kv h => by
    obtain ⟨kw, h1⟩ := g.od i kv h
    exact f.od i kw h1
end

def Res (K : PySem.W.Frag) (B : Bs) (F H : Hp) (env : Ev) (σ : St) (v : V) : Rs → Prop
  | .val d => Rp K F v d
  | .slot i => σ[i]? = some (some v)
  | .tmp ds => ∃ p vs, v = .ref p ∧ H p = some (.lst vs) ∧ F p = none ∧ B.H0 p = none ∧ ¬ ownAt env σ p ∧ RpAll K F vs ds
/-- what a result is worth now -/
def rd (env : Ev) : Rs → Option PyData
  | .val d => some d
  | .slot i => match env[i]? with
    | some (.val d) => some d
    | some (.own _ ds) => some (.list ds)
    | _ => none
  | .tmp ds => some (.list ds)
/-- data at v: in F, or a list in H of data in F -/
def Rt (K : PySem.W.Frag) (F H : Hp) (v : V) (d : PyData) : Prop := Rp K F v d ∨ ∃ a vs ds, v = .ref a ∧ d = .list ds ∧ H a = some (.lst vs) ∧ RpAll K F vs ds
section
variable {K : PySem.W.Frag} {B : Bs} {env env' : Ev} {σ : St} {F F' H H' : Hp} {v : V} {r : Rs} {d : PyData}
theorem Res.step (f : Fm env σ F H env' F' H') (h : Res K B F H env σ v r) : Res K B F' H' env' σ v r := by
  cases r with
  | val d => exact Rp.mono f.sub d v h
  | slot i => exact h
  | tmp ds =>
    obtain ⟨p, vs, h1, h2, h3, h4, h5, h6⟩ := h
    refine ⟨p, vs, h1, f.keep _ _ h2 h5, ?_, h4, fun q => h5 (f.ownAt q), RpAll.mono f.sub _ _ h6⟩
    cases q : F' p with
    | none => rfl
    | some x =>
      rcases f.new p x q with z | z | z
      · rw [h3] at z; cases z
      · exact (z.lst h2).elim
      · exact absurd z h5
theorem Res.rt (R : Rl K B F H env σ) (h : Res K B F H env σ v r) (e : rd env r = some d) : Rt K F H v d := by
  cases r with
  | val d' =>
    have e' : d' = d := by simpa [rd] using e
    subst e'
    exact .inl h
  | slot i =>
    have s := R.sl i
    have h' : σ[i]? = some (some v) := h
    simp only [rd] at e
    split at e
    · rename_i d' q
      cases e
      rw [q] at s
      obtain ⟨w, h1, h2⟩ := s
      rw [h'] at h1
      cases h1
      exact .inl h2
    · rename_i l ds q
      cases e
      rw [q] at s
      obtain ⟨a, vs, h1, h2, _, h4⟩ := s
      rw [h'] at h1
      cases h1
      exact .inr ⟨a, vs, ds, rfl, rfl, h2, h4⟩
    · cases e
  | tmp ds =>
    obtain ⟨p, vs, h1, h2, h3, h4, h5, h6⟩ := h
    have e' : PyData.list ds = d := by simpa [rd] using e
    subst e'
    exact .inr ⟨p, vs, ds, h1, rfl, h2, h6⟩
theorem Rt.h (s : Same F H) (h : Rt K F H v d) : Rp K H v d := by
  rcases h with h | ⟨a, vs, ds, rfl, rfl, h1, h2⟩
  · exact Rp.mono s d v h
  · exact .lst (SqL.of h1) (RpAll.mono s _ _ h2)
/-- a list, its items in F -/
theorem Rt.list {ds : List PyData} (s : Same F H) (h : Rt K F H v (.list ds)) : ∃ a vs, v = .ref a ∧ SqL K H a vs ∧ RpAll K F vs ds := by
  rcases h with h | ⟨a, vs, ds', rfl, e, h1, h2⟩
  · cases h with
    | lst h1 h2 => exact ⟨_, _, rfl, s.seq h1, h2⟩
  · cases e
    exact ⟨a, vs, rfl, SqL.of h1, h2⟩
theorem Rt.tuple {ds : List PyData} (s : Same F H) (h : Rt K F H v (.tuple ds)) : ∃ a vs, v = .ref a ∧ SqT K H a vs ∧ RpAll K F vs ds := by
  rcases h with h | ⟨a, vs, ds', rfl, e, h1, h2⟩
  · cases h with
    | tup h1 h2 => exact ⟨_, _, rfl, .inl (.inl (s _ _ h1)), h2⟩
  · cases e
theorem Rt.int {i : Int} (h : Rt K F H v (.int i)) : v = .int i := by
  rcases h with h | ⟨a, vs, ds', rfl, e, h1, h2⟩
  · cases h; rfl
  · cases e
theorem Rt.bool {i : Bool} (h : Rt K F H v (.bool i)) : v = .bl i := by
  rcases h with h | ⟨a, vs, ds', rfl, e, h1, h2⟩
  · cases h; rfl
  · cases e
theorem Rt.str {i : Str} (h : Rt K F H v (.str i)) : v = .str i := by
  rcases h with h | ⟨a, vs, ds', rfl, e, h1, h2⟩
  · cases h; rfl
  · cases e
theorem Rt.none (h : Rt K F H v .none) : v = .non := by
  rcases h with h | ⟨a, vs, ds', rfl, e, h1, h2⟩
  · cases h; rfl
  · cases e
theorem Rt.dict {kvs : List (PyData × PyData)} (s : Same F H) (h : Rt K F H v (.dict kvs)) : kvs = [] ∧ ∃ a, v = .ref a ∧ H a = some (.dK []) := by
  rcases h with h | ⟨a, vs, ds', rfl, e, h1, h2⟩
  · cases h with
    | dct h => exact ⟨rfl, _, rfl, s _ _ h⟩
  · cases e
/-- a new address is not of the entry -/
theorem Rl.free0 (R : Rl K B F H env σ) {p : Addr} (h : H p = none) : B.H0 p = none := by
  cases q : B.H0 p with
  | none => rfl
  | some x => exact absurd h (R.dom p (by rw [q]; simp))
theorem Rl.freeF (R : Rl K B F H env σ) {p : Addr} (h : H p = none) : F p = none := R.sub.free h
theorem Rl.ownH (R : Rl K B F H env σ) {p : Addr} (h : ownAt env σ p) : ∃ ob, H p = some ob ∧ F p = none ∧ ((∃ vs, ob = .lst vs) ∨ ∃ ks, ob = .dT ks) := by
  rcases h with ⟨i, l, ds, h1, h2⟩ | ⟨i, kv, h1, h2⟩
  · have s := R.sl i
    rw [h1] at s
    obtain ⟨a, vs, h3, h4, h5, _⟩ := s
    rw [h2] at h3
    cases h3
    exact ⟨_, h4, h5, .inl ⟨_, rfl⟩⟩
  · have s := R.sl i
    rw [h1] at s
    obtain ⟨a, h3, h4, h5⟩ := s
    rw [h2] at h3
    cases h3
    exact ⟨_, h4, h5, .inr ⟨_, rfl⟩⟩
theorem Rl.notOwn (R : Rl K B F H env σ) {p : Addr} (h : H p = none) : ¬ ownAt env σ p := fun q => by
  obtain ⟨vs, h1, _⟩ := R.ownH q
  rw [h] at h1
  cases h1
/-- F grows by an address that is not owned and not of the entry -/
theorem Rl.grow (R : Rl K B F H env σ) {p : Addr} {o : HO} (hF : F p = none) (h0 : B.H0 p = none) (ho : ¬ ownAt env σ p) (hH : H p = some o) : Rl K B (upd F p o) H env σ := by
  have s1 : Same F (upd F p o) := fun b x e => by rw [upd_ne (ne_of_none e hF)]; exact e
  refine ⟨R.len, fun b x e => ?_, fun i => ?_, R.dist, R.sub0.trans s1, fun b x e => ?_, R.frm, R.dom, R.own0, R.own1, R.lsl, R.dd, R.d0⟩
  · by_cases hb : b = p
    · subst hb
      rw [upd_same] at e
      cases e
      exact hH
    · rw [upd_ne hb] at e
      exact R.sub b x e
  · have s := R.sl i
    cases q : env[i]? with
    | none => trivial
    | some z =>
      rw [q] at s
      cases z with
      | un => trivial
      | val d =>
        obtain ⟨v, h1, h2⟩ := s
        exact ⟨v, h1, Rp.mono s1 _ _ h2⟩
      | own l ds =>
        obtain ⟨a, vs, h1, h2, h3, h4⟩ := s
        refine ⟨a, vs, h1, h2, ?_, RpAll.mono s1 _ _ h4⟩
        rw [upd_ne (fun z => ho (.inl ⟨i, l, ds, q, by rw [← z]; exact h1⟩))]
        exact h3
      | dct kv =>
        obtain ⟨a, h1, h2, h3⟩ := s
        refine ⟨a, h1, h2, ?_⟩
        rw [upd_ne (fun z => ho (.inr ⟨i, kv, q, by rw [← z]; exact h1⟩))]
        exact h3
  · by_cases hb : b = p
    · subst hb
      exact .inr (.inl h0)
    · rw [upd_ne hb] at e
      exact R.new b x e
/-- a new object is laid, not frozen -/
theorem Rl.lay (R : Rl K B F H env σ) {p : Addr} {o : HO} (hp : H p = none) : Rl K B F (upd H p o) env σ := by
  have s1 : Same H (upd H p o) := fun b x e => by rw [upd_ne (ne_of_none e hp)]; exact e
  refine ⟨R.len, R.sub.trans s1, fun i => ?_, R.dist, R.sub0, R.new, fun b x e n => s1 b x (R.frm b x e n), fun b e => ?_, R.own0, R.own1, R.lsl, R.dd, R.d0⟩
  · have s := R.sl i
    cases q : env[i]? with
    | none => trivial
    | some z =>
      rw [q] at s
      cases z with
      | un => trivial
      | val d => exact s
      | own l ds =>
        obtain ⟨a, vs, h1, h2, h3, h4⟩ := s
        exact ⟨a, vs, h1, s1 _ _ h2, h3, h4⟩
      | dct kv =>
        obtain ⟨a, h1, h2, h3⟩ := s
        exact ⟨a, h1, s1 _ _ h2, h3⟩
  · cases q : H b with
    | none => exact absurd q (R.dom b e)
    | some x => rw [s1 b x q]; simp
theorem fm_lay {p : Addr} {o : HO} (hp : H p = none) : Fm env σ F H env F (upd H p o) :=
  ⟨fun b x e _ => by rw [upd_ne (ne_of_none e hp)]; exact e, fun _ _ h => h, fun _ _ h => .inl h, fun _ _ _ h => ⟨_, h⟩, fun b e => by
    cases q : H b with
    | none => exact absurd q e
    | some x => rw [upd_ne (ne_of_none q hp), q]; simp, fun _ _ h => ⟨_, h⟩⟩
/-- a new object is laid and frozen -/
theorem Rl.layF (R : Rl K B F H env σ) {p : Addr} {o : HO} (hp : H p = none) : Rl K B (upd F p o) (upd H p o) env σ :=
  (R.lay (o := o) hp).grow (R.freeF hp) (R.free0 hp) (fun q => (R.notOwn hp) q) upd_same
theorem Rl.fmLayF (R : Rl K B F H env σ) {p : Addr} {o : HO} (hp : H p = none) : Fm env σ F H env (upd F p o) (upd H p o) := by
  have hF := R.freeF hp
  refine ⟨fun b x e _ => by rw [upd_ne (ne_of_none e hp)]; exact e, fun b x e => by rw [upd_ne (ne_of_none e hF)]; exact e, fun b x e => ?_, fun _ _ _ h => ⟨_, h⟩, fun b e => ?_, fun _ _ h => ⟨_, h⟩⟩
  · by_cases hb : b = p
    · subst hb; exact .inr (.inl (.inl hp))
    · rw [upd_ne hb] at e; exact .inl e
  · cases q : H b with
    | none => exact absurd q e
    | some x => rw [upd_ne (ne_of_none q hp), q]; simp
end
end Dl
end L2

/-! The D layer, 2: judgements, names, constants, operators, comparisons, tests. -/
namespace L2
namespace Dl
open PySem PySem.Spec PyProof.Rows

abbrev KE := Ev → Rs → Prop
abbrev KT := Ev → Bool → Prop
abbrev KXc := Ev → XD → Prop
abbrev WE := Ev → KE → KXc → Prop
abbrev WT := Ev → KT → KXc → Prop

def fsR (K : PySem.W.Frag) (F : Hp) (fs : List (Str × V)) (gs : List (Str × PyData)) : Prop := Paired (fun p q => p.1 = q.1 ∧ Rp K F p.2 q.2) fs gs
/-- an exception as it lies: its class, its dict -/
def XR (K : PySem.W.Frag) (B : Bs) (F H : Hp) (x : XD) (cls : Value) (d : Option Addr) : Prop :=
  B.mg x.name = some cls ∧ match d with
    | none => x.fs = []
    | some dx => ∃ fs, F dx = some (.xd fs) ∧ fsR K F fs x.fs
/-- what is wished of exceptions is so wherever Kx is -/
def XC (K : PySem.W.Frag) (B : Bs) (W : WX) (Kx : KXc) : Prop :=
  ∀ (σ : St) (env : Ev) (x : XD) (cls : Value) (d : Option Addr) (F H : Hp), Kx env x → Rl K B F H env σ → XR K B F H x cls d → W cls d σ H
/-- a temporary list is new -/
def Nw (H : Hp) (v : V) : Rs → Prop
  | .tmp _ => ∀ p, v = .ref p → H p = none
  | _ => True
theorem Nw.up {H H1 : Hp} {v : V} {r : Rs} (dom : ∀ b, H b ≠ none → H1 b ≠ none) (h : Nw H1 v r) : Nw H v r := by
  cases r with
  | val d => trivial
  | slot i => trivial
  | tmp ds =>
    intro p e
    cases q : H p with
    | none => rfl
    | some x => exact absurd (h p e) (dom p (by rw [q]; simp))
def DP (X : Cx) (B : Bs) (pins : List (Addr × Obj)) (σ : St) (F H : Hp) (env : Ev) (Ke : KE) (u : Value) (s' : Shared) : Prop :=
  ∃ v env' r F' H', Inv X pins σ H' s' ∧ RelV v u ∧ Rl X.K B F' H' env' σ ∧ Fm env σ F H env' F' H' ∧ Res X.K B F' H' env' σ v r ∧ Nw H v r ∧ Ke env' r
def DPT (X : Cx) (B : Bs) (pins : List (Addr × Obj)) (σ : St) (F H : Hp) (env : Ev) (Kt : KT) (b : Bool) (s' : Shared) : Prop :=
  ∃ env' F' H', Inv X pins σ H' s' ∧ Rl X.K B F' H' env' σ ∧ Fm env σ F H env' F' H' ∧ Kt env' b
structure DE (B : Bs) (W : WX) (X : Cx) (e : Expr) (w : WE) : Prop where
  run : ∀ (pins : List (Addr × Obj)) (s : Shared) (σ : St) (F H : Hp) (env : Ev) (Ke : KE) (Kx : KXc), Inv X pins σ H s → Rl X.K B F H env σ → w env Ke Kx → XC X.K B W Kx →
    wpAny (model X.prog X.w) X.A (eval e X.env) (DP X B pins σ F H env Ke) X.xe s
structure DT (B : Bs) (W : WX) (X : Cx) (e : Expr) (w : WT) : Prop where
  run : ∀ (pins : List (Addr × Obj)) (s : Shared) (σ : St) (F H : Hp) (env : Ev) (Kt : KT) (Kx : KXc), Inv X pins σ H s → Rl X.K B F H env σ → w env Kt Kx → XC X.K B W Kx →
    wpAny (model X.prog X.w) X.A (isTrue e X.env (eval e X.env)) (DPT X B pins σ F H env Kt) X.xe s
structure DW (B : Bs) (W : WX) (X : Cx) (e : Expr) (w : WT) : Prop where
  run : ∀ (whole : Sem Value) (pins : List (Addr × Obj)) (s : Shared) (σ : St) (F H : Hp) (env : Ev) (Kt : KT) (Kx : KXc), Inv X pins σ H s → Rl X.K B F H env σ → w env Kt Kx → XC X.K B W Kx →
    wpAny (model X.prog X.w) X.A (isTrue e X.env whole) (DPT X B pins σ F H env Kt) X.xe s
theorem DW.dt {B : Bs} {W : WX} {X : Cx} {e : Expr} {w : WT} (h : DW B W X e w) : DT B W X e w := ⟨h.run _⟩

section
variable {B : Bs} {W : WX} {X : Cx} {pins : List (Addr × Obj)} {σ : St} {F H F1 H1 : Hp} {env env1 : Ev} {Ke : KE} {Kt : KT} {u : Value} {s s' : Shared}
theorem DP.up (f : Fm env σ F H env1 F1 H1) (h : DP X B pins σ F1 H1 env1 Ke u s') : DP X B pins σ F H env Ke u s' := by
  obtain ⟨v, e', r, F', H', h1, h2, h3, h4, h5, h6, h7⟩ := h
  exact ⟨v, e', r, F', H', h1, h2, h3, f.trans h4, h5, h6.up f.dom, h7⟩
theorem DPT.up {b : Bool} (f : Fm env σ F H env1 F1 H1) (h : DPT X B pins σ F1 H1 env1 Kt b s') : DPT X B pins σ F H env Kt b s' := by
  obtain ⟨e', F', H', h1, h3, h4, h6⟩ := h
  exact ⟨e', F', H', h1, h3, f.trans h4, h6⟩
end

/-! ### names, constants -/
def wVar (i : Nat) : WE := fun env Ke _ => match env[i]? with
  | some (.val d) => Ke env (.val d)
  | some (.own _ _) => Ke env (.slot i)
  | _ => False
def wC (d : PyData) : WE := fun env Ke _ => Ke env (.val d)
section
variable {B : Bs} {W : WX} {X : Cx} {pos : Pos}
theorem de_var (i : Nat) {x : Str} (hN : X.N[i]? = some x) (hv : Vis X.env.scope x) (hd : (x == ("__debug__" : Str)) = false) (hcd : (x == ("__classdict__" : Str)) = false) : DE B W X (.Name x pos) (wVar i) := by
  refine ⟨fun pins s σ F H env Ke Kx I R h hx => ?_⟩
  have sl := R.sl i
  cases q : env[i]? with
  | none => simp only [wVar, q] at h
  | some z =>
    cases z with
    | un => simp only [wVar, q] at h
    | val d =>
      simp only [wVar, q] at h
      rw [q] at sl
      obtain ⟨v, e1, rp⟩ := sl
      exact (pe_var hN hv hd hcd).run pins s σ H (fun v H' => H' = H ∧ Rp X.K F v d) I ⟨v, e1, rfl, rp⟩ |> fun z => thn z fun u s1 ⟨v, H', I', r, e, rp⟩ => by
        subst e
        exact ⟨v, env, .val d, F, _, I', r, R, Fm.refl, rp, trivial, h⟩
    | own l ds =>
      simp only [wVar, q] at h
      rw [q] at sl
      obtain ⟨a, vs, e1, _⟩ := sl
      exact (pe_var hN hv hd hcd).run pins s σ H (fun v H' => H' = H ∧ v = .ref a) I ⟨_, e1, rfl, rfl⟩ |> fun z => thn z fun u s1 ⟨v, H', I', r, e, rp⟩ => by
        subst e rp
        exact ⟨_, env, .slot i, F, _, I', r, R, Fm.refl, e1, trivial, h⟩
    | dct kv => simp only [wVar, q] at h
theorem dv (i : Nat) {x : Str} (hN : X.N[i]? = some x := by rfl) (hv : Vis X.env.scope x := by first | exact Or.inl rfl | exact Or.inr (Or.inl rfl) | exact Or.inr (Or.inr rfl)) (hd : (x == ("__debug__" : Str)) = false := by decide)
    (hcd : (x == ("__classdict__" : Str)) = false := by decide) : DE B W X (.Name x pos) (wVar i) := de_var i hN hv hd hcd
/-- a constant, by HandS's rule -/
theorem de_const {e : Expr} {v : V} {d : PyData} (h : PE X e (tC v)) (r : ∀ F, Rp X.K F v d) : DE B W X e (wC d) := by
  refine ⟨fun pins s σ F H env Ke Kx I R hw hx => ?_⟩
  exact thn (h.run pins s σ H (fun w H' => H' = H ∧ w = v) I ⟨rfl, rfl⟩) fun u s1 ⟨w, H', I', rv, e, ev⟩ => by
    subst e ev
    exact ⟨_, env, .val d, F, _, I', rv, R, Fm.refl, r F, trivial, hw⟩
theorem de_int {i : Int} {j : Nat} : DE B W X (.Constant (.int i) j pos) (wC (.int i)) := de_const pe_int fun _ => .int i
theorem de_bl {b : Bool} {j : Nat} : DE B W X (.Constant (.bool b) j pos) (wC (.bool b)) := de_const pe_bl fun _ => .bl b
theorem de_non {j : Nat} : DE B W X (.Constant .none j pos) (wC .none) := de_const pe_non fun _ => .non
/-- a module's constant -/
theorem de_glob {x : Str} {v : V} {d : PyData} {u : Value} (hg : Gl X x) (hm : X.mg x = some u) (rv : RelV v u) (r : ∀ F, Rp X.K F v d) (hd : (x == ("__debug__" : Str)) = false := by decide) : DE B W X (.Name x pos) (wC d) := de_const (pe_glob hg hm rv hd) r
end

/-! ### operators -/
def RP (X : Cx) (B : Bs) (pins : List (Addr × Obj)) (σ : St) (F H : Hp) (env : Ev) (Kr : Rs → Prop) (u : Value) (s' : Shared) : Prop :=
  ∃ v r F' H', Inv X pins σ H' s' ∧ RelV v u ∧ Rl X.K B F' H' env σ ∧ Fm env σ F H env F' H' ∧ Res X.K B F' H' env σ v r ∧ Nw H v r ∧ Kr r
theorem RP.dp {X : Cx} {B : Bs} {pins : List (Addr × Obj)} {σ : St} {F H : Hp} {env : Ev} {Ke : KE} {u : Value} {s' : Shared} (h : RP X B pins σ F H env (Ke env) u s') : DP X B pins σ F H env Ke u s' := by
  obtain ⟨v, r, F', H', h1, h2, h3, h4, h5, h6, h7⟩ := h
  exact ⟨v, env, r, F', H', h1, h2, h3, h4, h5, h6, h7⟩
abbrev Op2 := PyData → PyData → (Rs → Prop) → Prop
structure DOp (X : Cx) (f : Value → Value → Sem Value) (o : Op2) : Prop where
  run : ∀ (B : Bs) (F : Hp) (env : Ev) (pins : List (Addr × Obj)) (s : Shared) (σ : St) (H : Hp) (x y : V) (v u : Value) (d e : PyData) (Kr : Rs → Prop), Inv X pins σ H s → RelV x v → RelV y u → Rl X.K B F H env σ → Rt X.K F H x d → Rt X.K F H y e → o d e Kr →
    wpAny (model X.prog X.w) X.A (f v u) (RP X B pins σ F H env Kr) X.xe s
def rdK (env : Ev) (r : Rs) (k : PyData → Prop) : Prop := ∃ d, rd env r = some d ∧ k d
def wBin (o : Op2) (wa wb : WE) : WE := fun env Ke Kx => wa env (fun env1 r1 => wb env1 (fun env2 r2 => rdK env2 r1 fun d1 => rdK env2 r2 fun d2 => o d1 d2 (Ke env2)) Kx) Kx
section
variable {B : Bs} {W : WX} {X : Cx} {pos : Pos} {a b c : Expr} {wa wb wc : WE}
theorem dbin {f : Value → Value → Sem Value} {o : Op2} (ho : DOp X f o) (ha : DE B W X a wa) (hb : DE B W X b wb) {pins : List (Addr × Obj)} {s : Shared} {σ : St} {F H : Hp} {env : Ev} {Ke : KE} {Kx : KXc} (I : Inv X pins σ H s) (R : Rl X.K B F H env σ) (h : wBin o wa wb env Ke Kx) (hx : XC X.K B W Kx) :
    wpAny (model X.prog X.w) X.A (eval a X.env) (fun v s₁ => wpAny (model X.prog X.w) X.A (eval b X.env) (fun u s₂ => wpAny (model X.prog X.w) X.A (f v u) (DP X B pins σ F H env Ke) X.xe s₂) X.xe s₁) X.xe s := by
  refine thn (ha.run pins s σ F H env _ Kx I R h hx) fun v s1 ⟨x, env1, r1, F1, H1, I1, rx, R1, f1, q1, n1, h1⟩ => ?_
  refine thn (hb.run pins s1 σ F1 H1 env1 _ Kx I1 R1 h1 hx) fun u s2 ⟨y, env2, r2, F2, H2, I2, ry, R2, f2, q2, n2, h2⟩ => ?_
  obtain ⟨d1, e1, d2, e2, h2⟩ := h2
  exact thn (ho.run B F2 env2 pins s2 σ H2 x y v u d1 d2 _ I2 rx ry R2 ((q1.step f2).rt R2 e1) (q2.rt R2 e2) h2) fun w s3 h3 => (h3.dp.up f2).up f1
theorem de_op {op : Operator} {o : Op2} (ho : DOp X (binaryOp op) o) (ha : DE B W X a wa) (hb : DE B W X b wb) : DE B W X (.BinOp a op b pos) (wBin o wa wb) :=
  ⟨fun pins s σ F H env Ke Kx I R h hx => wpAny_BinOp (dbin ho ha hb I R h hx)⟩
theorem de_cmp {op : CmpOp} {o : Op2} (ho : DOp X (compareOp op) o) (ha : DE B W X a wa) (hb : DE B W X b wb) (hm : behindInMarks op b = false := by first | exact nomark _ | rfl) : DE B W X (.Compare a [op] [b] pos) (wBin o wa wb) :=
  ⟨fun pins s σ F H env Ke Kx I R h hx => wpAny_Compare1 (dbin ho ha hb I R h hx) hm⟩
/-- a value as a test: a bool -/
def wTB (w : WE) : WT := fun env Kt Kx => w env (fun env' r => ∃ b, r = .val (.bool b) ∧ Kt env' b) Kx
theorem tb_end {pins : List (Addr × Obj)} {σ : St} {F H : Hp} {env : Ev} {Kt : KT} {u : Value} {s' : Shared} (h : DP X B pins σ F H env (fun env' r => ∃ b, r = .val (.bool b) ∧ Kt env' b) u s') :
    wpAny (model X.prog X.w) X.A (truthy u) (DPT X B pins σ F H env Kt) X.xe s' := by
  obtain ⟨v, env', r, F', H', I', rv, R', f', q', _, b, e, k⟩ := h
  subst e
  cases (show Rp X.K F' v (.bool b) from q')
  cases rv
  exact wpAny_truthy_bool ⟨env', F', H', I', R', f', k⟩
theorem dt_cmp {op : CmpOp} {o : Op2} (ho : DOp X (compareOp op) o) (ha : DE B W X a wa) (hb : DE B W X b wb) (hm : behindInMarks op b = false := by first | exact nomark _ | rfl) : DT B W X (.Compare a [op] [b] pos) (wTB (wBin o wa wb)) :=
  ⟨fun pins s σ F H env Kt Kx I R h hx => wpAny_isTrue_Compare1 (thn (dbin ho ha hb I R h hx) fun v s1 h1 => thn h1 fun u s2 h2 => thn h2 fun w s3 h3 => tb_end h3) hm⟩
/-- an expression whose value is a bool, as a test -/
theorem dt_val {e : Expr} {w : WE} (h : DE B W X e w) (he : ∀ whole, isTrue e X.env whole = (do let v ← whole; standAt e.pos; holding [v] (truthy v)) := by intro _; rfl) : DT B W X e (wTB w) :=
  ⟨fun pins s σ F H env Kt Kx I R hw hx => isTrue_plain (thn (h.run pins s σ F H env _ Kx I R hw hx) fun v s1 h1 => tb_end h1) (he _)⟩
/-! and, or, not as tests -/
variable {rest : List Expr} {ta tb : WT}
def wAnd (t u : WT) : WT := fun env Kt Kx => t env (fun env1 c => if c = true then u env1 Kt Kx else Kt env1 false) Kx
def wOr (t u : WT) : WT := fun env Kt Kx => t env (fun env1 c => if c = true then Kt env1 true else u env1 Kt Kx) Kx
def wNot (t : WT) : WT := fun env Kt Kx => t env (fun env1 c => Kt env1 (!c)) Kx
theorem dw_and1 (ha : DT B W X a ta) : DW B W X (.BoolOp .And [a] pos) ta := by
  refine ⟨fun wh pins s σ F H env Kt Kx I R h hx => ?_⟩
  refine isTrue_and (thn (ha.run pins s σ F H env Kt Kx I R h hx) fun c s1 e => ?_)
  cases c with
  | true => exact isTrue_and_nil e
  | false => exact e
theorem dw_or1 (ha : DT B W X a ta) : DW B W X (.BoolOp .Or [a] pos) ta := by
  refine ⟨fun wh pins s σ F H env Kt Kx I R h hx => ?_⟩
  refine isTrue_or (thn (ha.run pins s σ F H env Kt Kx I R h hx) fun c s1 e => ?_)
  cases c with
  | false => exact isTrue_or_nil e
  | true => exact e
theorem dw_and (ha : DT B W X a ta) (hb : DW B W X (.BoolOp .And (b :: rest) pos) tb) : DW B W X (.BoolOp .And (a :: b :: rest) pos) (wAnd ta tb) := by
  refine ⟨fun wh pins s σ F H env Kt Kx I R h hx => ?_⟩
  refine isTrue_and (thn (ha.run pins s σ F H env _ Kx I R h hx) fun c s1 ⟨env1, F1, H1, I1, R1, f1, q1⟩ => ?_)
  cases c with
  | true =>
    rw [if_pos rfl] at q1
    exact thn (hb.run _ pins s1 σ F1 H1 env1 Kt Kx I1 R1 q1 hx) fun b s2 h2 => h2.up f1
  | false =>
    rw [if_neg Bool.false_ne_true] at q1
    exact ⟨env1, F1, H1, I1, R1, f1, q1⟩
theorem dw_or (ha : DT B W X a ta) (hb : DW B W X (.BoolOp .Or (b :: rest) pos) tb) : DW B W X (.BoolOp .Or (a :: b :: rest) pos) (wOr ta tb) := by
  refine ⟨fun wh pins s σ F H env Kt Kx I R h hx => ?_⟩
  refine isTrue_or (thn (ha.run pins s σ F H env _ Kx I R h hx) fun c s1 ⟨env1, F1, H1, I1, R1, f1, q1⟩ => ?_)
  cases c with
  | false =>
    rw [if_neg Bool.false_ne_true] at q1
    exact thn (hb.run _ pins s1 σ F1 H1 env1 Kt Kx I1 R1 q1 hx) fun b s2 h2 => h2.up f1
  | true =>
    rw [if_pos rfl] at q1
    exact ⟨env1, F1, H1, I1, R1, f1, q1⟩
end
end Dl
end L2

/-! The D layer, 3: operators, comparisons, not/and/or as values, displays, subscripts. -/
namespace L2
namespace Dl
open PySem PySem.Spec PyProof.Rows

section
variable {B : Bs} {W : WX} {X : Cx} {pos : Pos} {a b c : Expr} {wa wb wc : WE} {ta tb : WT} {rest : List Expr}
theorem dt_not (ha : DT B W X a ta) : DT B W X (.UnaryOp .Not a pos) (wNot ta) := by
  refine ⟨fun pins s σ F H env Kt Kx I R h hx => ?_⟩
  exact isTrue_not (thn (ha.run pins s σ F H env _ Kx I R h hx) fun c s1 h1 => h1)
def wNotV (w : WE) : WE := fun env Ke Kx => w env (fun env1 r => ∃ c, r = .val (.bool c) ∧ Ke env1 (.val (.bool (!c)))) Kx
theorem de_not (ha : DE B W X a wa) : DE B W X (.UnaryOp .Not a pos) (wNotV wa) := by
  refine ⟨fun pins s σ F H env Ke Kx I R h hx => ?_⟩
  refine UnaryOp_ (thn (ha.run pins s σ F H env _ Kx I R h hx) fun v s1 ⟨x, env1, r1, F1, H1, I1, rx, R1, f1, q1, _, c, e, h1⟩ => ?_)
  subst e
  cases (show Rp X.K F1 x (.bool c) from q1)
  cases rx
  exact not_of (wpAny_truthy_bool ⟨.bl (!c), env1, .val (.bool (!c)), F1, H1, I1, rfl, R1, f1, Rp.bl _, trivial, h1⟩)
/-- a test's answer as a value: and, or of bools -/
def wBV (t : WT) : WE := fun env Ke Kx => t env (fun env1 b => Ke env1 (.val (.bool b))) Kx
def wAndV (wa wb : WE) : WE := fun env Ke Kx => wa env (fun env1 r => ∃ c, r = .val (.bool c) ∧ if c = true then wb env1 Ke Kx else Ke env1 (.val (.bool false))) Kx
def wOrV (wa wb : WE) : WE := fun env Ke Kx => wa env (fun env1 r => ∃ c, r = .val (.bool c) ∧ if c = true then Ke env1 (.val (.bool true)) else wb env1 Ke Kx) Kx
theorem de_one {op : BoolOp} (h : DE B W X a wa) : DE B W X (.BoolOp op [a] pos) wa := ⟨fun pins s σ F H env Ke Kx I R hw hx => BoolOp_one (h.run pins s σ F H env Ke Kx I R hw hx)⟩
theorem de_and (ha : DE B W X a wa) (hb : DE B W X (.BoolOp .And (b :: rest) pos) wb) : DE B W X (.BoolOp .And (a :: b :: rest) pos) (wAndV wa wb) := by
  refine ⟨fun pins s σ F H env Ke Kx I R h hx => ?_⟩
  refine BoolOp_and (thn (ha.run pins s σ F H env _ Kx I R h hx) fun v s1 ⟨x, env1, r1, F1, H1, I1, rx, R1, f1, q1, _, c, e, h1⟩ => ?_)
  subst e
  cases (show Rp X.K F1 x (.bool c) from q1)
  cases rx
  refine wpAny_truthy_bool ?_
  cases c with
  | true =>
    rw [if_pos rfl] at h1
    exact thn (hb.run pins s1 σ F1 H1 env1 Ke Kx I1 R1 h1 hx) fun u s2 h2 => h2.up f1
  | false =>
    rw [if_neg Bool.false_ne_true] at h1
    exact ⟨.bl false, env1, .val (.bool false), F1, H1, I1, rfl, R1, f1, Rp.bl _, trivial, h1⟩
theorem de_or (ha : DE B W X a wa) (hb : DE B W X (.BoolOp .Or (b :: rest) pos) wb) : DE B W X (.BoolOp .Or (a :: b :: rest) pos) (wOrV wa wb) := by
  refine ⟨fun pins s σ F H env Ke Kx I R h hx => ?_⟩
  refine BoolOp_or (thn (ha.run pins s σ F H env _ Kx I R h hx) fun v s1 ⟨x, env1, r1, F1, H1, I1, rx, R1, f1, q1, _, c, e, h1⟩ => ?_)
  subst e
  cases (show Rp X.K F1 x (.bool c) from q1)
  cases rx
  refine wpAny_truthy_bool ?_
  cases c with
  | false =>
    rw [if_neg Bool.false_ne_true] at h1
    exact thn (hb.run pins s1 σ F1 H1 env1 Ke Kx I1 R1 h1 hx) fun u s2 h2 => h2.up f1
  | true =>
    rw [if_pos rfl] at h1
    exact ⟨.bl true, env1, .val (.bool true), F1, H1, I1, rfl, R1, f1, Rp.bl _, trivial, h1⟩
def wIf (t : WT) (wa wb : WE) : WE := fun env Ke Kx => t env (fun env1 c => if c = true then wa env1 Ke Kx else wb env1 Ke Kx) Kx
theorem de_ifExp (hc : DT B W X c ta) (ha : DE B W X a wa) (hb : DE B W X b wb) : DE B W X (.IfExp c a b pos) (wIf ta wa wb) := by
  refine ⟨fun pins s σ F H env Ke Kx I R h hx => ?_⟩
  refine wpAny_IfExp (thn (hc.run pins s σ F H env _ Kx I R h hx) fun d s1 ⟨env1, F1, H1, I1, R1, f1, q1⟩ => ?_)
  cases d with
  | true =>
    rw [if_pos rfl] at q1
    exact thn (ha.run pins s1 σ F1 H1 env1 Ke Kx I1 R1 q1 hx) fun u s2 h2 => h2.up f1
  | false =>
    rw [if_neg Bool.false_ne_true] at q1
    exact thn (hb.run pins s1 σ F1 H1 env1 Ke Kx I1 R1 q1 hx) fun u s2 h2 => h2.up f1
def wNeg (w : WE) : WE := fun env Ke Kx => w env (fun env1 r => ∃ i, r = .val (.int i) ∧ Ke env1 (.val (.int (-i)))) Kx
theorem de_neg (ha : DE B W X a wa) : DE B W X (.UnaryOp .USub a pos) (wNeg wa) := by
  refine ⟨fun pins s σ F H env Ke Kx I R h hx => ?_⟩
  refine UnaryOp_ (thn (ha.run pins s σ F H env _ Kx I R h hx) fun v s1 ⟨x, env1, r1, F1, H1, I1, rx, R1, f1, q1, _, c, e, h1⟩ => ?_)
  subst e
  cases (show Rp X.K F1 x (.int c) from q1)
  exact thn (un_neg pins s1 σ H1 (.int c) v (fun w H' => H' = H1 ∧ w = .int (-c)) I1 rx ⟨c, rfl, rfl, rfl⟩) fun u s2 ⟨w, H', I', rv, e1, e2⟩ => by
    subst e1 e2
    exact ⟨_, env1, .val (.int (-c)), F1, _, I', rv, R1, f1, Rp.int _, trivial, h1⟩
end

/-! ### operators on data -/
def oAdd : Op2 := fun d e K => match d, e with
  | .int i, .int j => K (.val (.int (i + j)))
  | .str x, .str y => x.length + y.length ≤ sizeLine ∧ K (.val (.str (x ++ y)))
  | .list x, .list y => x.length + y.length ≤ sizeLine ∧ K (.tmp (x ++ y))
  | .tuple x, .tuple y => x.length + y.length ≤ sizeLine ∧ K (.val (.tuple (x ++ y)))
  | _, _ => False
def oI (C : Int → Int → Prop) (f : Int → Int → Int) : Op2 := fun d e K => match d, e with
  | .int i, .int j => C i j ∧ K (.val (.int (f i j)))
  | _, _ => False
abbrev CT : Int → Int → Prop := fun _ _ => True
def oSub : Op2 := fun d e K => match d, e with
  | .int i, .int j => K (.val (.int (i - j)))
  | _, _ => False
def oMul : Op2 := oI CMulX fun i j => i * j
def CFd (_ j : Int) : Prop := 0 < j ∧ j.natAbs.log2 < 9000
def oFdiv : Op2 := oI CFd fun i j => i / j
def oMod : Op2 := oI (fun _ j => 0 < j) fun i j => i % j
def oPow : Op2 := oI CPow fun i j => i ^ j.toNat
def oShl : Op2 := oI CShl fun i j => i * 2 ^ j.toNat
def oShr : Op2 := oI (fun _ j => 0 ≤ j) fun i j => i / 2 ^ j.toNat
def oOr : Op2 := oI CT fun i j => Builtin.bitOr i j
def oAndB : Op2 := oI CT fun i j => Builtin.bitAnd i j
/-- an order: of ints by f, of alike tuples by g -/
def oOrd (f : Int → Int → Bool) (g : PyData → PyData → Bool) : Op2 := fun d e K => match d, e with
  | .int i, .int j => K (.val (.bool (f i j)))
  | .tuple x, .tuple y => PySem.W.alike (.tuple x) (.tuple y) = true ∧ SeqAt.shaped (.tuple x) = true ∧ SeqAt.shaped (.tuple y) = true ∧ K (.val (.bool (g (.tuple x) (.tuple y))))
  | _, _ => False
def oLt : Op2 := oOrd (fun i j => decide (i < j)) (fun d e => PySem.W.dataLt d e)
def oLe : Op2 := oOrd (fun i j => decide (i ≤ j)) (fun d e => !PySem.W.dataLt e d)
def oGt : Op2 := oOrd (fun i j => decide (j < i)) (fun d e => PySem.W.dataLt e d)
def oGe : Op2 := oOrd (fun i j => decide (j ≤ i)) (fun d e => !PySem.W.dataLt d e)
def oEq : Op2 := fun d e K => SeqAt.shaped d = true ∧ SeqAt.shaped e = true ∧ K (.val (.bool (PyData.eqv d e)))
def oNe : Op2 := fun d e K => SeqAt.shaped d = true ∧ SeqAt.shaped e = true ∧ K (.val (.bool (!PyData.eqv d e)))
def isNone : PyData → Bool
  | .none => true
  | _ => false
def oIs : Op2 := fun d e K => match e with
  | .none => K (.val (.bool (isNone d)))
  | .bool b => match d with
    | .bool a => K (.val (.bool (decide (a = b))))
    | _ => False
  | _ => False
def oIsNot : Op2 := fun d e K => match e with
  | .none => K (.val (.bool (!isNone d)))
  | .bool b => match d with
    | .bool a => K (.val (.bool (!decide (a = b))))
    | _ => False
  | _ => False
def oIn (neg : Bool) : Op2 := fun d e K => match e with
  | .list ds => SeqAt.shaped d = true ∧ SeqAt.shaped (.list ds) = true ∧ K (.val (.bool (if neg then !ds.any fun z => PyData.eqv z d else ds.any fun z => PyData.eqv z d)))
  | .tuple ds => SeqAt.shaped d = true ∧ SeqAt.shaped (.tuple ds) = true ∧ K (.val (.bool (if neg then !ds.any fun z => PyData.eqv z d else ds.any fun z => PyData.eqv z d)))
  | _ => False

mutual
theorem dp_of {K : PySem.W.Frag} {H : Hp} : ∀ (d : PyData) (v : V), Rp K H v d → d.canLay0 = true → Dp K H v d
  | .none, _, h, _ => by cases h; exact .non
  | .bool b, _, h, _ => by cases h; exact .bl b
  | .int b, _, h, _ => by cases h; exact .int b
  | .str b, _, h, _ => by cases h; exact .str b
  | .list ds, _, h, c => by
    cases h with
    | lst a b => exact .lst a (dpAll_of ds _ b (by simpa [PyData.canLay0] using c))
  | .tuple ds, _, h, c => by
    cases h with
    | tup a b => exact .tup (SqT.of a) (dpAll_of ds _ b (by simpa [PyData.canLay0] using c))
  | .dict _, _, h, c => by simp [PyData.canLay0] at c
theorem dpAll_of {K : PySem.W.Frag} {H : Hp} : ∀ (ds : List PyData) (vs : List V), RpAll K H vs ds → PyData.canLayAll0 ds = true → DpAll K H vs ds
  | [], _, h, _ => by cases h; exact .nil
  | d :: ds, _, h, c => by
    have c' : d.canLay0 = true ∧ PyData.canLayAll0 ds = true := by simpa [PyData.canLayAll0] using c
    cases h with
    | cons a b => exact .cons (dp_of d _ a c'.1) (dpAll_of ds _ b c'.2)
end
section
variable {K : PySem.W.Frag} {F H : Hp} {v : V} {d : PyData}
theorem Rt.dp (s : Same F H) (h : Rt K F H v d) (c : SeqAt.shaped d = true) : Dp K H v d := dp_of d v (h.h s) (SeqAt.canLay_of_shaped c)
end

section
variable {X : Cx}
/-- a result that changes nothing -/
theorem same_res {B : Bs} {F H : Hp} {env : Ev} {σ : St} {K : PySem.W.Frag} {v : V} {d : PyData} {Kr : Rs → Prop} (R : Rl K B F H env σ) (r : Rp K F v d) (q : Kr (.val d)) : ∃ r F', Rl K B F' H env σ ∧ Fm env σ F H env F' H ∧ Res K B F' H env σ v r ∧ Nw H v r ∧ Kr r :=
  ⟨.val d, F, R, Fm.refl, r, trivial, q⟩
/-- a new list -/
theorem new_lst {B : Bs} {F H : Hp} {env : Ev} {σ : St} {K : PySem.W.Frag} {p : Addr} {vs : List V} {ds : List PyData} {Kr : Rs → Prop} (R : Rl K B F H env σ) (hp : H p = none) (r : RpAll K F vs ds) (q : Kr (.tmp ds)) :
    ∃ r F', Rl K B F' (upd H p (.lst vs)) env σ ∧ Fm env σ F H env F' (upd H p (.lst vs)) ∧ Res K B F' (upd H p (.lst vs)) env σ (.ref p) r ∧ Nw H (.ref p) r ∧ Kr r :=
  ⟨.tmp ds, F, R.lay hp, fm_lay hp, ⟨p, vs, rfl, upd_same, R.freeF hp, R.free0 hp, R.notOwn hp, r⟩, fun q e => by cases e; exact hp, q⟩
/-- a new tuple -/
theorem new_tup {B : Bs} {F H : Hp} {env : Ev} {σ : St} {K : PySem.W.Frag} {p : Addr} {vs : List V} {ds : List PyData} {Kr : Rs → Prop} (R : Rl K B F H env σ) (hp : H p = none) (r : RpAll K F vs ds) (q : Kr (.val (.tuple ds))) :
    ∃ r F', Rl K B F' (upd H p (.tup vs)) env σ ∧ Fm env σ F H env F' (upd H p (.tup vs)) ∧ Res K B F' (upd H p (.tup vs)) env σ (.ref p) r ∧ Nw H (.ref p) r ∧ Kr r :=
  ⟨.val (.tuple ds), upd F p (.tup vs), R.layF hp, R.fmLayF hp, .tup upd_same (RpAll.mono (fun b x e => by rw [upd_ne (ne_of_none e (R.freeF hp))]; exact e) _ _ r), trivial, q⟩

def rCatL (K : PySem.W.Frag) : R2 := fun x y H Q => ∃ l b xs zs, x = .ref l ∧ y = .ref b ∧ SqL K H l xs ∧ SqL K H b zs ∧ xs.length + zs.length ≤ sizeLine ∧ ∀ p, H p = none → Q (.ref p) (upd H p (.lst (xs ++ zs)))
theorem op_catL : OpR X (binaryOp .Add) (rCatL X.K) := by
  intro pins s σ H x y v u Q I rx ry h
  obtain ⟨l, b, xs, zs, rfl, rfl, hH, hB, hz, q⟩ := h
  cases rx
  cases ry
  obtain ⟨its, r, ⟨⟨cls, dd, data, sl⟩, n, ho, hc, hdn, hd⟩, hl⟩ := I.list hH
  obtain ⟨its2, r2, ⟨⟨cls2, dd2, data2, sl2⟩, n2, ho2, hc2, hdn2, hd2⟩, hl2⟩ := I.list hB
  simp only at hc hd hc2 hd2
  subst hc hd hc2 hd2
  have e1 := r.length
  have e2 := r2.length
  refine concat_meets ⟨_, ho, rfl⟩ ⟨_, ho2, rfl⟩ noFill_list_add seq_list_add PySem.F.slot_list_add PySem.F.entry_list_add (PySem.F.args_list_add_2 _ _) (list_addW l b its.toArray its2.toArray n n2 dd dd2 sl sl2 (by rw [List.size_toArray, List.size_toArray]; omega)) ⟨ho, ho2, ?_⟩
  have ea : its.toArray ++ its2.toArray = (its ++ its2).toArray := by simp
  rw [ea]
  exact ⟨.ref _, _, I.lnew (t' := s.toks) (r.append r2) (by rw [List.length_append]; omega), rfl, q _ I.fresh⟩
theorem opr_run {f : Value → Value → Sem Value} {r : R2} (ho : OpR X f r) {B : Bs} {F : Hp} {env : Ev} {pins : List (Addr × Obj)} {s : Shared} {σ : St} {H : Hp} {x y : V} {v u : Value} {Kr : Rs → Prop} (I : Inv X pins σ H s) (rx : RelV x v) (ry : RelV y u)
    (h : r x y H (fun v H' => ∃ r F', Rl X.K B F' H' env σ ∧ Fm env σ F H env F' H' ∧ Res X.K B F' H' env σ v r ∧ Nw H v r ∧ Kr r)) : wpAny (model X.prog X.w) X.A (f v u) (RP X B pins σ F H env Kr) X.xe s :=
  thn (ho pins s σ H x y v u _ I rx ry h) fun w s1 ⟨v', H', I', rv, r, F', h1, h2, h3, h4, h5⟩ => ⟨v', r, F', H', I', rv, h1, h2, h3, h4, h5⟩
theorem dop_add : DOp X (binaryOp .Add) oAdd := by
  refine ⟨fun B F env pins s σ H x y v u d e Kr I rx ry R hx hy q => ?_⟩
  unfold oAdd at q
  split at q
  · rename_i i j
    obtain rfl := hx.int
    obtain rfl := hy.int
    exact opr_run op_add I rx ry ⟨_, _, rfl, rfl, same_res R (.int _) q⟩
  · rename_i i j
    obtain rfl := hx.str
    obtain rfl := hy.str
    exact opr_run op_add_str I rx ry ⟨_, _, rfl, rfl, q.1, same_res R (.str _) q.2⟩
  · rename_i i j
    obtain ⟨a, xs, rfl, h1, h2⟩ := hx.list R.sub
    obtain ⟨b, ys, rfl, h3, h4⟩ := hy.list R.sub
    have e1 := h2.length
    have e2 := h4.length
    exact opr_run op_catL I rx ry ⟨_, _, _, _, rfl, rfl, h1, h3, by omega, fun p hp => new_lst R hp (h2.append h4) q.2⟩
  · rename_i i j
    obtain ⟨a, xs, rfl, h1, h2⟩ := hx.tuple R.sub
    obtain ⟨b, ys, rfl, h3, h4⟩ := hy.tuple R.sub
    have e1 := h2.length
    have e2 := h4.length
    refine opr_run op_catA I rx ry ⟨_, _, _, _, rfl, rfl, h1, h3, by omega, fun ex => ?_, fun nx ey => ?_, fun nx ny p hp => new_tup R hp (h2.append h4) q.2⟩
    · subst ex
      cases h2
      rcases hy with hy | ⟨_, _, _, _, z, _⟩
      · exact same_res R hy (by simpa using q.2)
      · cases z
    · subst ey
      cases h4
      rcases hx with hx | ⟨_, _, _, _, z, _⟩
      · exact same_res R hx (by simpa using q.2)
      · cases z
  · exact q.elim
theorem dop_I {f : Value → Value → Sem Value} {C : Int → Int → Prop} {g : Int → Int → Int} (h : OpR X f (rI C fun i j => .int (g i j))) : DOp X f (oI C g) := by
  refine ⟨fun B F env pins s σ H x y v u d e Kr I rx ry R hx hy q => ?_⟩
  unfold oI at q
  split at q
  · obtain rfl := hx.int
    obtain rfl := hy.int
    exact opr_run h I rx ry ⟨_, _, rfl, rfl, q.1, same_res R (.int _) q.2⟩
  · exact q.elim
theorem dop_I0 {f : Value → Value → Sem Value} {g : Int → Int → Int} (h : OpR X f (rI0 fun i j => .int (g i j))) : DOp X f (oI CT g) := by
  refine ⟨fun B F env pins s σ H x y v u d e Kr I rx ry R hx hy q => ?_⟩
  unfold oI at q
  split at q
  · obtain rfl := hx.int
    obtain rfl := hy.int
    exact opr_run h I rx ry ⟨_, _, rfl, rfl, same_res R (.int _) q.2⟩
  · exact q.elim
theorem dop_sub : DOp X (binaryOp .Sub) oSub := by
  refine ⟨fun B F env pins s σ H x y v u d e Kr I rx ry R hx hy q => ?_⟩
  unfold oSub at q
  split at q
  · obtain rfl := hx.int
    obtain rfl := hy.int
    exact opr_run op_sub I rx ry ⟨_, _, rfl, rfl, same_res R (.int _) q⟩
  · exact q.elim
theorem dop_mul : DOp X (binaryOp .Mult) oMul := dop_I op_mulX
theorem dop_fdiv : DOp X (binaryOp .FloorDiv) oFdiv := dop_I op_fdivW
theorem dop_mod : DOp X (binaryOp .Mod) oMod := dop_I op_mod
theorem dop_pow : DOp X (binaryOp .Pow) oPow := dop_I op_pow
theorem dop_shl : DOp X (binaryOp .LShift) oShl := dop_I op_shlW
theorem dop_or : DOp X (binaryOp .BitOr) oOr := dop_I0 op_or
theorem room_sh {A : Around} {d e : PyData} (hu : A.units + 65 < cLine) (h : SeqAt.shaped d = true) : A.units + min d.depth e.depth < cLine := by
  have h1 := SeqAt.depth_of_shaped h
  have h2 : min d.depth e.depth ≤ d.depth := Nat.min_le_left _ _
  omega
theorem dop_ord {op : CmpOp} {f : Int → Int → Bool} {g : PyData → PyData → Bool} (h1 : OpR X (compareOp op) (rI0 fun i j => .bl (f i j)))
    (h2 : ∀ (s : Shared) (a b : Value) (da db : PyData) (as bs : List Addr) (Q : Value → Shared → Prop), Reads s.heap a da as → Reads s.heap b db bs → PySem.W.alike da db = true → da ≠ .none → SeqAt.shaped da = true → Q (.bool (g da db)) s → wpAny (model X.prog X.w) X.A (compareOp op a b) Q X.xe s) :
    DOp X (compareOp op) (oOrd f g) := by
  refine ⟨fun B F env pins s σ H x y v u d e Kr I rx ry R hx hy q => ?_⟩
  unfold oOrd at q
  split at q
  · obtain rfl := hx.int
    obtain rfl := hy.int
    exact opr_run h1 I rx ry ⟨_, _, rfl, rfl, same_res R (.bl _) q⟩
  · obtain ⟨q1, q2, q3, q4⟩ := q
    obtain ⟨as, r1⟩ := Dp.reads I _ x v (hx.dp R.sub q2) rx
    obtain ⟨bs, r2⟩ := Dp.reads I _ y u (hy.dp R.sub q3) ry
    exact h2 s v u _ _ as bs _ r1 r2 q1 (fun z => by cases z) q2 ⟨.bl _, .val (.bool _), F, H, I, rfl, R, Fm.refl, .bl _, trivial, q4⟩
  · exact q.elim
theorem dop_lt (hu : X.A.units + 65 < cLine) : DOp X (compareOp .Lt) oLt := dop_ord op_lt fun s a b da db as bs Q r1 r2 h n sh q => PySem.W.lt_data r1 r2 h n (room_sh hu sh) q
theorem dop_le (hu : X.A.units + 65 < cLine) : DOp X (compareOp .LtE) oLe := dop_ord op_le fun s a b da db as bs Q r1 r2 h n sh q => PySem.W.le_data r1 r2 h n (room_sh hu sh) q
theorem dop_gt (hu : X.A.units + 65 < cLine) : DOp X (compareOp .Gt) oGt := dop_ord op_gt fun s a b da db as bs Q r1 r2 h n sh q => PySem.W.gt_data r1 r2 h n (room_sh hu sh) q
theorem dop_ge (hu : X.A.units + 65 < cLine) : DOp X (compareOp .GtE) oGe := dop_ord op_ge fun s a b da db as bs Q r1 r2 h n sh q => PySem.W.ge_data r1 r2 h n (room_sh hu sh) q
theorem dop_eq (hu : X.A.units + 65 < cLine) : DOp X (compareOp .Eq) oEq := by
  refine ⟨fun B F env pins s σ H x y v u d e Kr I rx ry R hx hy q => ?_⟩
  obtain ⟨q1, q2, q3⟩ := q
  exact opr_run (op_eqD (by omega)) I rx ry ⟨_, _, hx.dp R.sub q1, hy.dp R.sub q2, q1, q2, same_res R (.bl _) q3⟩
theorem dop_ne (hu : X.A.units + 65 < cLine) : DOp X (compareOp .NotEq) oNe := by
  refine ⟨fun B F env pins s σ H x y v u d e Kr I rx ry R hx hy q => ?_⟩
  obtain ⟨q1, q2, q3⟩ := q
  exact opr_run (op_neD (by omega)) I rx ry ⟨_, _, hx.dp R.sub q1, hy.dp R.sub q2, q1, q2, same_res R (.bl _) q3⟩
theorem Rt.isNone {K : PySem.W.Frag} {F H : Hp} {v : V} {d : PyData} (h : Rt K F H v d) : decide (v = .non) = Dl.isNone d := by
  rcases h with h | ⟨a, vs, ds, rfl, rfl, _⟩
  · cases h <;> rfl
  · rfl
theorem dop_is : DOp X (compareOp .Is) oIs := by
  refine ⟨fun B F env pins s σ H x y v u d e Kr I rx ry R hx hy q => ?_⟩
  unfold oIs at q
  split at q
  · exact opr_run op_isN I rx ry ⟨hy.none, by rw [hx.isNone]; exact same_res R (.bl _) q⟩
  · split at q
    · obtain rfl := hx.bool
      obtain rfl := hy.bool
      exact opr_run op_is_bl I rx ry ⟨_, _, rfl, rfl, same_res R (.bl _) q⟩
    · exact q.elim
  · exact q.elim
theorem dop_isNot : DOp X (compareOp .IsNot) oIsNot := by
  refine ⟨fun B F env pins s σ H x y v u d e Kr I rx ry R hx hy q => ?_⟩
  unfold oIsNot at q
  split at q
  · exact opr_run op_notN I rx ry ⟨hy.none, by rw [hx.isNone]; exact same_res R (.bl _) q⟩
  · split at q
    · obtain rfl := hx.bool
      obtain rfl := hy.bool
      exact opr_run op_isnot_bl I rx ry ⟨_, _, rfl, rfl, same_res R (.bl _) q⟩
    · exact q.elim
  · exact q.elim
theorem dop_in (hu : X.A.units + 65 < cLine) : DOp X (compareOp .In) (oIn false) := by
  refine ⟨fun B F env pins s σ H x y v u d e Kr I rx ry R hx hy q => ?_⟩
  unfold oIn at q
  split at q
  · obtain ⟨q1, q2, q3⟩ := q
    exact opr_run (op_inD hu) I rx ry ⟨_, _, hx.dp R.sub q1, hy.dp R.sub q2, q1, q2, same_res R (.bl _) (by simpa using q3)⟩
  · obtain ⟨q1, q2, q3⟩ := q
    obtain ⟨as, r1⟩ := Dp.reads I _ x v (hx.dp R.sub q1) rx
    obtain ⟨bs, r2⟩ := Dp.reads I _ y u (hy.dp R.sub q2) ry
    exact SeqAt.in_tuple_reads r2 r1 (SeqAt.canLay_of_shaped q2) (SeqAt.canLay_of_shaped q1) (room_in_shaped q1 hu) ⟨.bl _, .val (.bool _), F, H, I, rfl, R, Fm.refl, .bl _, trivial, by simpa using q3⟩
  · exact q.elim
end
end Dl
end L2

/-! The D layer, 4: freezing, argument lists, displays, subscripts, slices, calls of built-ins. -/
namespace L2
namespace Dl
open PySem PySem.Spec PyProof.Rows

/-! ### what is frozen -/
def fz (env : Ev) : Rs → Option (Ev × PyData)
  | .val d => some (env, d)
  | .tmp ds => some (env, .list ds)
  | .slot i => match env[i]? with
    | some (.val d) => some (env, d)
    | some (.own false ds) => some (env.set i (.val (.list ds)), .list ds)
    | _ => none
theorem own_set_val {env : Ev} {i j : Nat} {d : PyData} {l : Bool} {ds : List PyData} (h : (env.set i (.val d))[j]? = some (Sl.own l ds)) : env[j]? = some (Sl.own l ds) := by
  by_cases hj : i = j
  · subst hj
    by_cases hl : i < env.length
    · rw [List.getElem?_set_self hl] at h; cases h
    · rw [List.getElem?_eq_none (by simpa using hl)] at h; cases h
  · rw [List.getElem?_set_ne hj] at h; exact h
theorem dct_set_val {env : Ev} {i j : Nat} {d : PyData} {kv : List (List Int × PyData)} (h : (env.set i (.val d))[j]? = some (Sl.dct kv)) : env[j]? = some (Sl.dct kv) := by
  by_cases hj : i = j
  · subst hj
    by_cases hl : i < env.length
    · rw [List.getElem?_set_self hl] at h; cases h
    · rw [List.getElem?_eq_none (by simpa using hl)] at h; cases h
  · rw [List.getElem?_set_ne hj] at h; exact h
/-- an owned slot is frozen -/
theorem Rl.freezeSlot {K : PySem.W.Frag} {B : Bs} {F H : Hp} {env : Ev} {σ : St} (R : Rl K B F H env σ) {i : Nat} {ds : List PyData} (e : env[i]? = some (Sl.own false ds)) :
    ∃ F' v, σ[i]? = some (some v) ∧ Rl K B F' H (env.set i (.val (.list ds))) σ ∧ Fm env σ F H (env.set i (.val (.list ds))) F' H ∧ Rp K F' v (.list ds) := by
  have s := R.sl i
  rw [e] at s
  obtain ⟨a, vs, h1, h2, h3, h4⟩ := s
  have h0 := R.own0 i ds a e h1
  have s1 : Same F (upd F a (.lst vs)) := fun b x q => by rw [upd_ne (ne_of_none q h3)]; exact q
  have rp : Rp K (upd F a (.lst vs)) (.ref a) (.list ds) := .lst (SqL.of upd_same) (RpAll.mono s1 _ _ h4)
  have il : i < env.length := (List.getElem?_eq_some_iff.mp e).1
  -- the relation
  refine ⟨upd F a (.lst vs), .ref a, h1, ⟨by rw [List.length_set]; exact R.len, fun b x q => ?_, fun j => ?_, fun j k l m ds es a h1 h2 h3 h4 => R.dist j k l m ds es a (own_set_val h1) (own_set_val h2) h3 h4, R.sub0.trans s1, fun b x q => ?_, R.frm, R.dom,
    fun j ds a h1 h2 => R.own0 j ds a (own_set_val h1) h2, fun j ds a h1 h2 => R.own1 j ds a (own_set_val h1) h2, R.lsl, fun j k kv kw a h1 h2 h3 h4 => R.dd j k kv kw a (dct_set_val h1) (dct_set_val h2) h3 h4, fun j kv a h1 h2 => R.d0 j kv a (dct_set_val h1) h2⟩, ⟨fun _ _ h _ => h, s1, fun b x q => ?_, fun j l es h => ⟨es, own_set_val h⟩, fun _ h => h, fun j kv h => ⟨kv, dct_set_val h⟩⟩, rp⟩
  · by_cases hb : b = a
    · subst hb
      rw [upd_same] at q
      cases q
      exact h2
    · rw [upd_ne hb] at q
      exact R.sub b x q
  · by_cases hj : i = j
    · subst hj
      rw [List.getElem?_set_self il]
      exact ⟨.ref a, h1, rp⟩
    · rw [List.getElem?_set_ne hj]
      have sj := R.sl j
      cases q : env[j]? with
      | none => trivial
      | some z =>
        rw [q] at sj
        cases z with
        | un => trivial
        | val d =>
          obtain ⟨v, g1, g2⟩ := sj
          exact ⟨v, g1, Rp.mono s1 _ _ g2⟩
        | own l es =>
          obtain ⟨b, ws, g1, g2, g3, g4⟩ := sj
          refine ⟨b, ws, g1, g2, ?_, RpAll.mono s1 _ _ g4⟩
          rw [upd_ne]
          · exact g3
          · intro z
            subst z
            exact hj (R.dist i j false l ds es b e q h1 g1)
        | dct kv =>
          obtain ⟨b, g1, g2, g3⟩ := sj
          refine ⟨b, g1, g2, ?_⟩
          rw [upd_ne]
          · exact g3
          · intro z
            subst z
            rw [h2] at g2
            cases g2
  · by_cases hb : b = a
    · subst hb
      exact .inr (.inl h0)
    · rw [upd_ne hb] at q
      exact R.new b x q
  · by_cases hb : b = a
    · subst hb
      exact .inr (.inr (.inl ⟨i, false, ds, e, h1⟩))
    · rw [upd_ne hb] at q
      exact .inl q
/-- a result is frozen; the frame from where the result's expression began -/
theorem freeze {K : PySem.W.Frag} {B : Bs} {F F1 H H1 : Hp} {env env1 env2 : Ev} {σ : St} {v : V} {r : Rs} {d : PyData} (R : Rl K B F1 H1 env1 σ) (f : Fm env σ F H env1 F1 H1) (q : Res K B F1 H1 env1 σ v r) (n : Nw H v r) (e : fz env1 r = some (env2, d)) :
    ∃ F2, Rl K B F2 H1 env2 σ ∧ Fm env σ F H env2 F2 H1 ∧ Rp K F2 v d := by
  cases r with
  | val d' =>
    have e' : (env1, d') = (env2, d) := by simpa [fz] using e
    cases e'
    exact ⟨F1, R, f, q⟩
  | slot i =>
    have q' : σ[i]? = some (some v) := q
    simp only [fz] at e
    split at e
    · rename_i d' g
      cases e
      have s := R.sl i
      rw [g] at s
      obtain ⟨w, h1, h2⟩ := s
      rw [q'] at h1
      cases h1
      exact ⟨F1, R, f, h2⟩
    · rename_i ds g
      cases e
      obtain ⟨F2, w, h1, h2, h3, h4⟩ := R.freezeSlot g
      rw [q'] at h1
      cases h1
      exact ⟨F2, h2, f.trans h3, h4⟩
    · cases e
  | tmp ds =>
    have e' : (env1, PyData.list ds) = (env2, d) := by simpa [fz] using e
    cases e'
    obtain ⟨p, vs, rfl, h2, h3, h4, h5, h6⟩ := q
    have s1 : Same F1 (upd F1 p (.lst vs)) := fun b x q => by rw [upd_ne (ne_of_none q h3)]; exact q
    refine ⟨upd F1 p (.lst vs), R.grow h3 h4 h5 h2, ⟨f.keep, f.sub.trans s1, fun b x q => ?_, f.own, f.dom, f.od⟩, .lst (SqL.of upd_same) (RpAll.mono s1 _ _ h6)⟩
    by_cases hb : b = p
    · subst hb
      exact .inr (.inl (.inl (n b rfl)))
    · rw [upd_ne hb] at q
      exact f.new b x q
def wFz (w : WE) (env : Ev) (Kd : Ev → PyData → Prop) (Kx : KXc) : Prop := w env (fun env' r => ∃ p, fz env' r = some p ∧ Kd p.1 p.2) Kx

/-! ### argument lists, held: read at the call -/
abbrev WA := Ev → (Ev → List Rs → Prop) → KXc → Prop
abbrev WF := Ev → (Ev → List PyData → Prop) → KXc → Prop
structure DA (B : Bs) (W : WX) (X : Cx) (es : List Expr) (w : WA) : Prop where
  run : ∀ (pos : Pos) (pins : List (Addr × Obj)) (s : Shared) (σ : St) (F H : Hp) (env : Ev) (Ka : Ev → List Rs → Prop) (Kx : KXc), Inv X pins σ H s → Rl X.K B F H env σ → w env Ka Kx → XC X.K B W Kx →
    wpAny (model X.prog X.w) X.A (spliced (backTo pos (starEach es X.env))) (fun us s' => ∃ vs env' rs F' H', Inv X pins σ H' s' ∧ Vals vs us ∧ Rl X.K B F' H' env' σ ∧ Fm env σ F H env' F' H' ∧ Paired (fun v r => Res X.K B F' H' env' σ v r) vs rs ∧ Ka env' rs) X.xe s
/-- frozen one by one -/
structure DF (B : Bs) (W : WX) (X : Cx) (es : List Expr) (w : WF) : Prop where
  run : ∀ (pos : Pos) (pins : List (Addr × Obj)) (s : Shared) (σ : St) (F H : Hp) (env : Ev) (Ka : Ev → List PyData → Prop) (Kx : KXc), Inv X pins σ H s → Rl X.K B F H env σ → w env Ka Kx → XC X.K B W Kx →
    wpAny (model X.prog X.w) X.A (spliced (backTo pos (starEach es X.env))) (fun us s' => ∃ vs env' ds F' H', Inv X pins σ H' s' ∧ Vals vs us ∧ Rl X.K B F' H' env' σ ∧ Fm env σ F H env' F' H' ∧ RpAll X.K F' vs ds ∧ Ka env' ds) X.xe s
def wANil : WA := fun env Ka _ => Ka env []
def wACons (w : WE) (wr : WA) : WA := fun env Ka Kx => w env (fun env1 r => wr env1 (fun env2 rs => Ka env2 (r :: rs)) Kx) Kx
def wFNil : WF := fun env Ka _ => Ka env []
def wFCons (w : WE) (wr : WF) : WF := fun env Ka Kx => wFz w env (fun env1 d => wr env1 (fun env2 ds => Ka env2 (d :: ds)) Kx) Kx
section
variable {B : Bs} {W : WX} {X : Cx} {e : Expr} {es : List Expr} {w : WE} {wr : WA} {wf : WF} {pos : Pos}
theorem da_nil : DA B W X [] wANil := ⟨fun _ _ _ _ F H env Ka _ I R h _ => Calls.spliced_nil ⟨[], env, [], F, H, I, .nil, R, Fm.refl, .nil, h⟩⟩
theorem da_cons (ha : DE B W X e w) (hr : DA B W X es wr) (hs : starEach (e :: es) X.env = (false, eval e X.env) :: starEach es X.env := by rfl) : DA B W X (e :: es) (wACons w wr) := by
  refine ⟨fun pos pins s σ F H env Ka Kx I R h hx => ?_⟩
  rw [hs]
  show wpAny _ _ (spliced ((false, eval e X.env) :: backTo pos (starEach es X.env))) _ _ s
  refine Calls.spliced_cons (thn (ha.run pins s σ F H env _ Kx I R h hx) fun u s1 ⟨x, env1, r1, F1, H1, I1, rx, R1, f1, q1, n1, h1⟩ => ?_)
  exact thn (hr.run pos pins s1 σ F1 H1 env1 _ Kx I1 R1 h1 hx) fun us s2 ⟨vs, env2, rs, F2, H2, I2, rv, R2, f2, q2, h2⟩ => ⟨x :: vs, env2, r1 :: rs, F2, H2, I2, .cons rx rv, R2, f1.trans f2, .cons (q1.step f2) q2, h2⟩
theorem df_nil : DF B W X [] wFNil := ⟨fun _ _ _ _ F H env Ka _ I R h _ => Calls.spliced_nil ⟨[], env, [], F, H, I, .nil, R, Fm.refl, .nil, h⟩⟩
theorem df_cons (ha : DE B W X e w) (hr : DF B W X es wf) (hs : starEach (e :: es) X.env = (false, eval e X.env) :: starEach es X.env := by rfl) : DF B W X (e :: es) (wFCons w wf) := by
  refine ⟨fun pos pins s σ F H env Ka Kx I R h hx => ?_⟩
  rw [hs]
  show wpAny _ _ (spliced ((false, eval e X.env) :: backTo pos (starEach es X.env))) _ _ s
  refine Calls.spliced_cons (thn (ha.run pins s σ F H env _ Kx I R h hx) fun u s1 ⟨x, env1, r1, F1, H1, I1, rx, R1, f1, q1, n1, p, e1, h1⟩ => ?_)
  obtain ⟨F2, R2, f2, rp⟩ := freeze (env2 := p.1) (d := p.2) R1 f1 q1 n1 e1
  exact thn (hr.run pos pins s1 σ F2 H1 p.1 _ Kx I1 R2 h1 hx) fun us s2 ⟨vs, env2, ds, F3, H3, I3, rv, R3, f3, q3, h3⟩ => ⟨x :: vs, env2, p.2 :: ds, F3, H3, I3, .cons rx rv, R3, f2.trans f3, .cons (Rp.mono f3.sub _ _ rp) q3, h3⟩

/-! ### displays -/
def wTup (wf : WF) : WE := fun env Ke Kx => wf env (fun env' ds => ds.length ≤ sizeLine ∧ Ke env' (.val (.tuple ds))) Kx
def wLst (wf : WF) : WE := fun env Ke Kx => wf env (fun env' ds => ds.length ≤ sizeLine ∧ Ke env' (.tmp ds)) Kx
theorem de_tup {k : Nat} (h : DF B W X es wf) : DE B W X (.Tuple es k pos) (wTup wf) := by
  refine ⟨fun pins s σ F H env Ke Kx I R hq hx => ?_⟩
  refine wpAny_Tuple_spliced (thn (h.run pos pins s σ F H env _ Kx I R hq hx) fun us s1 ⟨vs, env1, ds, F1, H1, I1, rv, R1, f1, q1, z, k1⟩ => ⟨by rw [← rv.length, q1.length]; exact z, ?_⟩)
  have hf : H1 s1.heap.objs.size = none := I1.hok.fresh (Nat.le_refl _)
  obtain ⟨r, F', g1, g2, g3, g4, g5⟩ := new_tup (Kr := Ke env1) R1 hf q1 k1
  exact ⟨.ref s1.heap.objs.size, env1, r, F', upd H1 s1.heap.objs.size (.tup vs), I1.laid (t' := s1.toks) (fun b u e => Heap.get?_push_of_some _ e) (Nat.le_refl _) ⟨by rw [q1.length]; exact z, us, rv, ⟨_, Heap.get?_push_size _ rfl, rfl, _, rfl⟩⟩, rfl, g1, f1.trans g2, g3, g4.up f1.dom, g5⟩
theorem de_lst (h : DF B W X es wf) : DE B W X (.List es pos) (wLst wf) := by
  refine ⟨fun pins s σ F H env Ke Kx I R hq hx => ?_⟩
  refine wpAny_List_spliced (thn (h.run pos pins s σ F H env _ Kx I R hq hx) fun us s1 ⟨vs, env1, ds, F1, H1, I1, rv, R1, f1, q1, z, k1⟩ => ⟨by rw [← rv.length, q1.length]; exact z, ?_⟩)
  have hf : H1 s1.heap.objs.size = none := I1.hok.fresh (Nat.le_refl _)
  obtain ⟨r, F', g1, g2, g3, g4, g5⟩ := new_lst (Kr := Ke env1) R1 hf q1 k1
  exact ⟨.ref s1.heap.objs.size, env1, r, F', upd H1 s1.heap.objs.size (.lst vs), I1.laid (t' := s1.toks) (fun b u e => Heap.get?_push_of_some _ e) (Nat.le_refl _) ⟨by rw [q1.length]; exact z, us, 0, rv, Heap.get?_push_size _ rfl⟩, rfl, g1, f1.trans g2, g3, g4.up f1.dom, g5⟩

/-! ### subscripts -/
def oIx : Op2 := fun d e K => match d, e with
  | .list ds, .int i => ∃ x, atI ds i = some x ∧ K (.val x)
  | .tuple ds, .int i => ∃ x, atI ds i = some x ∧ K (.val x)
  | .str z, .int i => z.length ≤ sizeLine ∧ ∃ c, atI z.cps.toList i = some c ∧ K (.val (.str ⟨#[c]⟩))
  | _, _ => False
theorem RpAll.at {K : PySem.W.Frag} {F : Hp} {vs : List V} {ds : List PyData} {i : Int} {x : PyData} (h : RpAll K F vs ds) (e : atI ds i = some x) : ∃ v, atI vs i = some v ∧ Rp K F v x := by
  unfold atI at e ⊢
  rw [h.length]
  cases q : ixN ds.length i with
  | none => rw [q] at e; cases e
  | some j =>
    rw [q] at e
    exact h.get (i := j) e
theorem de_ix {a b : Expr} {wa wb : WE} (ha : DE B W X a wa) (hb : DE B W X b wb) (hs : PlainIx b := by exact fun _ _ => rfl) : DE B W X (.Subscript a b pos) (wBin oIx wa wb) := by
  refine ⟨fun pins s σ F H env Ke Kx I R h hx => ?_⟩
  refine Subscript_ (thn (ha.run pins s σ F H env _ Kx I R h hx) fun v s1 ⟨x, env1, r1, F1, H1, I1, rx, R1, f1, q1, n1, h1⟩ => ?_)
  refine thn (hb.run pins s1 σ F1 H1 env1 _ Kx I1 R1 h1 hx) fun u s2 ⟨y, env2, r2, F2, H2, I2, ry, R2, f2, q2, n2, h2⟩ => ?_
  obtain ⟨d1, e1, d2, e2, h2⟩ := h2
  have g1 := (q1.step f2).rt R2 e1
  have g2 := q2.rt R2 e2
  have go : ∀ (r : L2.R2), IxR X r → r x y H2 (fun v' H' => ∃ r F', Rl X.K B F' H' env2 σ ∧ Fm env2 σ F2 H2 env2 F' H' ∧ Res X.K B F' H' env2 σ v' r ∧ Nw H2 v' r ∧ Ke env2 r) → wpAny (model X.prog X.w) X.A (subscriptTail a b v u) (DP X B pins σ F H env Ke) X.xe s2 := fun r hr q =>
    thn (hr a b pins s2 σ H2 x y v u _ I2 rx ry q (hs _ _)) fun w s3 ⟨v', H', I', rv, r, F', k1, k2, k3, k4, k5⟩ => (DP.up f2 ⟨v', env2, r, F', H', I', rv, k1, k2, k3, k4, k5⟩).up f1
  unfold oIx at h2
  split at h2
  · obtain ⟨z, e3, k⟩ := h2
    obtain ⟨p, vs, rfl, g3, g4⟩ := g1.list R2.sub
    obtain rfl := g2.int
    obtain ⟨w, e4, rp⟩ := g4.at e3
    exact go _ ix_list ⟨p, vs, _, w, rfl, rfl, g3, e4, same_res R2 rp k⟩
  · obtain ⟨z, e3, k⟩ := h2
    obtain ⟨p, vs, rfl, g3, g4⟩ := g1.tuple R2.sub
    obtain rfl := g2.int
    obtain ⟨w, e4, rp⟩ := g4.at e3
    exact go _ ix_tup ⟨p, vs, _, w, rfl, rfl, g3, e4, same_res R2 rp k⟩
  · obtain ⟨z0, z, e3, k⟩ := h2
    obtain rfl := g1.str
    obtain rfl := g2.int
    exact go _ ix_str ⟨_, _, z, rfl, rfl, z0, e3, same_res R2 (.str _) k⟩
  · exact h2.elim
end
end Dl
end L2

/-! The D layer, 5: slices, calls of built-ins by values. -/
namespace L2
namespace Dl
open PySem PySem.Spec PyProof.Rows

/-! ### slices -/
abbrev WO := Ev → (Ev → Option Int → Prop) → KXc → Prop
structure DO (B : Bs) (W : WX) (X : Cx) (e : Option Expr) (w : WO) : Prop where
  run : ∀ (pins : List (Addr × Obj)) (s : Shared) (σ : St) (F H : Hp) (env : Ev) (Ko : Ev → Option Int → Prop) (Kx : KXc), Inv X pins σ H s → Rl X.K B F H env σ → w env Ko Kx → XC X.K B W Kx →
    wpAny (model X.prog X.w) X.A (evalPart e X.env) (fun u s' => ∃ o env' F' H', Inv X pins σ H' s' ∧ IsPart u o ∧ Rl X.K B F' H' env' σ ∧ Fm env σ F H env' F' H' ∧ Ko env' o) X.xe s
def wONo : WO := fun env Ko _ => Ko env none
def wOSo (w : WE) : WO := fun env Ko Kx => w env (fun env' r => ∃ i, r = .val (.int i) ∧ Ko env' (some i)) Kx
def cutD {α : Type} (ds : List α) (lo hi : Option Int) : List α := (ds.drop (HT.sIx ds.length 0 lo)).take (HT.sIx ds.length ds.length hi - HT.sIx ds.length 0 lo)
def oSl (d : PyData) (lo hi : Option Int) (K : Rs → Prop) : Prop := match d with
  | .list ds => K (.tmp (cutD ds lo hi))
  | .tuple ds => K (.val (.tuple (cutD ds lo hi)))
  | .str z => z.length ≤ sizeLine ∧ K (.val (.str (cutS z lo hi)))
  | _ => False
def wSl (wa : WE) (wl wh : WO) : WE := fun env Ke Kx => wa env (fun env1 r1 => wl env1 (fun env2 lo => wh env2 (fun env3 hi => rdK env3 r1 fun d => oSl d lo hi (Ke env3)) Kx) Kx) Kx
section
variable {B : Bs} {W : WX} {X : Cx} {e : Expr} {w : WE} {lo hi : Option Expr} {wl wh : WO} {pos p2 : Pos}
theorem do_none : DO B W X none wONo := by
  refine ⟨fun pins s σ F H env Ko Kx I R h hx => ?_⟩
  exact thn (po_none.run pins s σ H (fun o H' => H' = H ∧ o = none) I ⟨rfl, rfl⟩) fun u s1 ⟨o, H', I', ip, e1, e2⟩ => by
    subst e1 e2
    exact ⟨none, env, F, _, I', ip, R, Fm.refl, h⟩
/-- from a DE to HandS's PE, for one run -/
theorem DE.pe {a : Expr} {wa : WE} (h : DE B W X a wa) : PE X a (fun σ H Q => ∃ F env Ke Kx, Rl X.K B F H env σ ∧ wa env Ke Kx ∧ XC X.K B W Kx ∧
    ∀ v env' r F' H', Rl X.K B F' H' env' σ → Fm env σ F H env' F' H' → Res X.K B F' H' env' σ v r → Nw H v r → Ke env' r → Q v H') := by
  refine ⟨fun pins s σ H Q I ⟨F, env, Ke, Kx, R, hw, hx, q⟩ => ?_⟩
  exact thn (h.run pins s σ F H env Ke Kx I R hw hx) fun u s1 ⟨v, env', r, F', H', I', rv, h1, h2, h3, h4, h5⟩ => ⟨v, H', I', rv, q v env' r F' H' h1 h2 h3 h4 h5⟩
theorem do_some (h : DE B W X e w) : DO B W X (some e) (wOSo w) := by
  refine ⟨fun pins s σ F H env Ko Kx I R hw hx => ?_⟩
  refine thn ((po_some h.pe).run pins s σ H (fun o H' => ∃ env' F', Rl X.K B F' H' env' σ ∧ Fm env σ F H env' F' H' ∧ Ko env' o) I ⟨F, env, _, Kx, R, hw, hx, fun v env' r F' H' h1 h2 h3 h4 ⟨i, e1, k⟩ => ?_⟩) fun u s1 ⟨o, H', I', ip, env', F', h1, h2, h3⟩ => ⟨o, env', F', H', I', ip, h1, h2, h3⟩
  subst e1
  cases (show Rp X.K F' v (.int i) from h3)
  exact ⟨i, rfl, env', F', h1, h2, k⟩
theorem RpAll.cut {K : PySem.W.Frag} {F : Hp} {vs : List V} {ds : List PyData} (h : RpAll K F vs ds) (lo hi : Option Int) : RpAll K F (cutV vs lo hi) (cutD ds lo hi) := by
  unfold cutV cutD
  rw [h.length]
  exact (h.drop _).take _
theorem cutD_whole {α : Type} {ds : List α} {lo hi : Option Int} (h : HT.sIx ds.length 0 lo = 0 ∧ HT.sIx ds.length ds.length hi = ds.length) : cutD ds lo hi = ds := by
  unfold cutD
  rw [h.1, h.2]
  simp
theorem de_sl (ha : DE B W X e w) (hl : DO B W X lo wl) (hu : DO B W X hi wh) : DE B W X (.Subscript e (.Slice lo hi none p2) pos) (wSl w wl wh) := by
  refine ⟨fun pins s σ F H env Ke Kx I R h hx => ?_⟩
  refine Subscript_ (thn (ha.run pins s σ F H env _ Kx I R h hx) fun v s1 ⟨x, env1, r1, F1, H1, I1, rx, R1, f1, q1, n1, h1⟩ => ?_)
  refine wpAny_Slice (thn (hl.run pins s1 σ F1 H1 env1 _ Kx I1 R1 h1 hx) fun vl s2 ⟨l, env2, F2, H2, I2, pl, R2, f2, h2⟩ => thn (hu.run pins s2 σ F2 H2 env2 _ Kx I2 R2 h2 hx) fun vu s3 ⟨u, env3, F3, H3, I3, pu, R3, f3, d, e3, h3⟩ => ?_)
  rw [evalPart_none]
  refine wpAny_pure ?_
  have g := ((q1.step f2).step f3).rt R3 e3
  have ff := (f1.trans f2).trans f3
  have I4 : Inv X pins σ H3 { s3 with heap := s3.heap.push { cls := .type "slice", data := .fields #[vl, vu, .none] } } := I3.kept (t' := s3.toks) fun b ob q => Heap.get?_push_of_some _ q
  have go : ∀ (r : V → Option Int → Option Int → Hp → VK → Prop), SlR X r → r x l u H3 (fun v' H' => ∃ r F', Rl X.K B F' H' env3 σ ∧ Fm env3 σ F3 H3 env3 F' H' ∧ Res X.K B F' H' env3 σ v' r ∧ Nw H3 v' r ∧ Ke env3 r) →
      wpAny (model X.prog X.w) X.A (subscriptTail e (.Slice lo hi none p2) v (.ref s3.heap.objs.size)) (DP X B pins σ F H env Ke) X.xe { s3 with heap := s3.heap.push { cls := .type "slice", data := .fields #[vl, vu, .none] } } := fun r hr q => by
    obtain ⟨T, id, hT, ht, hg⟩ := hr pins { s3 with heap := s3.heap.push { cls := .type "slice", data := .fields #[vl, vu, .none] } } σ H3 x v vl vu l u s3.heap.objs.size _ I4 rx (Heap.IsSliceOf.new ..) pl pu q
    exact thn (tail_any (ops := [.ref s3.heap.objs.size, v]) ht hT hg (by with_unfolding_all rfl)) fun w s4 ⟨v', H', I', rv, r, F', k1, k2, k3, k4, k5⟩ => DP.up ff ⟨v', env3, r, F', H', I', rv, k1, k2, k3, k4, k5⟩
  show wpAny (model X.prog X.w) X.A (subscriptTail e (.Slice lo hi none p2) v (.ref s3.heap.objs.size)) (DP X B pins σ F H env Ke) X.xe { s3 with heap := s3.heap.push { cls := .type "slice", data := .fields #[vl, vu, .none] } }
  have h3 : oSl d l u (Ke env3) := h3
  unfold oSl at h3
  split at h3
  · obtain ⟨p, vs, rfl, g3, g4⟩ := g.list R3.sub
    exact go _ sl_list ⟨p, vs, rfl, g3, fun p hp => new_lst R3 hp (g4.cut l u) h3⟩
  · obtain ⟨p, vs, rfl, g3, g4⟩ := g.tuple R3.sub
    refine go _ sl_tupA ⟨p, vs, rfl, g3, fun hw => ?_, fun _ p hp => new_tup R3 hp (g4.cut l u) h3⟩
    rcases g with g | ⟨_, _, _, _, z, _⟩
    · rename_i ds _
      rw [g4.length] at hw
      rw [cutD_whole hw] at h3
      exact same_res R3 g h3
    · cases z
  · obtain rfl := g.str
    exact go _ sl_str ⟨_, rfl, h3.1, same_res R3 (.str _) h3.2⟩
  · exact h3.elim
end

/-! ### calls of built-ins -/
abbrev OpN := List PyData → (Rs → Prop) → Prop
inductive RtAll (K : PySem.W.Frag) (F H : Hp) : List V → List PyData → Prop
  | nil : RtAll K F H [] []
  | cons {v : V} {vs : List V} {d : PyData} {ds : List PyData} : Rt K F H v d → RtAll K F H vs ds → RtAll K F H (v :: vs) (d :: ds)
structure DCl (X : Cx) (f : Value) (o : OpN) : Prop where
  run : ∀ (B : Bs) (F : Hp) (env : Ev) (pins : List (Addr × Obj)) (s : Shared) (σ : St) (H : Hp) (xs : List V) (us : List Value) (ds : List PyData) (Kr : Rs → Prop), Inv X pins σ H s → Vals xs us → Rl X.K B F H env σ → RtAll X.K F H xs ds → o ds Kr →
    wpAny (model X.prog X.w) X.A (call f us) (RP X B pins σ F H env Kr) X.xe s
def rdAll (env : Ev) : List Rs → Option (List PyData)
  | [] => some []
  | r :: rs => match rd env r, rdAll env rs with
    | some d, some ds => some (d :: ds)
    | _, _ => none
def wCallB (o : OpN) (wa : WA) : WE := fun env Ke Kx => wa env (fun env' rs => ∃ ds, rdAll env' rs = some ds ∧ o ds (Ke env')) Kx
theorem rts_of {K : PySem.W.Frag} {B : Bs} {F H : Hp} {env : Ev} {σ : St} (R : Rl K B F H env σ) : ∀ {vs : List V} {rs : List Rs} {ds : List PyData}, Paired (fun v r => Res K B F H env σ v r) vs rs → rdAll env rs = some ds → RtAll K F H vs ds
  | _, _, ds, .nil, e => by
    have e' : [] = ds := by simpa [rdAll] using e
    subst e'
    exact .nil
  | _, _, ds, .cons (b := r) (l₂ := rs) h t, e => by
    unfold rdAll at e
    split at e
    · rename_i d es e1 e2
      cases e
      exact .cons (h.rt R e1) (rts_of R t e2)
    · cases e
section
variable {B : Bs} {W : WX} {X : Cx} {x : Str} {p pos : Pos} {e : Expr} {es : List Expr} {wa : WA} {id T : String} {o : OpN}
theorem de_callB (hc : DCl X (.builtin id) o) (ha : DA B W X (e :: es) wa) (hg : Gl X x) (hm : X.mg x = none) (hv : bootBuiltins x = some (.builtin id)) (hn : x ≠ "__name__" := by decide) (hdb : (x == ("__debug__" : Str)) = false := by decide)
    (he : starEach (e :: es) X.env = (false, eval e X.env) :: starEach es X.env := by rfl) (hpl : (backTo pos (starEach es X.env)).any (·.1) = false := by rfl) : DE B W X (.Call (.Name x p) (e :: es) [] pos) (wCallB o wa) := by
  refine ⟨fun pins s σ F H env Ke Kx I R h hx => ?_⟩
  refine wpAny_Call_Name_kw (ld_blt I hg hm hv ?_ hn hdb)
  exact PyProof.Rows.callWith_builtin1 (thn (ha.run pos pins s σ F H env _ Kx I R h hx) fun us s1 ⟨vs, env1, rs, F1, H1, I1, rv, R1, f1, q1, ds, e1, k⟩ => thn (hc.run B F1 env1 pins s1 σ H1 vs us ds _ I1 rv R1 (rts_of R1 q1 e1) k) fun w s2 h2 => h2.dp.up f1) he hpl
theorem de_callTy (hc : DCl X (.type T) o) (ha : DA B W X (e :: es) wa) (hg : Gl X x) (hm : X.mg x = none) (hv : bootBuiltins x = some (.type T)) (hn : x ≠ "__name__" := by decide) (hdb : (x == ("__debug__" : Str)) = false := by decide)
    (he : starEach (e :: es) X.env = (false, eval e X.env) :: starEach es X.env := by rfl) (hpl : (backTo pos (starEach es X.env)).any (·.1) = false := by rfl) : DE B W X (.Call (.Name x p) (e :: es) [] pos) (wCallB o wa) := by
  refine ⟨fun pins s σ F H env Ke Kx I R h hx => ?_⟩
  refine wpAny_Call_Name_kw (ld_blt I hg hm hv ?_ hn hdb)
  exact PyProof.Rows.callWith_type1 (thn (ha.run pos pins s σ F H env _ Kx I R h hx) fun us s1 ⟨vs, env1, rs, F1, H1, I1, rv, R1, f1, q1, ds, e1, k⟩ => thn (hc.run B F1 env1 pins s1 σ H1 vs us ds _ I1 rv R1 (rts_of R1 q1 e1) k) fun w s2 h2 => h2.dp.up f1) he hpl
end
section
variable {X : Cx}
theorem clr_run {f : Value} {r : List V → Hp → VK → Prop} (ho : CallR X f r) {B : Bs} {F : Hp} {env : Ev} {pins : List (Addr × Obj)} {s : Shared} {σ : St} {H : Hp} {xs : List V} {us : List Value} {Kr : Rs → Prop} (I : Inv X pins σ H s) (rx : Vals xs us)
    (h : r xs H (fun v H' => ∃ r F', Rl X.K B F' H' env σ ∧ Fm env σ F H env F' H' ∧ Res X.K B F' H' env σ v r ∧ Nw H v r ∧ Kr r)) : wpAny (model X.prog X.w) X.A (call f us) (RP X B pins σ F H env Kr) X.xe s :=
  thn (ho pins s σ H xs us _ I rx h) fun w s1 ⟨v', H', I', rv, r, F', h1, h2, h3, h4, h5⟩ => ⟨v', r, F', H', I', rv, h1, h2, h3, h4, h5⟩
theorem RtAll.one {K : PySem.W.Frag} {F H : Hp} {vs : List V} {d : PyData} (h : RtAll K F H vs [d]) : ∃ v, vs = [v] ∧ Rt K F H v d := by
  cases h with
  | cons a b => cases b; exact ⟨_, rfl, a⟩
theorem RtAll.two {K : PySem.W.Frag} {F H : Hp} {vs : List V} {d e : PyData} (h : RtAll K F H vs [d, e]) : ∃ v w, vs = [v, w] ∧ Rt K F H v d ∧ Rt K F H w e := by
  cases h with
  | cons a b =>
    obtain ⟨w, rfl, h2⟩ := b.one
    exact ⟨_, w, rfl, a, h2⟩
def oLen : OpN := fun ds K => match ds with
  | [.list xs] => K (.val (.int xs.length))
  | [.tuple xs] => K (.val (.int xs.length))
  | [.str z] => z.length ≤ sizeLine ∧ K (.val (.int z.length))
  | _ => False
theorem dcl_len : DCl X (.builtin "len") oLen := by
  refine ⟨fun B F env pins s σ H xs us ds Kr I rx R hx q => ?_⟩
  unfold oLen at q
  split at q
  · obtain ⟨v, rfl, h⟩ := hx.one
    obtain ⟨a, vs, rfl, h1, h2⟩ := h.list R.sub
    exact clr_run call_len_seq I rx ⟨a, vs, rfl, .inl h1, by rw [h2.length]; exact same_res R (.int _) q⟩
  · obtain ⟨v, rfl, h⟩ := hx.one
    obtain ⟨a, vs, rfl, h1, h2⟩ := h.tuple R.sub
    exact clr_run call_len_seq I rx ⟨a, vs, rfl, .inr h1, by rw [h2.length]; exact same_res R (.int _) q⟩
  · obtain ⟨v, rfl, h⟩ := hx.one
    obtain rfl := h.str
    exact clr_run call_len_str I rx ⟨_, rfl, q.1, same_res R (.int _) q.2⟩
  · exact q.elim
def oInt : OpN := fun ds K => match ds with
  | [.int i] => K (.val (.int i))
  | [.bool b] => K (.val (.int (if b then 1 else 0)))
  | _ => False
theorem dcl_int : DCl X (.type "int") oInt := by
  refine ⟨fun B F env pins s σ H xs us ds Kr I rx R hx q => ?_⟩
  unfold oInt at q
  split at q
  · obtain ⟨v, rfl, h⟩ := hx.one
    obtain rfl := h.int
    exact clr_run call_int1 I rx (.inl ⟨_, rfl, same_res R (.int _) q⟩)
  · obtain ⟨v, rfl, h⟩ := hx.one
    obtain rfl := h.bool
    exact clr_run call_int1 I rx (.inr ⟨_, rfl, same_res R (.int _) q⟩)
  · exact q.elim
def oMax : OpN := fun ds K => match ds with
  | [.int i, .int j] => K (.val (.int (if j > i then j else i)))
  | [.list xs] => ∃ ns : List Int, xs = ns.map .int ∧ 0 < ns.length ∧ ∀ m, m ∈ ns → (∀ n ∈ ns, n ≤ m) → K (.val (.int m))
  | _ => False
def oMin : OpN := fun ds K => match ds with
  | [.int i, .int j] => K (.val (.int (if j < i then j else i)))
  | [.list xs] => ∃ ns : List Int, xs = ns.map .int ∧ 0 < ns.length ∧ ∀ m, m ∈ ns → (∀ n ∈ ns, m ≤ n) → K (.val (.int m))
  | _ => False
theorem dcl_max (hc : X.calm = true) : DCl X (.builtin "max") oMax := by
  refine ⟨fun B F env pins s σ H xs us ds Kr I rx R hx q => ?_⟩
  unfold oMax at q
  split at q
  · obtain ⟨v, w, rfl, h1, h2⟩ := hx.two
    obtain rfl := h1.int
    obtain rfl := h2.int
    exact clr_run (call_max2 hc) I rx ⟨_, _, rfl, same_res R (.int _) q⟩
  · obtain ⟨v, rfl, h⟩ := hx.one
    obtain ⟨ns, rfl, hl, q⟩ := q
    obtain ⟨a, vs, rfl, h1, h2⟩ := h.list R.sub
    have e := h2.ints
    subst e
    exact clr_run (cr_max hc) I rx ⟨a, ns, rfl, h1, hl, fun m hm hle => same_res R (.int _) (q m hm hle)⟩
  · exact q.elim
def oSum : OpN := fun ds K => match ds with
  | [.list xs] => ∃ ns : List Int, xs = ns.map .int ∧ K (.val (.int ns.sum))
  | _ => False
theorem dcl_sum (hc : X.calm = true) : DCl X (.builtin "sum") oSum := by
  refine ⟨fun B F env pins s σ H xs us ds Kr I rx R hx q => ?_⟩
  unfold oSum at q
  split at q
  · obtain ⟨v, rfl, h⟩ := hx.one
    obtain ⟨ns, rfl, q⟩ := q
    obtain ⟨a, vs, rfl, h1, h2⟩ := h.list R.sub
    have e := h2.ints
    subst e
    exact clr_run (cr_sum hc) I rx ⟨a, ns, rfl, h1, same_res R (.int _) q⟩
  · exact q.elim
def oAll : OpN := fun ds K => match ds with
  | [.list xs] => ∃ bs : List Bool, xs = bs.map .bool ∧ K (.val (.bool (bs.all id)))
  | _ => False
def oAny : OpN := fun ds K => match ds with
  | [.list xs] => ∃ bs : List Bool, xs = bs.map .bool ∧ K (.val (.bool (bs.any id)))
  | _ => False
theorem dcl_all (hc : X.calm = true) : DCl X (.builtin "all") oAll := by
  refine ⟨fun B F env pins s σ H xs us ds Kr I rx R hx q => ?_⟩
  unfold oAll at q
  split at q
  · obtain ⟨v, rfl, h⟩ := hx.one
    obtain ⟨bs, rfl, q⟩ := q
    obtain ⟨a, vs, rfl, h1, h2⟩ := h.list R.sub
    have e := h2.bools
    subst e
    exact clr_run (cr_all hc) I rx ⟨a, bs, rfl, h1, same_res R (.bl _) q⟩
  · exact q.elim
theorem dcl_any (hc : X.calm = true) : DCl X (.builtin "any") oAny := by
  refine ⟨fun B F env pins s σ H xs us ds Kr I rx R hx q => ?_⟩
  unfold oAny at q
  split at q
  · obtain ⟨v, rfl, h⟩ := hx.one
    obtain ⟨bs, rfl, q⟩ := q
    obtain ⟨a, vs, rfl, h1, h2⟩ := h.list R.sub
    have e := h2.bools
    subst e
    exact clr_run (cr_any hc) I rx ⟨a, bs, rfl, h1, same_res R (.bl _) q⟩
  · exact q.elim
def oList : OpN := fun ds K => match ds with
  | [.list xs] => K (.tmp xs)
  | [.tuple xs] => K (.tmp xs)
  | _ => False
theorem dcl_list : DCl X (.type "list") oList := by
  refine ⟨fun B F env pins s σ H xs us ds Kr I rx R hx q => ?_⟩
  unfold oList at q
  split at q
  · obtain ⟨v, rfl, h⟩ := hx.one
    obtain ⟨a, vs, rfl, h1, h2⟩ := h.list R.sub
    exact clr_run call_list_of I rx ⟨a, vs, rfl, .inl h1, fun p hp => new_lst R hp h2 q⟩
  · obtain ⟨v, rfl, h⟩ := hx.one
    obtain ⟨a, vs, rfl, h1, h2⟩ := h.tuple R.sub
    exact clr_run call_list_of I rx ⟨a, vs, rfl, .inr h1, fun p hp => new_lst R hp h2 q⟩
  · exact q.elim
def oTuple : OpN := fun ds K => match ds with
  | [.list xs] => K (.val (.tuple xs))
  | [.tuple xs] => K (.val (.tuple xs))
  | _ => False
theorem dcl_tuple : DCl X (.type "tuple") oTuple := by
  refine ⟨fun B F env pins s σ H xs us ds Kr I rx R hx q => ?_⟩
  unfold oTuple at q
  split at q
  · obtain ⟨v, rfl, h⟩ := hx.one
    obtain ⟨a, vs, rfl, h1, h2⟩ := h.list R.sub
    exact clr_run call_tuple_of I rx ⟨a, vs, rfl, .inl ⟨h1, fun p hp => new_tup R hp h2 q⟩⟩
  · obtain ⟨v, rfl, h⟩ := hx.one
    obtain ⟨a, vs, rfl, h1, h2⟩ := id (h.tuple R.sub)
    rcases h with h | ⟨_, _, _, _, z, _⟩
    · exact clr_run call_tuple_of I rx ⟨a, vs, rfl, .inr ⟨h1, same_res R h q⟩⟩
    · cases z
  · exact q.elim
end

/-! ### isinstance with a built-in class -/
def tyN : PyData → String
  | .none => "NoneType"
  | .bool _ => "bool"
  | .int _ => "int"
  | .str _ => "str"
  | .list _ => "list"
  | .tuple _ => "tuple"
  | .dict _ => "dict"
/-- isinstance(d, T) of the built-in classes asked here -/
def isTy (T : String) (d : PyData) : Bool := tyN d == T || (T == "int" && tyN d == "bool")
def wIsi (T : String) (wa : WE) : WE := fun env Ke Kx => wa env (fun env' r => rdK env' r fun d => Ke env' (.val (.bool (isTy T d)))) Kx
theorem Rt.tyX {K : PySem.W.Frag} {F H : Hp} {v : V} {d : PyData} (s : Same F H) (h : Rt K F H v d) : TyX K H v (.type (tyN d)) := by
  cases d with
  | none => obtain rfl := h.none; exact .base .non
  | bool b => obtain rfl := h.bool; exact .base (.bl b)
  | int b => obtain rfl := h.int; exact .base (.int b)
  | str b => obtain rfl := h.str; exact .base (.str b)
  | list ds =>
    obtain ⟨a, vs, rfl, h1, _⟩ := h.list s
    rcases h1 with (h1 | ⟨o, h1⟩) | ⟨o, its, n, h1, h2, _⟩
    · exact .base (.lst h1)
    · exact .base (.frz h1)
    · exact .kList h1 h2
  | tuple ds =>
    obtain ⟨a, vs, rfl, h1, _⟩ := h.tuple s
    rcases h1 with (h1 | ⟨o, h1⟩) | ⟨o, its, n, h1, h2, _⟩
    · exact .base (.tup h1)
    · exact .fTuple h1
    · exact .kTuple h1 h2
  | dict kvs =>
    obtain ⟨_, a, rfl, h1⟩ := h.dict s
    exact .base (.dK h1)
theorem kit_isTy {T : String} (hT : T = "int" ∨ T = "bool" ∨ T = "tuple" ∨ T = "list" ∨ T = "str") (d : PyData) : kitB (tyN d) T = some (isTy T d) := by
  rcases hT with rfl | rfl | rfl | rfl | rfl <;> cases d <;> simp only [tyN, isTy] <;> decide +kernel
theorem de_isi {B : Bs} {W : WX} {X : Cx} {e : Expr} {w : WE} {T : String} {x : Str} {p p2 pos : Pos} (ha : DE B W X e w) (hg : Gl X "isinstance") (hm : X.mg "isinstance" = none) (hg2 : Gl X x) (hm2 : X.mg x = none) (hv : bootBuiltins x = some (.type T)) (hT : T = "int" ∨ T = "bool" ∨ T = "tuple" ∨ T = "list" ∨ T = "str")
    (hn : x ≠ "__name__" := by decide) (hdb : (x == ("__debug__" : Str)) = false := by decide) (hs : starEach [e, .Name x p2] X.env = (false, eval e X.env) :: starEach [.Name x p2] X.env := by rfl) (hs2 : starEach [.Name x p2] X.env = (false, eval (.Name x p2) X.env) :: starEach [] X.env := by rfl)
    (hpl : (backTo pos (starEach [.Name x p2] X.env)).any (·.1) = false := by rfl) : DE B W X (.Call (.Name "isinstance" p) [e, .Name x p2] [] pos) (wIsi T w) := by
  refine ⟨fun pins s σ F H env Ke Kx I R h hx => ?_⟩
  have hb : PE X (.Name x p2) (tC (.ty T)) := pe_bltn hg2 hm2 hv rfl hn hdb
  have pe := pe_callB (pos := pos) (p := p) (call_isi (X := X)) hg hm (by decide +kernel) (pa_cons ha.pe (pa_cons hb pa_nil hs2) hs) (by decide) (by decide) hs hpl
  refine thn (pe.run pins s σ H (fun v H' => ∃ env' F', Rl X.K B F' H' env' σ ∧ Fm env σ F H env' F' H' ∧ ∃ b, v = .bl b ∧ Ke env' (.val (.bool b))) I ?_) fun u s1 ⟨v, H', I', rv, env', F', h1, h2, b, h3, h4⟩ => by
    subst h3
    exact ⟨_, env', .val (.bool b), F', H', I', rv, h1, h2, .bl b, trivial, h4⟩
  refine ⟨F, env, _, Kx, R, h, hx, fun v env' r F' H' k1 k2 k3 _ ⟨d, e1, k4⟩ => ?_⟩
  exact ⟨v, .ty T, .type (tyN d), .type T, isTy T d, rfl, .ty T, (k3.rt k1 e1).tyX k1.sub, kit_ty (kit_isTy hT d), env', F', k1, k2, isTy T d, rfl, k4⟩
end Dl
end L2

/-! The D layer, 6: what a def promises over data; its call. -/
namespace L2
namespace Dl
open PySem PySem.Spec PyProof.Rows

inductive AV where
  | val (d : PyData)
  | own (ds : List PyData)
inductive Rv where
  | val (d : PyData)
  | own (ds : List PyData)
/-- a promise over data: the arguments; what is wanted of the lent lists' ends and the answer; of them and an exception -/
abbrev Spc := List AV → (List (List PyData) → Rv → Prop) → (List (List PyData) → XD → Prop) → Prop
def lentAs : List V → List AV → List Addr
  | .ref a :: vs, .own _ :: avs => a :: lentAs vs avs
  | _ :: vs, _ :: avs => lentAs vs avs
  | _, _ => []
inductive ArgsR (K : PySem.W.Frag) (F H : Hp) : List V → List AV → Prop
  | nil : ArgsR K F H [] []
  | val {v : V} {vs : List V} {d : PyData} {as : List AV} : Rp K F v d → ArgsR K F H vs as → ArgsR K F H (v :: vs) (.val d :: as)
  | own {a : Addr} {ws vs : List V} {ds : List PyData} {as : List AV} : H a = some (.lst ws) → F a = none → RpAll K F ws ds → ArgsR K F H vs as → ArgsR K F H (.ref a :: vs) (.own ds :: as)
/-- the lent lists at the end -/
def OutsR (K : PySem.W.Frag) (F H : Hp) (as : List Addr) (outs : List (List PyData)) : Prop := Paired (fun a ds => ∃ ws, H a = some (.lst ws) ∧ F a = none ∧ RpAll K F ws ds) as outs
def RvR (K : PySem.W.Frag) (H0 F H : Hp) (v : V) : Rv → Prop
  | .val d => Rp K F v d
  | .own ds => ∃ p ws, v = .ref p ∧ H p = some (.lst ws) ∧ F p = none ∧ H0 p = none ∧ RpAll K F ws ds
structure Aft (K : PySem.W.Frag) (F H : Hp) (ls : List Addr) (F' H' : Hp) (outs : List (List PyData)) : Prop where
  subF : Same F F'
  sub : Same F' H'
  keep : ∀ b x, H b = some x → b ∉ ls → H' b = some x
  dom : ∀ b, H b ≠ none → H' b ≠ none
  new : ∀ b x, F' b = some x → F b = some x ∨ Nw0 H b x
  outs : OutsR K F' H' ls outs
/-- what an exception is, by its class's name -/
def XRm (K : PySem.W.Frag) (mg : Str → Option Value) (F H : Hp) (x : XD) (cls : Value) (d : Option Addr) : Prop :=
  mg x.name = some cls ∧ match d with
    | none => x.fs = []
    | some dx => ∃ fs, F dx = some (.xd fs) ∧ fsR K F fs x.fs
def low (K : PySem.W.Frag) (mg : Str → Option Value) (n : Nat) (S : Spc) : Sp := fun vs H Q E => ∃ F avs Kr Kx, Same F H ∧ ArgsR K F H vs avs ∧ (lentAs vs avs).Nodup ∧ avs.length = n ∧ S avs Kr Kx ∧
  (∀ outs r F' H' v, Aft K F H (lentAs vs avs) F' H' outs → RvR K H F' H' v r → Kr outs r → Q v H') ∧
  (∀ outs x cls d F' H', Aft K F H (lentAs vs avs) F' H' outs → XRm K mg F' H' x cls d → Kx outs x → E cls d H')
theorem ArgsR.length {K : PySem.W.Frag} {F H : Hp} : ∀ {vs : List V} {as : List AV}, ArgsR K F H vs as → vs.length = as.length
  | _, _, .nil => rfl
  | _, _, .val _ t => by rw [List.length_cons, List.length_cons, t.length]
  | _, _, .own _ _ _ t => by rw [List.length_cons, List.length_cons, t.length]

/-! ### argument lists of own defs: frozen ones and lent names -/
inductive Ar where
  | fz (d : PyData)
  | ln (i : Nat)
abbrev WM := Ev → (Ev → List Ar → Prop) → KXc → Prop
def ArR (K : PySem.W.Frag) (F : Hp) (σ : St) (v : V) : Ar → Prop
  | .fz d => Rp K F v d
  | .ln i => σ[i]? = some (some v)
structure DM (B : Bs) (W : WX) (X : Cx) (es : List Expr) (w : WM) : Prop where
  run : ∀ (pos : Pos) (pins : List (Addr × Obj)) (s : Shared) (σ : St) (F H : Hp) (env : Ev) (Ka : Ev → List Ar → Prop) (Kx : KXc), Inv X pins σ H s → Rl X.K B F H env σ → w env Ka Kx → XC X.K B W Kx →
    wpAny (model X.prog X.w) X.A (spliced (backTo pos (starEach es X.env))) (fun us s' => ∃ vs env' as F' H', Inv X pins σ H' s' ∧ Vals vs us ∧ Rl X.K B F' H' env' σ ∧ Fm env σ F H env' F' H' ∧ Paired (fun v a => ArR X.K F' σ v a) vs as ∧ Ka env' as) X.xe s
def wMNil : WM := fun env Ka _ => Ka env []
def wMCons (w : WE) (wr : WM) : WM := fun env Ka Kx => wFz w env (fun env1 d => wr env1 (fun env2 as => Ka env2 (.fz d :: as)) Kx) Kx
def wMLend (i : Nat) (wr : WM) : WM := fun env Ka Kx => wr env (fun env2 as => Ka env2 (.ln i :: as)) Kx
theorem ArR.mono {K : PySem.W.Frag} {F F' : Hp} {σ : St} {v : V} {a : Ar} (s : Same F F') (h : ArR K F σ v a) : ArR K F' σ v a := by
  cases a with
  | fz d => exact Rp.mono s d v h
  | ln i => exact h
section
variable {B : Bs} {W : WX} {X : Cx} {e : Expr} {es : List Expr} {w : WE} {wm : WM} {pos : Pos}
theorem dm_nil : DM B W X [] wMNil := ⟨fun _ _ _ _ F H env Ka _ I R h _ => Calls.spliced_nil ⟨[], env, [], F, H, I, .nil, R, Fm.refl, .nil, h⟩⟩
theorem dm_cons (ha : DE B W X e w) (hr : DM B W X es wm) (hs : starEach (e :: es) X.env = (false, eval e X.env) :: starEach es X.env := by rfl) : DM B W X (e :: es) (wMCons w wm) := by
  refine ⟨fun pos pins s σ F H env Ka Kx I R h hx => ?_⟩
  rw [hs]
  show wpAny _ _ (spliced ((false, eval e X.env) :: backTo pos (starEach es X.env))) _ _ s
  refine Calls.spliced_cons (thn (ha.run pins s σ F H env _ Kx I R h hx) fun u s1 ⟨x, env1, r1, F1, H1, I1, rx, R1, f1, q1, n1, p, e1, h1⟩ => ?_)
  obtain ⟨F2, R2, f2, rp⟩ := freeze (env2 := p.1) (d := p.2) R1 f1 q1 n1 e1
  exact thn (hr.run pos pins s1 σ F2 H1 p.1 _ Kx I1 R2 h1 hx) fun us s2 ⟨vs, env2, as, F3, H3, I3, rv, R3, f3, q3, h3⟩ => ⟨x :: vs, env2, .fz p.2 :: as, F3, H3, I3, .cons rx rv, R3, f2.trans f3, .cons (Rp.mono f3.sub _ _ rp) q3, h3⟩
/-- the slot i holds a list of its own, lent -/
def wLd (i : Nat) (wm : WM) : WM := fun env Ka Kx => (∃ ds l, env[i]? = some (Sl.own l ds)) ∧ wMLend i wm env Ka Kx
/-- a name that holds a list of its own is lent -/
theorem dm_lend (i : Nat) {x : Str} {p : Pos} (hr : DM B W X es wm) (hN : X.N[i]? = some x := by rfl) (hv : Vis X.env.scope x := by first | exact Or.inl rfl | exact Or.inr (Or.inl rfl) | exact Or.inr (Or.inr rfl)) (hd : (x == ("__debug__" : Str)) = false := by decide)
    (hcd : (x == ("__classdict__" : Str)) = false := by decide) (hs : starEach (.Name x p :: es) X.env = (false, eval (.Name x p) X.env) :: starEach es X.env := by rfl) : DM B W X (.Name x p :: es) (wLd i wm) := by
  refine ⟨fun pos pins s σ F H env Ka Kx I R h hx => ?_⟩
  obtain ⟨⟨ds, l, e0⟩, h⟩ := h
  rw [hs]
  show wpAny _ _ (spliced ((false, eval (.Name x p) X.env) :: backTo pos (starEach es X.env))) _ _ s
  have sl := R.sl i
  rw [e0] at sl
  obtain ⟨a, ws, g1, g2, g3, g4⟩ := sl
  refine Calls.spliced_cons (thn ((pe_var hN hv hd hcd).run pins s σ H (fun v H' => H' = H ∧ v = .ref a) I ⟨_, g1, rfl, rfl⟩) fun u s1 ⟨v, H', I', rv, e1, e2⟩ => ?_)
  subst e1 e2
  exact thn (hr.run pos pins s1 σ F _ env _ Kx I' R h hx) fun us s2 ⟨vs, env2, as, F3, H3, I3, rv', R3, f3, q3, h3⟩ => ⟨.ref a :: vs, env2, .ln i :: as, F3, H3, I3, .cons rv rv', R3, f3, .cons g1 q3, h3⟩
end

/-! ### the call -/
/-- the arguments' data now; lent slots -/
def avsOf (env : Ev) : List Ar → Option (List AV)
  | [] => some []
  | .fz d :: as => (avsOf env as).map (.val d :: ·)
  | .ln i :: as => match env[i]? with
    | some (.own _ ds) => (avsOf env as).map (.own ds :: ·)
    | _ => none
def lnsOf : List Ar → List Nat
  | [] => []
  | .fz _ :: as => lnsOf as
  | .ln i :: as => i :: lnsOf as
/-- the lent slots hold their new lists -/
def putOuts (env : Ev) : List Nat → List (List PyData) → Ev
  | i :: is, ds :: outs => putOuts (match env[i]? with
    | some (.own l _) => env.set i (.own l ds)
    | _ => env) is outs
  | _, _ => env
def rsOf : Rv → Rs
  | .val d => .val d
  | .own ds => .tmp ds
def wCall (n : Nat) (S : Spc) (wm : WM) : WE := fun env Ke Kx => wm env (fun env' as => (lnsOf as).Nodup ∧ ∃ avs, avsOf env' as = some avs ∧ avs.length = n ∧ S avs (fun outs r => Ke (putOuts env' (lnsOf as) outs) (rsOf r)) (fun outs x => Kx (putOuts env' (lnsOf as) outs) x)) Kx
/-- a def by its name in the module -/
def Cal (P : Program) (w : World) (K : PySem.W.Frag) (mg : Str → Option Value) (base : Heap) (k : Nat) (x : Str) (n : Nat) (S : Spc) : Prop :=
  ∃ f fd ps, ps.length = n ∧ mg x = some (.ref f) ∧ PySem.W.keepIn K (.ref f) = true ∧ Binds K fd ps [] ∧ FnOk P w K mg base (L2N.CX P w) k f fd ps (low K mg n S)

section
variable {K : PySem.W.Frag} {B : Bs} {F H F' H' : Hp} {env : Ev} {σ : St}
/-- one own slot's list is another -/
theorem putOuts_len (env : Ev) : ∀ (is : List Nat) (outs : List (List PyData)), (putOuts env is outs).length = env.length := by
  intro is
  induction is generalizing env with
  | nil => intro outs; cases outs <;> rfl
  | cons i is ih =>
    intro outs
    cases outs with
    | nil => rfl
    | cons ds outs =>
      show (putOuts _ is outs).length = _
      rw [ih]
      split <;> simp
/-- which lists stand where behind the call -/
theorem putOuts_own : ∀ (is : List Nat) (outs : List (List PyData)) (env : Ev) (j : Nat) (l : Bool) (ds : List PyData), (putOuts env is outs)[j]? = some (Sl.own l ds) →
    ∃ ds0, env[j]? = some (Sl.own l ds0) := by
  intro is
  induction is with
  | nil => intro outs env j l ds h; cases outs <;> exact ⟨ds, h⟩
  | cons i is ih =>
    intro outs env j l ds h
    cases outs with
    | nil => exact ⟨ds, h⟩
    | cons d outs =>
      have h' : (putOuts (match env[i]? with
        | some (.own l _) => env.set i (.own l d)
        | _ => env) is outs)[j]? = some (Sl.own l ds) := h
      obtain ⟨ds0, h1⟩ := ih outs _ j l ds h'
      split at h1
      · rename_i l' ds' e
        by_cases hj : i = j
        · subst hj
          rw [List.getElem?_set_self (List.getElem?_eq_some_iff.mp e).1] at h1
          cases h1
          exact ⟨ds', e⟩
        · rw [List.getElem?_set_ne hj] at h1
          exact ⟨ds0, h1⟩
      · exact ⟨ds0, h1⟩
theorem putOuts_dct : ∀ (is : List Nat) (outs : List (List PyData)) (env : Ev) (j : Nat) (kv : List (List Int × PyData)), (putOuts env is outs)[j]? = some (Sl.dct kv) → env[j]? = some (Sl.dct kv) := by
  intro is
  induction is with
  | nil => intro outs env j kv h; cases outs <;> exact h
  | cons i is ih =>
    intro outs env j kv h
    cases outs with
    | nil => exact h
    | cons d outs =>
      have h' : (putOuts (match env[i]? with
        | some (.own l _) => env.set i (.own l d)
        | _ => env) is outs)[j]? = some (Sl.dct kv) := h
      have h1 := ih outs _ j kv h'
      split at h1
      · rename_i l' ds' e
        by_cases hj : i = j
        · subst hj
          rw [List.getElem?_set_self (List.getElem?_eq_some_iff.mp e).1] at h1
          cases h1
        · rw [List.getElem?_set_ne hj] at h1
          exact h1
      · exact h1
theorem putOuts_val : ∀ (is : List Nat) (outs : List (List PyData)) (env : Ev) (j : Nat) (d : PyData), (putOuts env is outs)[j]? = some (Sl.val d) → env[j]? = some (Sl.val d) := by
  intro is
  induction is with
  | nil => intro outs env j d h; cases outs <;> exact h
  | cons i is ih =>
    intro outs env j d h
    cases outs with
    | nil => exact h
    | cons e outs =>
      have h' : (putOuts (match env[i]? with
        | some (.own l _) => env.set i (.own l e)
        | _ => env) is outs)[j]? = some (Sl.val d) := h
      have h1 := ih outs _ j d h'
      split at h1
      · by_cases hj : i = j
        · subst hj
          rename_i e0
          rw [List.getElem?_set_self (List.getElem?_eq_some_iff.mp e0).1] at h1
          cases h1
        · rw [List.getElem?_set_ne hj] at h1
          exact h1
      · exact h1
theorem putOuts_out : ∀ (is : List Nat) (outs : List (List PyData)) (env : Ev) (j : Nat), j ∉ is → (putOuts env is outs)[j]? = env[j]? := by
  intro is
  induction is with
  | nil => intro outs env j h; cases outs <;> rfl
  | cons i is ih =>
    intro outs env j h
    cases outs with
    | nil => rfl
    | cons e outs =>
      show (putOuts _ is outs)[j]? = _
      rw [ih outs _ j fun z => h (List.mem_cons_of_mem _ z)]
      have hj : i ≠ j := fun z => h (by rw [z]; exact List.mem_cons_self)
      split
      · rw [List.getElem?_set_ne hj]
      · rfl
/-- the lent ones: place, address, list -/
theorem putOuts_at : ∀ (as : List Ar) (vs : List V) (avs : List AV) (outs : List (List PyData)) (env : Ev), Paired (fun v a => ArR K F σ v a) vs as → avsOf env as = some avs → (lnsOf as).Nodup →
    OutsR K F' H' (lentAs vs avs) outs → (∀ (i : Nat) (l : Bool) (ds : List PyData), env[i]? = some (Sl.own l ds) → ∃ a : Addr, σ[i]? = some (some (V.ref a))) → ∀ (j : Nat) (l : Bool) (ds : List PyData), j ∈ lnsOf as → (putOuts env (lnsOf as) outs)[j]? = some (Sl.own l ds) →
      ∃ a ws, σ[j]? = some (some (.ref a)) ∧ a ∈ lentAs vs avs ∧ H' a = some (.lst ws) ∧ F' a = none ∧ RpAll K F' ws ds
  | [], _, _, _, _, _, _, _, _, _, _, _, _, hj, _ => by cases hj
  | .fz d :: as, _, avs, outs, env, .cons (a := v) (l₁ := vs) hp tp, e, nd, ho, hs, j, l, ds, hj, h => by
    simp only [avsOf, Option.map_eq_some_iff] at e
    obtain ⟨avs', e1, rfl⟩ := e
    have hl : lentAs (v :: vs) (.val d :: avs') = lentAs vs avs' := by cases v <;> rfl
    rw [hl] at ho ⊢
    exact putOuts_at as vs avs' outs env tp e1 nd ho hs j l ds hj h
  | .ln i :: as, _, avs, outs, env, .cons (a := v) (l₁ := vs) hp tp, e, nd, ho, hs, j, l, ds, hj, h => by
    simp only [avsOf] at e
    split at e
    · rename_i l0 ds0 e0
      simp only [Option.map_eq_some_iff] at e
      obtain ⟨avs', e1, rfl⟩ := e
      obtain ⟨a, ha⟩ := hs i l0 ds0 e0
      have hv : σ[i]? = some (some v) := hp
      rw [ha] at hv
      cases hv
      have ho' : OutsR K F' H' (a :: lentAs vs avs') outs := ho
      have nd' : i ∉ lnsOf as ∧ (lnsOf as).Nodup := List.nodup_cons.mp nd
      cases ho' with
      | cons ho1 ho2 =>
        rename_i o1 outs'
        have h' : (putOuts (match env[i]? with
          | some (.own l _) => env.set i (.own l o1)
          | _ => env) (lnsOf as) outs')[j]? = some (Sl.own l ds) := h
        rw [e0] at h'
        by_cases hji : j = i
        · subst hji
          rw [putOuts_out _ _ _ _ nd'.1, List.getElem?_set_self (List.getElem?_eq_some_iff.mp e0).1] at h'
          cases h'
          obtain ⟨ws, g1, g2, g3⟩ := ho1
          exact ⟨a, ws, ha, List.mem_cons_self, g1, g2, g3⟩
        · have hj' : j ∈ lnsOf as := by
            rcases List.mem_cons.mp hj with z | z
            · exact absurd z hji
            · exact z
          have ea : avsOf (env.set i (.own l0 o1)) as = some avs' := by
            have gen : ∀ (as : List Ar), i ∉ lnsOf as → avsOf (env.set i (.own l0 o1)) as = avsOf env as := by
              intro as
              induction as with
              | nil => intro _; rfl
              | cons b as ih =>
                intro hn
                cases b with
                | fz d => simp only [avsOf]; rw [ih hn]
                | ln k =>
                  have hk : i ≠ k := fun z => hn (by rw [z]; exact List.mem_cons_self)
                  simp only [avsOf]
                  rw [List.getElem?_set_ne hk, ih fun z => hn (List.mem_cons_of_mem _ z)]
            rw [gen as nd'.1]
            exact e1
          have hs' : ∀ (k : Nat) (l : Bool) (ds : List PyData), (env.set i (.own l0 o1))[k]? = some (Sl.own l ds) → ∃ a : Addr, σ[k]? = some (some (V.ref a)) := by
            intro k l1 ds1 hk
            by_cases hik : i = k
            · subst hik
              exact ⟨a, ha⟩
            · rw [List.getElem?_set_ne hik] at hk
              exact hs k l1 ds1 hk
          obtain ⟨a', ws, g1, g2, g3⟩ := putOuts_at as vs avs' outs' _ tp ea nd'.2 ho2 hs' j l ds hj' h'
          exact ⟨a', ws, g1, List.mem_cons_of_mem _ g2, g3⟩
    · cases e
/-- the arguments as the callee takes them -/
theorem argsR_of (R : Rl K B F H env σ) : ∀ (as : List Ar) (vs : List V) (avs : List AV), Paired (fun v a => ArR K F σ v a) vs as → avsOf env as = some avs → ArgsR K F H vs avs ∧ (∀ a ∈ lentAs vs avs, ∃ i ∈ lnsOf as, σ[i]? = some (some (.ref a)) ∧ ownL env σ a)
  | [], _, avs, .nil, e => by
    simp only [avsOf] at e
    cases e
    exact ⟨.nil, fun a h => by cases h⟩
  | .fz d :: as, _, avs, .cons (a := v) (l₁ := vs) hp tp, e => by
    simp only [avsOf, Option.map_eq_some_iff] at e
    obtain ⟨avs', e1, rfl⟩ := e
    obtain ⟨h1, h2⟩ := argsR_of R as vs avs' tp e1
    have hl : lentAs (v :: vs) (.val d :: avs') = lentAs vs avs' := by cases v <;> rfl
    rw [hl]
    exact ⟨.val hp h1, h2⟩
  | .ln i :: as, _, avs, .cons (a := v) (l₁ := vs) hp tp, e => by
    simp only [avsOf] at e
    split at e
    · rename_i l0 ds0 e0
      simp only [Option.map_eq_some_iff] at e
      obtain ⟨avs', e1, rfl⟩ := e
      obtain ⟨h1, h2⟩ := argsR_of R as vs avs' tp e1
      have s := R.sl i
      rw [e0] at s
      obtain ⟨a, ws, g1, g2, g3, g4⟩ := s
      have hv : σ[i]? = some (some v) := hp
      rw [g1] at hv
      cases hv
      refine ⟨.own g2 g3 g4 h1, fun b hb => ?_⟩
      rcases List.mem_cons.mp hb with z | z
      · subst z
        exact ⟨i, List.mem_cons_self, g1, i, l0, ds0, e0, g1⟩
      · obtain ⟨k, h3, h4⟩ := h2 b z
        exact ⟨k, List.mem_cons_of_mem _ h3, h4⟩
    · cases e
theorem lent_nodup (R : Rl K B F H env σ) : ∀ (as : List Ar) (vs : List V) (avs : List AV), Paired (fun v a => ArR K F σ v a) vs as → avsOf env as = some avs → (lnsOf as).Nodup → (lentAs vs avs).Nodup
  | [], _, avs, .nil, e, _ => by
    simp only [avsOf] at e
    cases e
    exact List.Pairwise.nil
  | .fz d :: as, _, avs, .cons (a := v) (l₁ := vs) hp tp, e, nd => by
    simp only [avsOf, Option.map_eq_some_iff] at e
    obtain ⟨avs', e1, rfl⟩ := e
    have hl : lentAs (v :: vs) (.val d :: avs') = lentAs vs avs' := by cases v <;> rfl
    rw [hl]
    exact lent_nodup R as vs avs' tp e1 nd
  | .ln i :: as, _, avs, .cons (a := v) (l₁ := vs) hp tp, e, nd => by
    simp only [avsOf] at e
    split at e
    · rename_i l0 ds0 e0
      simp only [Option.map_eq_some_iff] at e
      obtain ⟨avs', e1, rfl⟩ := e
      have s := R.sl i
      rw [e0] at s
      obtain ⟨a, ws, g1, g2, g3, g4⟩ := s
      have hv : σ[i]? = some (some v) := hp
      rw [g1] at hv
      cases hv
      have nd' : i ∉ lnsOf as ∧ (lnsOf as).Nodup := List.nodup_cons.mp nd
      refine List.nodup_cons.mpr ⟨fun hm => ?_, lent_nodup R as vs avs' tp e1 nd'.2⟩
      obtain ⟨k, h1, h2, k', l', ds', h3, h4⟩ := (argsR_of R as vs avs' tp e1).2 a hm
      -- k is a lent slot of the rest with the same address
      have own_k : ∃ l ds, env[k]? = some (Sl.own l ds) := by
        clear nd nd' h2
        have gen : ∀ (as : List Ar) (avs : List AV), avsOf env as = some avs → k ∈ lnsOf as → ∃ l ds, env[k]? = some (Sl.own l ds) := by
          intro as
          induction as with
          | nil => intro _ _ h; cases h
          | cons b as ih =>
            intro avs e h
            cases b with
            | fz d =>
              simp only [avsOf, Option.map_eq_some_iff] at e
              obtain ⟨avs', e1, _⟩ := e
              exact ih avs' e1 h
            | ln m =>
              simp only [avsOf] at e
              split at e
              · rename_i l1 d1 e5
                simp only [Option.map_eq_some_iff] at e
                obtain ⟨avs', e1, _⟩ := e
                rcases List.mem_cons.mp h with z | z
                · subst z
                  exact ⟨l1, d1, e5⟩
                · exact ih avs' e1 z
              · cases e
        exact gen as avs' e1 h1
      obtain ⟨l2, ds2, e2⟩ := own_k
      have hik := R.dist i k l0 l2 ds0 ds2 a e0 e2 g1 h2
      subst hik
      exact nd'.1 h1
    · cases e
/-- behind the call -/
theorem rl_after (R : Rl K B F H env σ) {as : List Ar} {vs : List V} {avs : List AV} {outs : List (List PyData)} (hp : Paired (fun v a => ArR K F σ v a) vs as) (e : avsOf env as = some avs) (nd : (lnsOf as).Nodup) (a : Aft K F H (lentAs vs avs) F' H' outs) :
    Rl K B F' H' (putOuts env (lnsOf as) outs) σ ∧ Fm env σ F H (putOuts env (lnsOf as) outs) F' H' := by
  obtain ⟨h1, h2⟩ := argsR_of R as vs avs hp e
  have hs : ∀ (i : Nat) (l : Bool) (ds : List PyData), env[i]? = some (Sl.own l ds) → ∃ a : Addr, σ[i]? = some (some (V.ref a)) := fun i l ds h => by
    have s := R.sl i
    rw [h] at s
    obtain ⟨a, ws, g1, _⟩ := s
    exact ⟨a, g1⟩
  have lentOwn : ∀ b, b ∈ lentAs vs avs → ownL env σ b := fun b hb => by
    obtain ⟨i, _, _, h⟩ := h2 b hb
    exact h
  have lentH0 : ∀ b, b ∈ lentAs vs avs → B.H0 b = none ∨ ∃ p ∈ B.lent, p.2 = b := fun b hb => by
    obtain ⟨i, l, ds, g1, g2⟩ := lentOwn b hb
    cases l with
    | false => exact .inl (R.own0 i ds b g1 g2)
    | true => exact .inr (R.own1 i ds b g1 g2)
  -- an own slot that is not lent keeps its list
  refine ⟨⟨by rw [putOuts_len]; exact R.len, a.sub, fun j => ?_, fun i j l m ds es b h3 h4 h5 h6 => ?_, R.sub0.trans a.subF, fun b x h => ?_, fun b x h n => ?_, fun b h => a.dom b (R.dom b h), fun i ds b h3 h4 => ?_, fun i ds b h3 h4 => ?_, R.lsl, fun i j kv kw b h3 h4 h5 h6 => R.dd i j kv kw b (putOuts_dct _ _ _ _ _ h3) (putOuts_dct _ _ _ _ _ h4) h5 h6, fun i kv b h3 h4 => R.d0 i kv b (putOuts_dct _ _ _ _ _ h3) h4⟩,
    ⟨fun b x h n => a.keep b x h fun z => n (.inl (lentOwn b z)), a.subF, fun b x h => ?_, fun i l ds h => putOuts_own _ _ _ i l ds h, a.dom, fun i kv h => ⟨kv, putOuts_dct _ _ _ _ _ h⟩⟩⟩
  · cases q : (putOuts env (lnsOf as) outs)[j]? with
    | none => trivial
    | some z =>
      cases z with
      | un => trivial
      | val d =>
        have q' := putOuts_val _ _ _ j d q
        have s := R.sl j
        rw [q'] at s
        obtain ⟨v, g1, g2⟩ := s
        exact ⟨v, g1, Rp.mono a.subF _ _ g2⟩
      | own l ds =>
        by_cases hj : j ∈ lnsOf as
        · obtain ⟨b, ws, g1, _, g3, g4, g5⟩ := putOuts_at as vs avs outs env hp e nd a.outs hs j l ds hj q
          exact ⟨b, ws, g1, g3, g4, g5⟩
        · rw [putOuts_out _ _ _ _ hj] at q
          have s := R.sl j
          rw [q] at s
          obtain ⟨b, ws, g1, g2, g3, g4⟩ := s
          have nb : b ∉ lentAs vs avs := fun z => by
            obtain ⟨k, hk, gk, k', l', ds', ek, gk'⟩ := h2 b z
            have e1 := R.dist j k' l l' ds ds' b q ek g1 gk'
            -- k itself is own
            have ok : ∃ l ds, env[k]? = some (Sl.own l ds) := by
              have gen : ∀ (as : List Ar) (avs : List AV), avsOf env as = some avs → k ∈ lnsOf as → ∃ l ds, env[k]? = some (Sl.own l ds) := by
                intro as
                induction as with
                | nil => intro _ _ h; cases h
                | cons b as ih =>
                  intro avs e h
                  cases b with
                  | fz d =>
                    simp only [avsOf, Option.map_eq_some_iff] at e
                    obtain ⟨avs', e1, _⟩ := e
                    exact ih avs' e1 h
                  | ln m =>
                    simp only [avsOf] at e
                    split at e
                    · rename_i l1 d1 e5
                      simp only [Option.map_eq_some_iff] at e
                      obtain ⟨avs', e1, _⟩ := e
                      rcases List.mem_cons.mp h with z | z
                      · subst z
                        exact ⟨l1, d1, e5⟩
                      · exact ih avs' e1 z
                    · cases e
              exact gen as avs e hk
            obtain ⟨l2, ds2, e2⟩ := ok
            have e3 := R.dist j k l l2 ds ds2 b q e2 g1 gk
            exact hj (e3 ▸ hk)
          refine ⟨b, ws, g1, a.keep b _ g2 nb, ?_, RpAll.mono a.subF _ _ g4⟩
          cases z : F' b with
          | none => rfl
          | some x =>
            rcases a.new b x z with y | y | ⟨ys, rfl⟩
            · rw [g3] at y; cases y
            · rw [g2] at y; cases y
            · have y := a.sub b _ z
              rw [a.keep b _ g2 nb] at y; cases y
      | dct kv =>
        have q' := putOuts_dct _ _ _ j kv q
        have s := R.sl j
        rw [q'] at s
        obtain ⟨b, g1, g2, g3⟩ := s
        have nb : b ∉ lentAs vs avs := fun z => by
          obtain ⟨k', l', ds', ek, gk'⟩ := lentOwn b z
          have s2 := R.sl k'
          rw [ek] at s2
          obtain ⟨c, ws, w1, w2, _⟩ := s2
          rw [gk'] at w1
          cases w1
          rw [g2] at w2
          cases w2
        refine ⟨b, g1, a.keep b _ g2 nb, ?_⟩
        cases z : F' b with
        | none => rfl
        | some x =>
          rcases a.new b x z with y | y | ⟨ys, rfl⟩
          · rw [g3] at y; cases y
          · rw [g2] at y; cases y
          · have y := a.sub b _ z
            rw [a.keep b _ g2 nb] at y; cases y
  · obtain ⟨d1, h7⟩ := putOuts_own _ _ _ i l ds h3
    obtain ⟨d2, h8⟩ := putOuts_own _ _ _ j m es h4
    exact R.dist i j l m d1 d2 b h7 h8 h5 h6
  · rcases a.new b x h with z | z
    · exact R.new b x z
    · exact .inr (z.elim (fun z => .inl (R.free0 z)) .inr)
  · refine a.keep b x (R.frm b x h n) fun z => ?_
    rcases lentH0 b z with g | ⟨p, g1, g2⟩
    · rw [h] at g; cases g
    · exact n p g1 g2
  · obtain ⟨d1, h7⟩ := putOuts_own _ _ _ i false ds h3
    exact R.own0 i d1 b h7 h4
  · obtain ⟨d1, h7⟩ := putOuts_own _ _ _ i true ds h3
    exact R.own1 i d1 b h7 h4
  · rcases a.new b x h with z | z
    · exact .inl z
    · cases q : H b with
      | none => exact .inr (.inl (.inl q))
      | some y =>
        by_cases hb : b ∈ lentAs vs avs
        · obtain ⟨k', l', ds', ek, gk'⟩ := lentOwn b hb
          exact .inr (.inr (.inl ⟨k', l', ds', ek, gk'⟩))
        · rcases z with z | z
          · rw [q] at z; cases z
          · have y1 := a.sub b _ h
            rw [a.keep b _ q hb] at y1
            exact .inr (.inl (.inr ⟨q.trans y1, z⟩))
end

section
variable {B : Bs} {W : WX} {X : Cx} {k n : Nat} {x : Str} {S : Spc} {e : Expr} {es : List Expr} {wm : WM} {p pos : Pos}
/-- f(e, ..) -/
theorem de_call (C : Cal X.prog X.w X.K X.mg X.base k x n S) (hr : Room k X.A) (hB : B.mg = X.mg) (tk : L2N.Takes X W) (ha : DM B W X (e :: es) wm) (hg : Gl X x := by rfl) (hdb : (x == ("__debug__" : Str)) = false := by decide)
    (he : starEach (e :: es) X.env = (false, eval e X.env) :: starEach es X.env := by rfl) (hpl : (backTo pos (starEach es X.env)).any (·.1) = false := by rfl) : DE B W X (.Call (.Name x p) (e :: es) [] pos) (wCall n S wm) := by
  obtain ⟨f, fd, ps, hpn, hm, hk, hb, Fk⟩ := C
  refine ⟨fun pins s σ F H env Ke Kx I R h hx => ?_⟩
  refine wpAny_Call_Name_kw (ld_glob I hg hm ?_ hdb)
  refine PySem.W.callWith_K (h₀ := X.base) I.ok.mod.kin hk (thn (ha.run pos pins s σ F H env _ Kx I R h hx) fun us s1 ⟨vs, env1, as, F1, H1, I1, rv, R1, f1, q1, nd, avs, e1, hlen, hS⟩ => ⟨I1.kIn, ?_⟩) he hpl
  obtain ⟨g1, g2⟩ := argsR_of R1 as vs avs q1 e1
  refine thn (run_fnSD (E := fun σ cls d H' => W cls d σ H') (dvs := []) Fk hr hb .nil (fun pins H s e s' I hc => tk e s' (L2N.XE.of_call (W := W) I (fun cls d H' q => q) hc)) I1 rv (Q := fun v H' => ∃ outs r F', Rl X.K B F' H' (putOuts env1 (lnsOf as) outs) σ ∧ Fm env1 σ F1 H1 (putOuts env1 (lnsOf as) outs) F' H' ∧ RvR X.K H1 F' H' v r ∧ Ke (putOuts env1 (lnsOf as) outs) (rsOf r)) ?_) fun u s2 ⟨v, H', I', rv', outs, r, F', k1, k2, k3, k4⟩ => ?_
  · rw [List.append_nil]
    refine ⟨F1, avs, _, _, R1.sub, g1, lent_nodup R1 as vs avs q1 e1 nd, hlen, hS, fun outs r F' H' v a hv hk => ?_, fun outs y cls d F' H' a hy hk => ?_⟩
    · obtain ⟨r1, r2⟩ := rl_after R1 q1 e1 nd a
      exact ⟨outs, r, F', r1, r2, hv, hk⟩
    · obtain ⟨r1, r2⟩ := rl_after R1 q1 e1 nd a
      refine hx σ _ y cls d F' H' hk r1 ?_
      obtain ⟨z1, z2⟩ := hy
      refine ⟨by rw [hB]; exact z1, z2⟩
  · refine DP.up f1 ⟨v, _, rsOf r, F', H', I', rv', k1, k2, ?_, ?_, k4⟩
    · cases r with
      | val d => exact k3
      | own ds =>
        obtain ⟨p, ws, e3, e4, e5, e6, e7⟩ := k3
        refine ⟨p, ws, e3, e4, e5, R1.free0 e6, fun z => ?_, e7⟩
        have z : ownAt env1 σ p := by
          rcases z with ⟨i, l, ds', z1, z2⟩ | ⟨i, kv, z1, z2⟩
          · obtain ⟨d1, z3⟩ := putOuts_own _ _ _ i l ds' z1
            exact .inl ⟨i, l, d1, z3, z2⟩
          · exact .inr ⟨i, kv, putOuts_dct _ _ _ _ _ z1, z2⟩
        obtain ⟨ws', z4, _⟩ := R1.ownH z
        rw [e6] at z4
        cases z4
    · cases r with
      | val d => trivial
      | own ds =>
        obtain ⟨p, ws, e3, e4, e5, e6, e7⟩ := k3
        intro q hq
        rw [e3] at hq
        cases hq
        exact e6
end
end Dl
end L2

/-! The D layer, 7: statements. -/
namespace L2
namespace Dl
open PySem PySem.Spec PyProof.Rows

structure Ken where
  nx : Ev → Prop
  rt : Ev → Rs → Prop
  bk : Ev → Prop
  ct : Ev → Prop
  ex : KXc
abbrev WS := Ev → Ken → Prop
def SPD (X : Cx) (B : Bs) (pins : List (Addr × Obj)) (F0 : Hp) (k : Ken) (f : Flow) (s' : Shared) : Prop :=
  match f with
  | .next => ∃ σ env F H, Inv X pins σ H s' ∧ Rl X.K B F H env σ ∧ Same F0 F ∧ k.nx env
  | .brk => ∃ σ env F H, Inv X pins σ H s' ∧ Rl X.K B F H env σ ∧ Same F0 F ∧ k.bk env
  | .cont => ∃ σ env F H, Inv X pins σ H s' ∧ Rl X.K B F H env σ ∧ Same F0 F ∧ k.ct env
  | .ret u => ∃ v σ H, Inv X pins σ H s' ∧ RelV v u ∧ ∃ σ2 env r F, Rl X.K B F H env σ2 ∧ Res X.K B F H env σ2 v r ∧ k.rt env r
structure DS (B : Bs) (W : WX) (X : Cx) (st : Stmt) (w : WS) : Prop where
  run : ∀ (pins : List (Addr × Obj)) (s : Shared) (σ : St) (F H : Hp) (env : Ev) (k : Ken), Inv X pins σ H s → Rl X.K B F H env σ → w env k → XC X.K B W k.ex → wpAny (model X.prog X.w) X.A (exec st X.env) (SPD X B pins F k) X.xe s
structure DSs (B : Bs) (W : WX) (X : Cx) (st : List Stmt) (w : WS) : Prop where
  run : ∀ (pins : List (Addr × Obj)) (s : Shared) (σ : St) (F H : Hp) (env : Ev) (k : Ken), Inv X pins σ H s → Rl X.K B F H env σ → w env k → XC X.K B W k.ex → wpAny (model X.prog X.w) X.A (execs st X.env) (SPD X B pins F k) X.xe s

theorem SPD.up {X : Cx} {B : Bs} {pins : List (Addr × Obj)} {F0 F1 : Hp} {k : Ken} {f : Flow} {s' : Shared} (s : Same F0 F1) (h : SPD X B pins F1 k f s') : SPD X B pins F0 k f s' := by
  cases f with
  | next => obtain ⟨σ, env, F, H, h1, h2, h3, h4⟩ := h; exact ⟨σ, env, F, H, h1, h2, s.trans h3, h4⟩
  | brk => obtain ⟨σ, env, F, H, h1, h2, h3, h4⟩ := h; exact ⟨σ, env, F, H, h1, h2, s.trans h3, h4⟩
  | cont => obtain ⟨σ, env, F, H, h1, h2, h3, h4⟩ := h; exact ⟨σ, env, F, H, h1, h2, s.trans h3, h4⟩
  | ret u => exact h
def wNext : WS := fun env k => k.nx env
def wSeq (t u : WS) : WS := fun env k => t env { k with nx := fun e => u e k }
def wBreak : WS := fun env k => k.bk env
def wCont : WS := fun env k => k.ct env
def wDrop (w : WE) : WS := fun env k => w env (fun e _ => k.nx e) k.ex
def wRet (w : WE) : WS := fun env k => w env k.rt k.ex
def wRetN : WS := fun env k => k.rt env (.val .none)
def wIfS (c : WT) (t u : WS) : WS := fun env k => c env (fun e b => if b = true then t e k else u e k) k.ex
/-- a result comes to a name -/
def asg (i : Nat) (env : Ev) (r : Rs) (K : Ev → Prop) : Prop := match r with
  | .val d => K (env.set i (.val d))
  | .tmp ds => K (env.set i (.own false ds))
  | .slot j => ∃ p, fz env (.slot j) = some p ∧ K (p.1.set i (.val p.2))
def wSet (i : Nat) (w : WE) : WS := fun env k => w env (fun e r => asg i e r k.nx) k.ex

section
variable {K : PySem.W.Frag} {B : Bs} {F H : Hp} {env : Ev} {σ : St}
/-- a slot takes another value -/
theorem Rl.put (R : Rl K B F H env σ) {i : Nat} {v : V} {s : Sl} (hi : i < σ.length) (nl : ∀ p ∈ B.all, p.1 ≠ i) (hs : slR K F H (some s) (some (some v)))
    (ho : ∀ l ds, s = .own l ds → l = false ∧ ∀ a, v = .ref a → ¬ ownAt env σ a ∧ B.H0 a = none) (hd : ∀ kv, s = .dct kv → ∀ a, v = .ref a → ¬ ownAt env σ a ∧ B.H0 a = none := by intro kv e; cases e) : Rl K B F H (env.set i s) (σ.set i (some v)) := by
  have ie : i < env.length := by rw [R.len]; exact hi
  have old : ∀ {j : Nat} {l : Bool} {ds : List PyData} {a : Addr}, i ≠ j → (env.set i s)[j]? = some (Sl.own l ds) → (σ.set i (some v))[j]? = some (some (V.ref a)) → env[j]? = some (Sl.own l ds) ∧ σ[j]? = some (some (V.ref a)) := fun hj h1 h2 => by
    rw [List.getElem?_set_ne hj] at h1 h2
    exact ⟨h1, h2⟩
  have new : ∀ {l : Bool} {ds : List PyData} {a : Addr}, (env.set i s)[i]? = some (Sl.own l ds) → (σ.set i (some v))[i]? = some (some (V.ref a)) → l = false ∧ ¬ ownAt env σ a ∧ B.H0 a = none := fun {l ds a} h1 h2 => by
    rw [List.getElem?_set_self ie] at h1
    rw [List.getElem?_set_self hi] at h2
    cases h1
    cases h2
    obtain ⟨g1, g2⟩ := ho _ _ rfl
    exact ⟨g1, g2 _ rfl⟩
  have oldd : ∀ {j : Nat} {kv : List (List Int × PyData)} {a : Addr}, i ≠ j → (env.set i s)[j]? = some (Sl.dct kv) → (σ.set i (some v))[j]? = some (some (V.ref a)) → env[j]? = some (Sl.dct kv) ∧ σ[j]? = some (some (V.ref a)) := fun hj h1 h2 => by
    rw [List.getElem?_set_ne hj] at h1 h2
    exact ⟨h1, h2⟩
  have newd : ∀ {kv : List (List Int × PyData)} {a : Addr}, (env.set i s)[i]? = some (Sl.dct kv) → (σ.set i (some v))[i]? = some (some (V.ref a)) → ¬ ownAt env σ a ∧ B.H0 a = none := fun {kv a} h1 h2 => by
    rw [List.getElem?_set_self ie] at h1
    rw [List.getElem?_set_self hi] at h2
    cases h1
    cases h2
    exact hd _ rfl _ rfl
  refine ⟨by rw [List.length_set, List.length_set]; exact R.len, R.sub, fun j => ?_, fun j k l m ds es a h1 h2 h3 h4 => ?_, R.sub0, R.new, R.frm, R.dom, fun j ds a h1 h2 => ?_, fun j ds a h1 h2 => ?_, fun p hp => ?_, fun j k kv kw a h1 h2 h3 h4 => ?_, fun j kv a h1 h2 => ?_⟩
  · by_cases hj : i = j
    · subst hj
      rw [List.getElem?_set_self ie, List.getElem?_set_self hi]
      exact hs
    · rw [List.getElem?_set_ne hj, List.getElem?_set_ne hj]
      exact R.sl j
  · by_cases hj : i = j
    · by_cases hk : i = k
      · exact hj.symm.trans hk
      · subst hj
        obtain ⟨_, n, _⟩ := new h1 h3
        obtain ⟨g1, g2⟩ := old hk h2 h4
        exact absurd (.inl ⟨k, m, es, g1, g2⟩) n
    · by_cases hk : i = k
      · subst hk
        obtain ⟨_, n, _⟩ := new h2 h4
        obtain ⟨g1, g2⟩ := old hj h1 h3
        exact absurd (.inl ⟨j, l, ds, g1, g2⟩) n
      · obtain ⟨g1, g2⟩ := old hj h1 h3
        obtain ⟨g3, g4⟩ := old hk h2 h4
        exact R.dist j k l m ds es a g1 g3 g2 g4
  · by_cases hj : i = j
    · subst hj
      exact (new h1 h2).2.2
    · obtain ⟨g1, g2⟩ := old hj h1 h2
      exact R.own0 j ds a g1 g2
  · by_cases hj : i = j
    · subst hj
      cases (new h1 h2).1
    · obtain ⟨g1, g2⟩ := old hj h1 h2
      exact R.own1 j ds a g1 g2
  · rw [List.getElem?_set_ne (Ne.symm (nl p hp))]
    exact R.lsl p hp
  · by_cases hj : i = j
    · by_cases hk : i = k
      · exact hj.symm.trans hk
      · subst hj
        obtain ⟨n, _⟩ := newd h1 h3
        obtain ⟨g1, g2⟩ := oldd hk h2 h4
        exact absurd (.inr ⟨k, kw, g1, g2⟩) n
    · by_cases hk : i = k
      · subst hk
        obtain ⟨n, _⟩ := newd h2 h4
        obtain ⟨g1, g2⟩ := oldd hj h1 h3
        exact absurd (.inr ⟨j, kv, g1, g2⟩) n
      · obtain ⟨g1, g2⟩ := oldd hj h1 h3
        obtain ⟨g3, g4⟩ := oldd hk h2 h4
        exact R.dd j k kv kw a g1 g3 g2 g4
  · by_cases hj : i = j
    · subst hj
      exact (newd h1 h2).2
    · obtain ⟨g1, g2⟩ := oldd hj h1 h2
      exact R.d0 j kv a g1 g2
theorem Rl.putVal (R : Rl K B F H env σ) {i : Nat} {v : V} {d : PyData} (hi : i < σ.length) (nl : ∀ p ∈ B.all, p.1 ≠ i) (r : Rp K F v d) : Rl K B F H (env.set i (.val d)) (σ.set i (some v)) :=
  R.put hi nl ⟨v, rfl, r⟩ fun l ds e => by cases e
theorem asg_ok {i : Nat} {v : V} {r : Rs} {Kn : Ev → Prop} (R : Rl K B F H env σ) (hi : i < σ.length) (nl : ∀ p ∈ B.all, p.1 ≠ i) (q : Res K B F H env σ v r) (h : asg i env r Kn) : ∃ env' F', Rl K B F' H env' (σ.set i (some v)) ∧ Same F F' ∧ Kn env' := by
  cases r with
  | val d => exact ⟨_, F, R.putVal hi nl q, Same.refl _, h⟩
  | tmp ds =>
    obtain ⟨p, vs, rfl, h2, h3, h4, h5, h6⟩ := q
    refine ⟨env.set i (.own false ds), F, R.put hi nl ⟨p, vs, rfl, h2, h3, h6⟩ fun l es e => ?_, Same.refl _, h⟩
    cases e
    exact ⟨rfl, fun a e => by cases e; exact ⟨h5, h4⟩⟩
  | slot j =>
    obtain ⟨p, e, h⟩ := h
    obtain ⟨F2, R2, f2, rp⟩ := freeze (env2 := p.1) (d := p.2) (H := H) R Fm.refl q trivial e
    exact ⟨_, F2, R2.putVal hi nl rp, f2.sub, h⟩
end

section
variable {B : Bs} {W : WX} {X : Cx} {st : Stmt} {rest : List Stmt} {t u : WS} {e : Expr} {w : WE} {pos : Pos}
theorem dss_nil : DSs B W X [] wNext := ⟨fun _ _ σ F H env _ I R h _ => wpAny_execs_nil ⟨σ, env, F, H, I, R, Same.refl _, h⟩⟩
theorem dss_cons (h1 : DS B W X st t) (h2 : DSs B W X rest u) : DSs B W X (st :: rest) (wSeq t u) := by
  refine ⟨fun pins s σ F H env k I R h hx => ?_⟩
  refine wpAny_execs_cons (thn (h1.run pins s σ F H env { k with nx := fun e => u e k } I R h hx) fun f s1 q => ?_)
  cases f with
  | next =>
    obtain ⟨σ', env', F', H', I', R', sm, q⟩ := q
    exact thn (h2.run pins s1 σ' F' H' env' k I' R' q hx) fun f s2 h => h.up sm
  | ret v => exact q
  | brk => exact q
  | cont => exact q
theorem dss_one (h1 : DS B W X st t) : DSs B W X [st] t := by
  refine ⟨fun pins s σ F H env k I R h hx => ?_⟩
  refine wpAny_execs_cons (thn (h1.run pins s σ F H env k I R h hx) fun f s1 q => ?_)
  cases f with
  | next => exact wpAny_execs_nil q
  | ret v => exact q
  | brk => exact q
  | cont => exact q
theorem ds_expr (he : DE B W X e w) (hs : swapsWith e none pos.line X.env = pure false := by rfl) : DS B W X (.Expr e pos) (wDrop w) := by
  refine ⟨fun pins s σ F H env k I R h hx => ?_⟩
  exact wpAny_Expr_any (thn (he.run pins s σ F H env _ k.ex I R h hx) fun v s1 ⟨x, env1, r, F1, H1, I1, r1, R1, f1, q1, n1, k1⟩ => ⟨σ, env1, F1, H1, I1, R1, f1.sub, k1⟩) I.quiet hs
theorem ds_ret (he : DE B W X e w) : DS B W X (.Return (some e) pos) (wRet w) := by
  refine ⟨fun pins s σ F H env k I R h hx => ?_⟩
  exact wpAny_Return_some (thn (he.run pins s σ F H env _ k.ex I R h hx) fun v s1 ⟨x, env1, r, F1, H1, I1, r1, R1, f1, q1, n1, k1⟩ => ⟨x, σ, H1, I1, r1, σ, env1, r, F1, R1, q1, k1⟩)
theorem ds_if {c : Expr} {a b : List Stmt} {tc : WT} (hc : DT B W X c tc) (ha : DSs B W X a t) (hb : DSs B W X b u) : DS B W X (.If c a b pos) (wIfS tc t u) := by
  refine ⟨fun pins s σ F H env k I R h hx => ?_⟩
  refine wpAny_If (thn (hc.run pins s σ F H env _ k.ex I R h hx) fun d s1 ⟨env1, F1, H1, I1, R1, f1, q1⟩ => ?_)
  cases d with
  | true => exact thn (ha.run pins s1 σ F1 H1 env1 k I1 R1 (by simpa using q1) hx) fun f s2 h => h.up f1.sub
  | false => exact thn (hb.run pins s1 σ F1 H1 env1 k I1 R1 (by simpa using q1) hx) fun f s2 h => h.up f1.sub
theorem ds_set (i : Nat) {x : Str} {pos' : Pos} (he : DE B W X e w) (nl : ∀ p ∈ B.all, p.1 ≠ i) (hN : X.N.Nodup) (hi : X.N[i]? = some x := by rfl) (hx : Loc X.env.scope x := by first | exact Or.inl rfl | exact Or.inr rfl) (hs : swapsWith e (some (.Name x pos')) pos.line X.env = pure false := by rfl)
    (hf : X.fn x = true ∨ X.env.scope.names.lookup x = some .local := by first | exact .inl rfl | exact .inr rfl) : DS B W X (.Assign [.Name x pos'] e pos) (wSet i w) := by
  refine ⟨fun pins s σ F H env k I R h hxx => ?_⟩
  refine wpAny_Assign_Name (thn (he.run pins s σ F H env _ k.ex I R h hxx) fun v s1 ⟨y, env1, r, F1, H1, I1, r1, R1, f1, q1, n1, k1⟩ => ?_) hs
  have il : i < σ.length := by rw [I.len]; exact (List.getElem?_eq_some_iff.mp hi).1
  obtain ⟨env2, F2, R2, sm, k2⟩ := asg_ok R1 il nl q1 k1
  exact store_ok I1 hN hi hx r1 (fun s2 I2 => ⟨_, env2, F2, H1, I2, R2, f1.sub.trans sm, k2⟩) hf

/-! ### targets -/
abbrev WG := PyData → Ev → (Ev → Prop) → Prop
abbrev WGs := List PyData → Ev → (Ev → Prop) → Prop
/-- only the slots at is differ -/
def Agree (is : List Nat) (σ σ' : St) : Prop := σ'.length = σ.length ∧ ∀ j, j ∉ is → σ'[j]? = σ[j]?
def OwnSub (env env' : Ev) : Prop := (∀ (i : Nat) (l : Bool) (ds : List PyData), env'[i]? = some (Sl.own l ds) → env[i]? = some (Sl.own l ds)) ∧ ∀ (i : Nat) (kv : List (List Int × PyData)), env'[i]? = some (Sl.dct kv) → env[i]? = some (Sl.dct kv)
structure DG (B : Bs) (X : Cx) (tg : Expr) (is : List Nat) (g : WG) : Prop where
  run : ∀ (pins : List (Addr × Obj)) (s : Shared) (σ : St) (F H : Hp) (env : Ev) (v : V) (u : Value) (d : PyData) (Kn : Ev → Prop), Inv X pins σ H s → RelV v u → Rl X.K B F H env σ → Rp X.K F v d → g d env Kn →
    wpAny (model X.prog X.w) X.A (assign tg X.env u) (fun _ s' => ∃ σ' env', Inv X pins σ' H s' ∧ Rl X.K B F H env' σ' ∧ Agree is σ σ' ∧ OwnSub env env' ∧ Kn env') X.xe s
structure DGs (B : Bs) (X : Cx) (ts : List Expr) (is : List Nat) (g : WGs) : Prop where
  run : ∀ (pins : List (Addr × Obj)) (s : Shared) (σ : St) (F H : Hp) (env : Ev) (vs : List V) (us : List Value) (ds : List PyData) (Kn : Ev → Prop), Inv X pins σ H s → Vals vs us → Rl X.K B F H env σ → RpAll X.K F vs ds → g ds env Kn →
    wpAny (model X.prog X.w) X.A (assignInOrder ((assignEach ts X.env).map (·.2)) us) (fun _ s' => ∃ σ' env', Inv X pins σ' H s' ∧ Rl X.K B F H env' σ' ∧ Agree is σ σ' ∧ OwnSub env env' ∧ Kn env') X.xe s
def gN (i : Nat) : WG := fun d env Kn => Kn (env.set i (.val d))
def gNil' : WGs := fun ds env Kn => ds = [] ∧ Kn env
def gCons' (g : WG) (gs : WGs) : WGs := fun ds env Kn => match ds with
  | d :: r => g d env fun env' => gs r env' Kn
  | [] => False
def gT (n : Nat) (gs : WGs) : WG := fun d env Kn => match d with
  | .tuple ds => ds.length = n ∧ gs ds env Kn
  | _ => False
theorem dg_name (i : Nat) {x : Str} (nl : ∀ p ∈ B.all, p.1 ≠ i) (hN : X.N.Nodup) (hi : X.N[i]? = some x := by rfl) (hx : Loc X.env.scope x := by first | exact Or.inl rfl | exact Or.inr rfl)
    (hf : X.fn x = true ∨ X.env.scope.names.lookup x = some .local := by first | exact .inl rfl | exact .inr rfl) : DG B X (.Name x pos) [i] (gN i) := by
  refine ⟨fun pins s σ F H env v u d Kn I r R rp h => ?_⟩
  have il : i < σ.length := by rw [I.len]; exact (List.getElem?_eq_some_iff.mp hi).1
  exact wpAny_assign_Name (store_ok I hN hi hx r (fun s' I' => ⟨_, _, I', R.putVal il nl rp, ⟨by rw [List.length_set], fun j hj => by rw [List.getElem?_set_ne (fun z => hj (by rw [z]; exact List.mem_cons_self))]⟩, ⟨fun j l es hq => own_set_val hq, fun j kv hq => dct_set_val hq⟩, h⟩) hf)
theorem dgs_nil : DGs B X [] [] gNil' := by
  refine ⟨fun pins s σ F H env vs us ds Kn I r R rp h => ?_⟩
  obtain ⟨e, h⟩ := h
  subst e
  cases rp
  cases r
  exact assignInOrder_nil ⟨σ, env, I, R, ⟨rfl, fun _ _ => rfl⟩, ⟨fun _ _ _ hq => hq, fun _ _ hq => hq⟩, h⟩
theorem dgs_cons {es : List Expr} {is is' : List Nat} {g : WG} {gs : WGs} (h1 : DG B X e is g) (h2 : DGs B X es is' gs) (hs : (assignEach (e :: es) X.env).map (·.2) = assign e X.env :: (assignEach es X.env).map (·.2) := by rfl) : DGs B X (e :: es) (is ++ is') (gCons' g gs) := by
  refine ⟨fun pins s σ F H env vs us ds Kn I r R rp h => ?_⟩
  cases ds with
  | nil => exact h.elim
  | cons d ds =>
    cases rp with
    | cons rp1 rp2 =>
      cases r with
      | cons r rr =>
        rw [hs]
        refine assignInOrder_cons (thn (h1.run pins s σ F H env _ _ d _ I r R rp1 h) fun _ s1 ⟨σ1, env1, I1, R1, a1, o1, q1⟩ => ?_)
        exact thn (h2.run pins s1 σ1 F H env1 _ _ ds Kn I1 rr R1 rp2 q1) fun _ s2 ⟨σ2, env2, I2, R2, a2, o2, q2⟩ => ⟨σ2, env2, I2, R2, ⟨a2.1.trans a1.1, fun j hj => (a2.2 j fun z => hj (List.mem_append_right _ z)).trans (a1.2 j fun z => hj (List.mem_append_left _ z))⟩, ⟨fun i l es hq => o1.1 i l es (o2.1 i l es hq), fun i kv hq => o1.2 i kv (o2.2 i kv hq)⟩, q2⟩
theorem dg_tup {es : List Expr} {is : List Nat} {k : Nat} {gs : WGs} {n : Nat} (hc : X.calm = true) (h : DGs B X es is gs) (hn : (assignEach es X.env).length = n := by rfl) (hst : (assignEach es X.env).findIdx? (·.1) = none := by rfl) : DG B X (.Tuple es k pos) is (gT n gs) := by
  refine ⟨fun pins s σ F H env v u d Kn I r R rp hw => ?_⟩
  unfold gT at hw
  split at hw
  · rename_i ds
    cases rp with
    | tup h1 h2 =>
      replace h1 := SqT.of (K := X.K) h1
      cases r
      have h1' := sqT_same R.sub h1
      obtain ⟨its, rv, ht, hz⟩ := I.tuple h1'
      have e1 := h2.length
      have e2 := rv.length
      refine assign_Tuple_tuple (I.ok.hd hc) ht (by rw [hn, List.size_toArray]; omega) hst fun h' hx => ?_
      have I1 : Inv X pins σ H { s with heap := h' } := I.kept (t' := s.toks) fun b o e => hx b o (Nat.ne_of_lt (Heap.lt_size e)) e
      exact h.run pins _ σ F H env _ _ ds Kn I1 (by simpa using rv) R h2 hw.2
  · exact hw.elim
/-- target = value, the value frozen -/
def wAsgT (w : WE) (g : WG) : WS := fun env k => wFz w env (fun e d => g d e k.nx) k.ex
theorem ds_asgT {tg : Expr} {is : List Nat} {g : WG} (he : DE B W X e w) (hg : DG B X tg is g) (hs : swapsWithSole [tg] e pos.line X.env = pure false := by rfl) (hw : swappedStores [tg] e X.env = pure none := by rfl)
    (h1 : (assignEach [tg] X.env).map (·.2) = [assign tg X.env] := by rfl) : DS B W X (.Assign [tg] e pos) (wAsgT w g) := by
  refine ⟨fun pins s σ F H env k I R h hx => ?_⟩
  refine wpAny_Assign_stores (thn (he.run pins s σ F H env _ k.ex I R h hx) fun v s1 ⟨x, env1, r, F1, H1, I1, r1, R1, f1, q1, n1, p, e1, k1⟩ => ?_) hs hw
  obtain ⟨F2, R2, f2, rp⟩ := freeze (env2 := p.1) (d := p.2) R1 f1 q1 n1 e1
  rw [h1]
  exact thn (hg.run pins s1 σ F2 H1 p.1 x v p.2 _ I1 r1 R2 rp k1) fun _ s2 ⟨σ', env', I', R', _, _, q'⟩ => ⟨σ', env', F2, H1, I', R', f2.sub, q'⟩
/-- a, b = x, y with local names -/
def wPar (i j : Nat) (wf : WF) : WS := fun env k => wf env (fun e ds => match ds with
  | [d1, d2] => k.nx ((e.set i (.val d1)).set j (.val d2))
  | _ => False) k.ex
theorem ds_par (i j : Nat) {x y : Str} {a b : Expr} {wf : WF} {px py pt : Pos} {kt k2 : Nat} {pt2 : Pos} (ha : DF B W X [a, b] wf) (nli : ∀ p ∈ B.all, p.1 ≠ i) (nlj : ∀ p ∈ B.all, p.1 ≠ j) (hN : X.N.Nodup) (hc : X.calm = true := by rfl) (hi : X.N[i]? = some x := by rfl) (hj : X.N[j]? = some y := by rfl) (hij : i ≠ j := by decide)
    (hx : X.env.scope.names.lookup x = some .local := by rfl) (hy : X.env.scope.names.lookup y = some .local := by rfl)
    (hw : swappedStores [.Tuple [.Name x px, .Name y py] kt pt] (.Tuple [a, b] k2 pt2) X.env = pure (some [x, y]) := by rfl)
    (hs : swapsWithSole [.Tuple [.Name x px, .Name y py] kt pt] (.Tuple [a, b] k2 pt2) pos.line X.env = pure false := by rfl) :
    DS B W X (.Assign [.Tuple [.Name x px, .Name y py] kt pt] (.Tuple [a, b] k2 pt2) pos) (wPar i j wf) := by
  refine ⟨fun pins s σ F H env k I R h hxx => ?_⟩
  have pa : PA X [a, b] (fun σ' H' Q => σ' = σ ∧ H' = H ∧ ∀ vs env' ds F' H', Rl X.K B F' H' env' σ → Same F F' → RpAll X.K F' vs ds → (match ds with
    | [d1, d2] => k.nx ((env'.set i (.val d1)).set j (.val d2))
    | _ => False) → Q vs H') := by
    refine ⟨fun pos pins s σ' H' Q I' ⟨e1, e2, q⟩ => ?_⟩
    subst e1 e2
    exact thn (ha.run pos pins s _ F _ env _ k.ex I' R h hxx) fun us s1 ⟨vs, env', ds, F', H', I1, rv, R1, f1, q1, k1⟩ => ⟨vs, H', I1, rv, q vs env' ds F' H' R1 f1.sub q1 k1⟩
  refine thn ((ps_par hc hN hi hj hij hx hy pa hw hs).run pins s σ H { nx := fun σ' H' => ∃ env' F', Rl X.K B F' H' env' σ' ∧ Same F F' ∧ k.nx env', rt := fun _ _ => False } I ⟨rfl, rfl, fun vs env' ds F' H' R' sm rp hk => ?_⟩) fun f s1 q => ?_
  · match ds, rp, hk with
    | [d1, d2], .cons (v := v1) r1 (.cons (v := v2) r2 .nil), hk =>
      have il : i < σ.length := by rw [I.len]; exact (List.getElem?_eq_some_iff.mp hi).1
      have jl : j < σ.length := by rw [I.len]; exact (List.getElem?_eq_some_iff.mp hj).1
      exact ⟨v1, v2, rfl, _, F', (R'.putVal il nli r1).putVal (by simpa using jl) nlj r2, sm, hk⟩
  · cases f with
    | next =>
      obtain ⟨σ', H', I', env', F', R', sm, q'⟩ := q
      exact ⟨σ', env', F', H', I', R', sm, q'⟩
    | brk => obtain ⟨_, _, _, q⟩ := q; exact q.elim
    | cont => obtain ⟨_, _, _, q⟩ := q; exact q.elim
    | ret u => obtain ⟨_, _, _, _, _, q⟩ := q; exact q.elim
end

/-! ### while -/
section
variable {B : Bs} {W : WX} {X : Cx} {pos : Pos}
def wWhile (c : WT) (t : WS) : WS := fun env k => ∃ Wi : Nat → Ev → Prop, (∃ m, Wi m env) ∧ ∀ m e, Wi m e → c e (fun e1 b => if b = true then t e1 { k with nx := fun e2 => ∃ m', m' < m ∧ Wi m' e2, ct := fun e2 => ∃ m', m' < m ∧ Wi m' e2, bk := k.nx } else k.nx e1) k.ex
theorem ds_while {c : Expr} {body : List Stmt} {tc : WT} {tb : WS} (hp : PassesOwn (model X.prog X.w) X.A X.env X.xe) (hc : DT B W X c tc) (hb : DSs B W X body tb) : DS B W X (.While c body [] pos) (wWhile tc tb) := by
  refine ⟨fun pins s σ F H env k I R h hx => ?_⟩
  obtain ⟨Wi, ⟨m0, w0⟩, turn⟩ := h
  refine wpAny_While (codeAny_whileLoop (fun n s' => ∃ σ' env' F' H', Inv X pins σ' H' s' ∧ Rl X.K B F' H' env' σ' ∧ Same F F' ∧ Wi n env') ?_ m0 ⟨σ, env, F, H, I, R, Same.refl _, w0⟩)
  rintro n s1 ⟨σ1, env1, F1, H1, I1, R1, sm1, w1⟩
  refine wpAny_passesOwn hp (thn (hc.run pins s1 σ1 F1 H1 env1 _ k.ex I1 R1 (turn n env1 w1) hx) fun b s2 ⟨env2, F2, H2, I2, R2, f2, q2⟩ => ?_)
  cases b with
  | true =>
    rw [if_pos rfl] at q2 ⊢
    refine wpAny_passesOwn hp (thn (hb.run pins s2 σ1 F2 H2 env2 _ I2 R2 q2 hx) fun f s3 q3 => ?_)
    cases f with
    | next =>
      obtain ⟨σ3, env3, F3, H3, I3, R3, sm3, m', hm, w3⟩ := q3
      exact ⟨m', hm, σ3, env3, F3, H3, I3, R3, (sm1.trans f2.sub).trans sm3, w3⟩
    | cont =>
      obtain ⟨σ3, env3, F3, H3, I3, R3, sm3, m', hm, w3⟩ := q3
      exact ⟨m', hm, σ3, env3, F3, H3, I3, R3, (sm1.trans f2.sub).trans sm3, w3⟩
    | brk => exact SPD.up (f := .next) (sm1.trans f2.sub) q3
    | ret v => exact q3
  | false =>
    rw [if_neg Bool.false_ne_true] at q2 ⊢
    exact wpAny_execs_nil ⟨σ1, env2, F2, H2, I2, R2, sm1.trans f2.sub, q2⟩
end
end Dl
end L2

/-! The D layer, 8: lists that are changed. -/
namespace L2
namespace Dl
open PySem PySem.Spec PyProof.Rows

section
variable {K : PySem.W.Frag} {B : Bs} {F H : Hp} {env : Ev} {σ : St}
/-- an own list is written -/
theorem Rl.mut (R : Rl K B F H env σ) {i : Nat} {l : Bool} {ds ds' : List PyData} {a : Addr} {vs' : List V} (e : env[i]? = some (Sl.own l ds)) (ha : σ[i]? = some (some (V.ref a))) (r : RpAll K F vs' ds') :
    Rl K B F (upd H a (.lst vs')) (env.set i (.own l ds')) σ ∧ Fm env σ F H (env.set i (.own l ds')) F (upd H a (.lst vs')) := by
  have s := R.sl i
  rw [e] at s
  obtain ⟨b, vs, h1, h2, h3, h4⟩ := s
  rw [ha] at h1
  cases h1
  have il : i < env.length := (List.getElem?_eq_some_iff.mp e).1
  have ow : ∀ {j : Nat} {m : Bool} {es : List PyData}, (env.set i (.own l ds'))[j]? = some (Sl.own m es) → ∃ es', env[j]? = some (Sl.own m es') := fun {j m es} h => by
    by_cases hj : i = j
    · subst hj
      rw [List.getElem?_set_self il] at h
      cases h
      exact ⟨ds, e⟩
    · rw [List.getElem?_set_ne hj] at h
      exact ⟨es, h⟩
  have od : ∀ {j : Nat} {kv : List (List Int × PyData)}, (env.set i (.own l ds'))[j]? = some (Sl.dct kv) → env[j]? = some (Sl.dct kv) := fun {j kv} h => by
    by_cases hj : i = j
    · subst hj
      rw [List.getElem?_set_self il] at h
      cases h
    · rw [List.getElem?_set_ne hj] at h
      exact h
  have own_a : ownAt env σ a := .inl ⟨i, l, ds, e, ha⟩
  refine ⟨⟨by rw [List.length_set]; exact R.len, fun b x q => ?_, fun j => ?_, fun j k m n es fs b h5 h6 h7 h8 => ?_, R.sub0, R.new, fun b x q n => ?_, fun b q => ?_, fun j es b h5 h6 => ?_, fun j es b h5 h6 => ?_, R.lsl, fun j k kv kw b h5 h6 h7 h8 => R.dd j k kv kw b (od h5) (od h6) h7 h8, fun j kv b h5 h6 => R.d0 j kv b (od h5) h6⟩, ⟨fun b x q n => ?_, fun _ _ q => q, fun _ _ q => .inl q, fun j m es h => ow h, fun b q => ?_, fun j kv h => ⟨kv, od h⟩⟩⟩
  · rw [upd_ne]
    · exact R.sub b x q
    · rintro rfl
      rw [h3] at q
      cases q
  · by_cases hj : i = j
    · subst hj
      rw [List.getElem?_set_self il]
      exact ⟨a, vs', ha, upd_same, h3, r⟩
    · rw [List.getElem?_set_ne hj]
      have s := R.sl j
      cases q : env[j]? with
      | none => trivial
      | some z =>
        rw [q] at s
        cases z with
        | un => trivial
        | val d => exact s
        | own m es =>
          obtain ⟨c, ws, g1, g2, g3, g4⟩ := s
          refine ⟨c, ws, g1, ?_, g3, g4⟩
          rw [upd_ne]
          · exact g2
          · rintro rfl
            exact hj (R.dist i j l m ds es c e q ha g1)
        | dct kv =>
          obtain ⟨c, g1, g2, g3⟩ := s
          refine ⟨c, g1, ?_, g3⟩
          rw [upd_ne]
          · exact g2
          · rintro rfl
            rw [h2] at g2
            cases g2
  · obtain ⟨es', h9⟩ := ow h5
    obtain ⟨fs', h10⟩ := ow h6
    exact R.dist j k m n es' fs' b h9 h10 h7 h8
  · rw [upd_ne]
    · exact R.frm b x q n
    · rintro rfl
      cases l with
      | false => rw [R.own0 i ds b e ha] at q; cases q
      | true =>
        obtain ⟨p, g1, g2⟩ := R.own1 i ds b e ha
        exact n p g1 g2
  · by_cases hb : b = a
    · subst hb
      rw [upd_same]
      simp
    · rw [upd_ne hb]
      exact R.dom b q
  · obtain ⟨es', h9⟩ := ow h5
    exact R.own0 j es' b h9 h6
  · obtain ⟨es', h9⟩ := ow h5
    exact R.own1 j es' b h9 h6
  · rw [upd_ne]
    · exact q
    · rintro rfl
      exact n own_a
  · by_cases hb : b = a
    · subst hb
      rw [upd_same]
      simp
    · rw [upd_ne hb]
      exact q
theorem Rl.ownSl (R : Rl K B F H env σ) {i : Nat} {l : Bool} {ds : List PyData} (e : env[i]? = some (Sl.own l ds)) : ∃ a vs, σ[i]? = some (some (V.ref a)) ∧ H a = some (.lst vs) ∧ F a = none ∧ RpAll K F vs ds := by
  have s := R.sl i
  rw [e] at s
  exact s
end

/-- a method of an own list with one argument, frozen -/
abbrev Mu := List PyData → PyData → (List PyData → PyData → Prop) → Prop
def isOwn (env : Ev) (i : Nat) : Prop := ∃ l ds, env[i]? = some (Sl.own l ds)
def wOwnF (i : Nat) (w : WE) (μ : Mu) : WE := fun env Ke Kx => isOwn env i ∧ wFz w env (fun env1 d => ∃ l ds, env1[i]? = some (Sl.own l ds) ∧ μ ds d (fun ds' d' => Ke (env1.set i (.own l ds')) (.val d'))) Kx
def wOwn0 (i : Nat) (μ : List PyData → (List PyData → PyData → Prop) → Prop) : WE := fun env Ke Kx => ∃ l ds, env[i]? = some (Sl.own l ds) ∧ μ ds (fun ds' d' => Ke (env.set i (.own l ds')) (.val d'))
section
variable {B : Bs} {W : WX} {X : Cx} {x name : Str} {e : Expr} {w : WE} {p apos cpos : Pos} {id : String} {r : V → List V → Hp → VK → Prop} {μ : Mu} {μ0 : List PyData → (List PyData → PyData → Prop) → Prop}
theorem de_ownF (i : Nat) (slot : Slot "list" name id) (hty : typeOf (.builtin id) = pure (.type "method_descriptor")) (hm : MtR X id r) (ha : DE B W X e w) (hmono : ∀ (x : V) (xs : List V) (H : Hp) (Q Q' : VK), (∀ y H', Q y H' → Q' y H') → r x xs H Q → r x xs H Q')
    (hr : ∀ (F H : Hp) (a : Addr) (vs : List V) (ds : List PyData) (v : V) (d : PyData) (Kn : List PyData → PyData → Prop), H a = some (.lst vs) → RpAll X.K F vs ds → Rp X.K F v d → μ ds d Kn → r (.ref a) [v] H (fun y H' => ∃ vs' ds' d', H' = upd H a (.lst vs') ∧ RpAll X.K F vs' ds' ∧ Rp X.K F y d' ∧ Kn ds' d'))
    (hN : X.N[i]? = some x := by rfl) (hv : Vis X.env.scope x := by first | exact Or.inl rfl | exact Or.inr (Or.inl rfl) | exact Or.inr (Or.inr rfl)) (hd : (x == ("__debug__" : Str)) = false := by decide) (hcd : (x == ("__classdict__" : Str)) = false := by decide)
    (hbase : attributeBase (.Name x p) name X.env (eval (.Name x p) X.env) = eval (.Name x p) X.env := by rfl)
    (hfew : ((backTo cpos (starEach [e] X.env)).all (fun x => !x.1) && (backToKw cpos (keywordEach [] X.env)).all (fun x => x.1.isSome)
      && decide ([e].length + ([] : List Keyword).length + (if ([] : List Keyword).isEmpty then 0 else 1) < 30)) = true := by rfl)
    (hline : (apos.endLine == cpos.line) = true := by rfl) (hs : starEach [e] X.env = (false, eval e X.env) :: starEach [] X.env := by rfl) (hplain : (backTo cpos (starEach [] X.env)).any (·.1) = false := by rfl) :
    DE B W X (.Call (.Attribute (.Name x p) name apos) [e] [] cpos) (wOwnF i w μ) := by
  refine ⟨fun pins s σ F H env Ke Kx I R h hx => ?_⟩
  obtain ⟨⟨l, ds, e0⟩, h⟩ := h
  obtain ⟨a, vs, g1, g2, g3, g4⟩ := R.ownSl e0
  have pe := pe_bm (cpos := cpos) (apos := apos) PySem.F.plainAttrs_list slot hty hm (pe_var (pos := p) hN hv hd hcd) (pa_cons ha.pe pa_nil hs) hbase hfew hline hs hplain
  refine thn (pe.run pins s σ H (fun v H' => ∃ env' d F', Rl X.K B F' H' env' σ ∧ Fm env σ F H env' F' H' ∧ Rp X.K F' v d ∧ Ke env' (.val d)) I ?_) fun u s1 ⟨v, H', I', rv, env', d, F', h1, h2, h3, h4⟩ => ⟨v, env', .val d, F', H', I', rv, h1, h2, h3, trivial, h4⟩
  refine ⟨.ref a, g1, Or.inl ⟨rfl, vs, SqL.of g2⟩, F, env, _, Kx, R, h, hx, fun v env' r1 F' H' R1 f1 q1 n1 ⟨q, e1, l1, ds1, e2, k⟩ => ?_⟩
  obtain ⟨F2, R2, f2, rp⟩ := freeze (env2 := q.1) (d := q.2) R1 f1 q1 n1 e1
  obtain ⟨a', vs1, k1, k2, k3, k4⟩ := R2.ownSl e2
  rw [g1] at k1
  cases k1
  have hQ := hr F2 H' a vs1 ds1 v q.2 _ k2 k4 rp k
  exact hmono _ _ _ _ _ (fun y H'' ⟨vs', ds', d', z1, z2, z3, z4⟩ => by
    subst z1
    obtain ⟨R3, f3⟩ := R2.mut e2 g1 z2
    exact ⟨_, d', F2, R3, f2.trans f3, z3, z4⟩) hQ
end

def muApp : Mu := fun ds d K => ds.length < sizeLine ∧ K (ds ++ [d]) .none
section
variable {X : Cx}
theorem rAppend_mono (x : V) (xs : List V) (H : Hp) (Q Q' : VK) (h : ∀ y H', Q y H' → Q' y H') : rAppend x xs H Q → rAppend x xs H Q' := fun ⟨l, vs, y, h1, h2, h3, h4, q⟩ => ⟨l, vs, y, h1, h2, h3, h4, h _ _ q⟩
theorem hr_app (F H : Hp) (a : Addr) (vs : List V) (ds : List PyData) (v : V) (d : PyData) (Kn : List PyData → PyData → Prop) (h1 : H a = some (.lst vs)) (h2 : RpAll X.K F vs ds) (h3 : Rp X.K F v d) (h : muApp ds d Kn) :
    rAppend (.ref a) [v] H (fun y H' => ∃ vs' ds' d', H' = upd H a (.lst vs') ∧ RpAll X.K F vs' ds' ∧ Rp X.K F y d' ∧ Kn ds' d') :=
  ⟨a, vs, v, rfl, rfl, h1, by rw [h2.length]; exact h.1, _, _, _, rfl, h2.append (.cons h3 .nil), .non, h.2⟩
variable {B : Bs} {W : WX} {x : Str} {e : Expr} {w : WE} {p apos cpos : Pos}
theorem de_append (i : Nat) (ha : DE B W X e w) (hN : X.N[i]? = some x := by rfl) (hv : Vis X.env.scope x := by first | exact Or.inl rfl | exact Or.inr (Or.inl rfl) | exact Or.inr (Or.inr rfl)) (hd : (x == ("__debug__" : Str)) = false := by decide) (hcd : (x == ("__classdict__" : Str)) = false := by decide)
    (hbase : attributeBase (.Name x p) "append" X.env (eval (.Name x p) X.env) = eval (.Name x p) X.env := by rfl)
    (hfew : ((backTo cpos (starEach [e] X.env)).all (fun x => !x.1) && (backToKw cpos (keywordEach [] X.env)).all (fun x => x.1.isSome)
      && decide ([e].length + ([] : List Keyword).length + (if ([] : List Keyword).isEmpty then 0 else 1) < 30)) = true := by rfl)
    (hline : (apos.endLine == cpos.line) = true := by rfl) (hs : starEach [e] X.env = (false, eval e X.env) :: starEach [] X.env := by rfl) (hplain : (backTo cpos (starEach [] X.env)).any (·.1) = false := by rfl) :
    DE B W X (.Call (.Attribute (.Name x p) "append" apos) [e] [] cpos) (wOwnF i w muApp) :=
  de_ownF i PySem.F.slot_list_append PySem.F.type_list_append mt_append ha rAppend_mono hr_app hN hv hd hcd hbase hfew hline hs hplain
/-! extend: by a new list, or by another own one -/
def wExtend (i : Nat) (w : WE) : WE := fun env Ke Kx => isOwn env i ∧ w env (fun env1 r => ∃ l ds es, env1[i]? = some (Sl.own l ds) ∧ (r = .tmp es ∨ ∃ j, j ≠ i ∧ r = .slot j ∧ ∃ m, env1[j]? = some (Sl.own m es)) ∧ ds.length + es.length ≤ sizeLine ∧ Ke (env1.set i (.own l (ds ++ es))) (.val .none)) Kx
theorem de_extend (i : Nat) (ha : DE B W X e w) (hN : X.N[i]? = some x := by rfl) (hv : Vis X.env.scope x := by first | exact Or.inl rfl | exact Or.inr (Or.inl rfl) | exact Or.inr (Or.inr rfl)) (hd : (x == ("__debug__" : Str)) = false := by decide) (hcd : (x == ("__classdict__" : Str)) = false := by decide)
    (hbase : attributeBase (.Name x p) "extend" X.env (eval (.Name x p) X.env) = eval (.Name x p) X.env := by rfl)
    (hfew : ((backTo cpos (starEach [e] X.env)).all (fun x => !x.1) && (backToKw cpos (keywordEach [] X.env)).all (fun x => x.1.isSome)
      && decide ([e].length + ([] : List Keyword).length + (if ([] : List Keyword).isEmpty then 0 else 1) < 30)) = true := by rfl)
    (hline : (apos.endLine == cpos.line) = true := by rfl) (hs : starEach [e] X.env = (false, eval e X.env) :: starEach [] X.env := by rfl) (hplain : (backTo cpos (starEach [] X.env)).any (·.1) = false := by rfl) :
    DE B W X (.Call (.Attribute (.Name x p) "extend" apos) [e] [] cpos) (wExtend i w) := by
  refine ⟨fun pins s σ F H env Ke Kx I R h hx => ?_⟩
  obtain ⟨⟨l, ds, e0⟩, h⟩ := h
  obtain ⟨a, vs, g1, g2, g3, g4⟩ := R.ownSl e0
  have pe := pe_bm (cpos := cpos) (apos := apos) PySem.F.plainAttrs_list PySem.F.slot_list_extend PySem.F.type_list_extend mt_extend (pe_var (pos := p) hN hv hd hcd) (pa_cons ha.pe pa_nil hs) hbase hfew hline hs hplain
  refine thn (pe.run pins s σ H (fun v H' => ∃ env' d F', Rl X.K B F' H' env' σ ∧ Fm env σ F H env' F' H' ∧ Rp X.K F' v d ∧ Ke env' (.val d)) I ?_) fun u s1 ⟨v, H', I', rv, env', d, F', h1, h2, h3, h4⟩ => ⟨v, env', .val d, F', H', I', rv, h1, h2, h3, trivial, h4⟩
  refine ⟨.ref a, g1, Or.inl ⟨rfl, vs, SqL.of g2⟩, F, env, _, Kx, R, h, hx, fun v env1 r1 F1 H1 R1 f1 q1 n1 ⟨l1, ds1, es, e2, hr, hz, k⟩ => ?_⟩
  obtain ⟨a', vs1, k1, k2, k3, k4⟩ := R1.ownSl e2
  rw [g1] at k1
  cases k1
  have other : ∃ b ws, v = .ref b ∧ H1 b = some (.lst ws) ∧ RpAll X.K F1 ws es := by
    rcases hr with rfl | ⟨j, hj, rfl, m, ej⟩
    · obtain ⟨p, ws, z1, z2, z3, z4, z5, z6⟩ := q1
      exact ⟨p, ws, z1, z2, z6⟩
    · obtain ⟨b, ws, z1, z2, z3, z4⟩ := R1.ownSl ej
      have q' : σ[j]? = some (some v) := q1
      rw [z1] at q'
      cases q'
      exact ⟨b, ws, rfl, z2, z4⟩
  obtain ⟨b, ws, rfl, z1, z2⟩ := other
  obtain ⟨R3, f3⟩ := R1.mut e2 g1 (k4.append z2)
  exact ⟨a, b, vs1, ws, rfl, rfl, k2, z1, by rw [k4.length, z2.length]; exact hz, _, .none, F1, R3, f1.trans f3, .non, k⟩
end

/-! ### x[i] = e, x op= e -/
section
variable {B : Bs} {W : WX} {X : Cx} {x : Str} {a e : Expr} {wi w : WE} {p pos spos : Pos}
def wSetIx (i : Nat) (wi w : WE) : WS := fun env k => wFz w env (fun env1 d => isOwn env1 i ∧ wi env1 (fun env2 r => ∃ j l ds n, r = .val (.int j) ∧ env2[i]? = some (Sl.own l ds) ∧ ixN ds.length j = some n ∧ k.nx (env2.set i (.own l (ds.set n d)))) k.ex) k.ex
theorem ds_setIx (i : Nat) (he : DE B W X e w) (hi : DE B W X a wi) (hN : X.N[i]? = some x := by rfl) (hv : Vis X.env.scope x := by first | exact Or.inl rfl | exact Or.inr (Or.inl rfl) | exact Or.inr (Or.inr rfl)) (hd : (x == ("__debug__" : Str)) = false := by decide) (hcd : (x == ("__classdict__" : Str)) = false := by decide)
    (ha : ∀ v, assign (.Subscript (.Name x p) a spos) X.env v = (do
      let ov ← holding [v] (eval (.Name x p) X.env)
      let iv ← holding [v, ov] (eval a X.env)
      standAt spos
      holding [v, ov, iv] (setItem ov iv v)
      release [v, ov, iv] []) := by intro _; rfl)
    (hs : swapsWithSole [.Subscript (.Name x p) a spos] e pos.line X.env = pure false := by rfl) (hw : swappedStores [.Subscript (.Name x p) a spos] e X.env = pure none := by rfl)
    (h1 : (assignEach [.Subscript (.Name x p) a spos] X.env).map (·.2) = [assign (.Subscript (.Name x p) a spos) X.env] := by rfl) : DS B W X (.Assign [.Subscript (.Name x p) a spos] e pos) (wSetIx i wi w) := by
  refine ⟨fun pins s σ F H env k I R h hx => ?_⟩
  refine wpAny_Assign_stores (thn (he.run pins s σ F H env _ k.ex I R h hx) fun v s1 ⟨y, env1, r, F1, H1, I1, r1, R1, f1, q1, n1, pr, e1, ⟨l0, ds0, e0⟩, k1⟩ => ?_) hs hw
  obtain ⟨F2, R2, f2, rp⟩ := freeze (env2 := pr.1) (d := pr.2) R1 f1 q1 n1 e1
  obtain ⟨ad, vs, g1, g2, g3, g4⟩ := R2.ownSl e0
  rw [h1]
  have pg := pg_sub (pe_var (pos := p) hN hv hd hcd) hi.pe (set_list (X := X)) ha
  refine thn (pg.run pins s1 σ H1 y v (fun σ' H' => σ' = σ ∧ ∃ env' F', Rl X.K B F' H' env' σ ∧ Same F F' ∧ k.nx env') I1 r1 ?_) fun _ s2 ⟨σ', H', I', e2, env', F', h2, sm, h3⟩ => by
    subst e2
    exact ⟨σ', env', F', H', I', h2, sm, h3⟩
  refine ⟨.ref ad, g1, F2, pr.1, _, k.ex, R2, k1, hx, fun v' env2 r2 F3 H3 R3 f3 q3 n3 ⟨j, l, ds, n, e3, e4, e5, k2⟩ => ?_⟩
  subst e3
  cases (show Rp X.K F3 v' (.int j) from q3)
  obtain ⟨ad', vs3, m1, m2, m3, m4⟩ := R3.ownSl e4
  rw [g1] at m1
  cases m1
  obtain ⟨R4, f4⟩ := R3.mut e4 g1 (m4.set n (Rp.mono f3.sub _ _ rp))
  exact ⟨ad, vs3, j, n, rfl, rfl, m2, by rw [m4.length]; exact e5, rfl, _, F3, R4, f2.sub.trans f3.sub, k2⟩
/-- x += e, x -= e of ints -/
def wAug (i : Nat) (f : Int → Int → Int) (w : WE) : WS := fun env k => ∃ n, env[i]? = some (Sl.val (.int n)) ∧ w env (fun env1 r => ∃ m, r = .val (.int m) ∧ k.nx (env1.set i (.val (.int (f n m))))) k.ex
theorem ds_aug (i : Nat) {op : Operator} {f : Int → Int → Int} {pos' : Pos} (ho : PIp X op (ipI f)) (he : DE B W X e w) (nl : ∀ p ∈ B.all, p.1 ≠ i) (hN : X.N.Nodup) (hi : X.N[i]? = some x := by rfl) (hx : Loc X.env.scope x := by first | exact Or.inl rfl | exact Or.inr rfl)
    (hf : X.fn x = true ∨ X.env.scope.names.lookup x = some .local := by first | exact .inl rfl | exact .inr rfl) : DS B W X (.AugAssign (.Name x pos') op e pos) (wAug i f w) := by
  refine ⟨fun pins s σ F H env k I R ⟨n, e0, h⟩ hxx => ?_⟩
  have sl := R.sl i
  rw [e0] at sl
  obtain ⟨v0, g1, g2⟩ := sl
  cases g2
  refine thn ((ps_aug hN hi hx he.pe ho hf).run pins s σ H { nx := fun σ' H' => ∃ env' F', Rl X.K B F' H' env' σ' ∧ Same F F' ∧ k.nx env', rt := fun _ _ => False } I ⟨.int n, g1, F, env, _, k.ex, R, h, hxx, fun v env1 r F1 H1 R1 f1 q1 n1 ⟨m, e1, k1⟩ => ?_⟩) fun fl s1 q => ?_
  · subst e1
    cases (show Rp X.K F1 v (.int m) from q1)
    have il : i < σ.length := by rw [I.len]; exact (List.getElem?_eq_some_iff.mp hi).1
    exact ⟨n, m, rfl, rfl, _, F1, R1.putVal il nl (.int _), f1.sub, k1⟩
  · cases fl with
    | next =>
      obtain ⟨σ', H', I', env', F', R', sm, q'⟩ := q
      exact ⟨σ', env', F', H', I', R', sm, q'⟩
    | brk => obtain ⟨_, _, _, q⟩ := q; exact q.elim
    | cont => obtain ⟨_, _, _, q⟩ := q; exact q.elim
    | ret u => obtain ⟨_, _, _, _, _, q⟩ := q; exact q.elim
end
end Dl
end L2

/-! The D layer, 9: what is walked; for; list comprehensions. -/
namespace L2
namespace Dl
open PySem PySem.Spec PyProof.Rows

/-- while F0 stands, it gives the items ds -/
def GoodIt (K : PySem.W.Frag) (B : Bs) (J : It) (F0 : Hp) (ds : List PyData) : Prop :=
  ∀ (F H : Hp) (env : Ev) (σ : St) (i : Nat), Rl K B F H env σ → Same F0 F →
    (i < ds.length → J.go i H ∧ ∀ x H', J.yld i H x H' → ∃ F' d, Rl K B F' H' env σ ∧ Fm env σ F H env F' H' ∧ ds[i]? = some d ∧ Rp K F' x d) ∧ (ds.length ≤ i → J.stop i H)
abbrev WI := Ev → (Ev → List PyData → Prop) → KXc → Prop
structure DI (B : Bs) (W : WX) (X : Cx) (tg iter : Expr) (w : WI) : Prop where
  pi : PI X tg iter (fun σ H R => ∃ F env Ki Kx, Rl X.K B F H env σ ∧ w env Ki Kx ∧ XC X.K B W Kx ∧ ∀ J env' F' H' ds, Rl X.K B F' H' env' σ → Fm env σ F H env' F' H' → GoodIt X.K B J F' ds → Ki env' ds → R J H')
/-- a list, a tuple or a text, frozen, walked -/
def itemsOf : PyData → Option (List PyData)
  | .list ds => some ds
  | .tuple ds => some ds
  | .str z => some (z.cps.toList.map fun c => .str ⟨#[c]⟩)
  | _ => none
def wISeq (w : WE) : WI := fun env Ki Kx => wFz w env (fun e d => ∃ ds, itemsOf d = some ds ∧ Ki e ds) Kx
def wIRng1 (w : WE) : WI := fun env Ki Kx => w env (fun e r => ∃ j, r = .val (.int j) ∧ -(2 ^ 62) ≤ j ∧ j < 2 ^ 62 ∧ Ki e ((List.range j.toNat).map fun (i : Nat) => PyData.int (i : Int))) Kx
def wIRng2 (wa wb : WE) : WI := fun env Ki Kx => wa env (fun e1 r1 => wb e1 (fun e2 r2 => ∃ i j, r1 = .val (.int i) ∧ r2 = .val (.int j) ∧ (-(2 ^ 62) ≤ i ∧ i < 2 ^ 62 ∧ -(2 ^ 62) ≤ j ∧ j < 2 ^ 62) ∧ Ki e2 ((List.range (j - i).toNat).map fun (m : Nat) => PyData.int (i + m))) Kx) Kx
section
variable {B : Bs} {W : WX} {X : Cx} {tg e a b : Expr} {w wa wb : WE} {pos p : Pos}
theorem good_list {K : PySem.W.Frag} {F0 : Hp} {ad : Addr} {xs : List V} {ds : List PyData} (h1 : SqL K F0 ad xs) (h2 : RpAll K F0 xs ds) : GoodIt K B (Itl K ad) F0 ds := by
  intro F H env σ i R s
  have q : SqL K H ad xs := (s.trans R.sub).seq h1
  have hl := h2.length
  refine ⟨fun hi => ⟨⟨xs, xs[i]'(by omega), q, by simp [show i < xs.length by omega]⟩, fun x H' ⟨e, y⟩ => ?_⟩, fun hi => ⟨xs, q, by omega⟩⟩
  subst e
  obtain ⟨d, e1, rp⟩ := h2.get2 (y xs q)
  exact ⟨F, d, R, Fm.refl, e1, Rp.mono s _ _ rp⟩
theorem good_tup {K : PySem.W.Frag} {F0 : Hp} {ad : Addr} {xs : List V} {ds : List PyData} (h1 : SqT K F0 ad xs) (h2 : RpAll K F0 xs ds) : GoodIt K B (Itt K ad) F0 ds := by
  intro F H env σ i R s
  have q : SqT K H ad xs := sqT_same (s.trans R.sub) h1
  have hl := h2.length
  refine ⟨fun hi => ⟨⟨xs, xs[i]'(by omega), q, by simp [show i < xs.length by omega]⟩, fun x H' ⟨e, y⟩ => ?_⟩, fun hi => ⟨xs, q, by omega⟩⟩
  subst e
  obtain ⟨d, e1, rp⟩ := h2.get2 (y xs q)
  exact ⟨F, d, R, Fm.refl, e1, Rp.mono s _ _ rp⟩
theorem good_rng {K : PySem.W.Frag} {F0 : Hp} {lo : Int} {n : Nat} : GoodIt K B (Itr lo n) F0 ((List.range n).map fun (m : Nat) => PyData.int (lo + m)) := by
  intro F H env σ i R s
  refine ⟨fun hi => ?_, fun hi => ?_⟩
  · rw [List.length_map, List.length_range] at hi
    refine ⟨hi, fun x H' ⟨e, y⟩ => ?_⟩
    subst e y
    exact ⟨F, _, R, Fm.refl, by rw [List.getElem?_map, List.getElem?_range hi]; rfl, .int _⟩
  · rw [List.length_map, List.length_range] at hi
    exact hi
theorem good_str {K : PySem.W.Frag} {F0 : Hp} {z : Str} : GoodIt K B (Its z) F0 (z.cps.toList.map fun c => PyData.str ⟨#[c]⟩) := by
  intro F H env σ i R s
  have wk := walk_str (z := z)
  refine ⟨fun hi => ?_, fun hi => ?_⟩
  · have hi' : i < z.cps.size := by simpa using hi
    refine ⟨wk.goes i H hi' trivial, fun x H' y => ?_⟩
    obtain ⟨e, c, e1, e2⟩ := wk.yields i H x H' hi' trivial y
    subst e e2
    exact ⟨F, _, R, Fm.refl, by rw [List.getElem?_map, Array.getElem?_toList, e1]; rfl, .str _⟩
  · have hi' : z.cps.size ≤ i := by simpa using hi
    have st : ∀ j, z.cps.size ≤ j → (Its z).stop j H := fun j hj => hj
    exact st i hi'
/-- a sequence -/
theorem di_seq (he : DE B W X e w) : DI B W X tg e (wISeq w) := by
  refine ⟨⟨fun pins s σ H R I ⟨F, env, Ki, Kx, R0, hw, hx, q⟩ => ?_⟩⟩
  refine thn (he.run pins s σ F H env _ Kx I R0 hw hx) fun v s1 ⟨x, env1, r1, F1, H1, I1, rx, R1, f1, q1, n1, pr, e1, ds, e2, k⟩ => ?_
  obtain ⟨F2, R2, f2, rp⟩ := freeze (env2 := pr.1) (d := pr.2) R1 f1 q1 n1 e1
  generalize hd : pr.2 = d at rp e2
  cases rp with
  | non => cases e2
  | bl b => cases e2
  | int i => cases e2
  | dct h => cases e2
  | str z =>
    cases e2
    obtain ⟨t, rfl⟩ := rx
    cases ha : z.cps.all (· < 128)
    · exact wpAny_pyIter_wide ha (pi_one (tk := s1.toks) I1 _ (turn_str _ z t "str_iterator" (.inr rfl)) ⟨_, Heap.get?_push_size _ rfl, rfl, rfl⟩ (q _ pr.1 F2 H1 _ R2 f2 good_str k))
    · exact wpAny_pyIter_ascii ha (pi_one (tk := s1.toks) I1 _ (turn_str _ z t "str_ascii_iterator" (.inl rfl)) ⟨_, Heap.get?_push_size _ rfl, rfl, rfl⟩ (q _ pr.1 F2 H1 _ R2 f2 good_str k))
  | lst h1 h2 =>
    cases e2
    cases rx
    obtain ⟨its, rv, pl, hz⟩ := I1.list (R2.sub.seq h1)
    refine wpAny_pyIter_list pl.isList ?_
    refine ⟨s1.heap.objs.size, [s1.heap.objs.size], _, _, H1, rfl, I1.kept (t' := s1.toks) fun b o e => Heap.get?_push_of_some _ e, turn_list _ _, ⟨_, Heap.get?_push_size _ rfl, rfl, rfl⟩, fun b hb => ?_, q _ pr.1 F2 H1 _ R2 f2 (good_list h1 h2) k⟩
    have e : b = s1.heap.objs.size := by simpa using hb
    subst e
    exact I1.fpOk (Nat.le_refl _) (I1.hok.fresh (Nat.le_refl _))
  | tup h1 h2 =>
    replace h1 := SqT.of (K := X.K) h1
    cases e2
    cases rx
    obtain ⟨its, rv, pl, hz⟩ := I1.tuple (sqT_same R2.sub h1)
    refine wpAny_pyIter_tuple (show s1.heap.IsTuple _ its.toArray from pl) ?_
    refine ⟨s1.heap.objs.size, [s1.heap.objs.size], _, _, H1, rfl, I1.kept (t' := s1.toks) fun b o e => Heap.get?_push_of_some _ e, turn_tuple _ _, ⟨_, Heap.get?_push_size _ rfl, rfl, rfl⟩, fun b hb => ?_, q _ pr.1 F2 H1 _ R2 f2 (good_tup h1 h2) k⟩
    have e : b = s1.heap.objs.size := by simpa using hb
    subst e
    exact I1.fpOk (Nat.le_refl _) (I1.hok.fresh (Nat.le_refl _))
theorem di_rng1 (he : DE B W X e w) (hg : Gl X "range") (hm : X.mg "range" = none) (hs : starEach [e] X.env = [(false, eval e X.env)] := by rfl) : DI B W X tg (.Call (.Name "range" p) [e] [] pos) (wIRng1 w) := by
  refine ⟨⟨fun pins s σ H R I ⟨F, env, Ki, Kx, R0, hw, hx, q⟩ => ?_⟩⟩
  refine (pi_range1 (p := p) (pos := pos) hg hm (pa_cons he.pe pa_nil hs) hs).run pins s σ H R I ⟨F, env, _, Kx, R0, hw, hx, fun v env1 r F1 H1 R1 f1 q1 n1 ⟨j, e1, h1, h2, k⟩ => ?_⟩
  subst e1
  cases (show Rp X.K F1 v (.int j) from q1)
  have g := good_rng (B := B) (K := X.K) (F0 := F1) (lo := 0) (n := j.toNat)
  simp only [Int.zero_add] at g
  exact ⟨j, rfl, h1, h2, q _ env1 F1 H1 _ R1 f1 g k⟩
theorem di_rng2 (ha : DE B W X a wa) (hb : DE B W X b wb) (hg : Gl X "range") (hm : X.mg "range" = none) (hs : starEach [a, b] X.env = [(false, eval a X.env), (false, eval b X.env)] := by rfl) (hs2 : starEach [b] X.env = [(false, eval b X.env)] := by rfl) (hs1 : starEach [a, b] X.env = (false, eval a X.env) :: starEach [b] X.env := by rfl) (hs3 : starEach [b] X.env = (false, eval b X.env) :: starEach [] X.env := by rfl) :
    DI B W X tg (.Call (.Name "range" p) [a, b] [] pos) (wIRng2 wa wb) := by
  refine ⟨⟨fun pins s σ H R I ⟨F, env, Ki, Kx, R0, hw, hx, q⟩ => ?_⟩⟩
  refine (pi_range2 (p := p) (pos := pos) hg hm (pa_cons ha.pe (pa_cons hb.pe pa_nil hs3) hs1) hs hs2).run pins s σ H R I ⟨F, env, _, Kx, R0, hw, hx, fun v env1 r F1 H1 R1 f1 q1 n1 k1 => ⟨F1, env1, _, Kx, R1, k1, hx, fun v2 env2 r2 F2 H2 R2 f2 q2 n2 ⟨i, j, e1, e2, hb, k⟩ => ?_⟩⟩
  subst e1 e2
  cases (show Rp X.K F1 v (.int i) from q1)
  cases (show Rp X.K F2 v2 (.int j) from q2)
  exact ⟨i, j, rfl, hb, q _ env2 F2 H2 _ R2 (f1.trans f2) good_rng k⟩
end

/-! ### for -/
def wEach (g : WG) (t : WS) : List PyData → Ev → Ken → Prop
  | [], env, k => k.nx env
  | d :: r, env, k => g d env (fun e1 => t e1 { k with nx := fun e2 => wEach g t r e2 k, ct := fun e2 => wEach g t r e2 k, bk := k.nx })
def wFor (wi : WI) (g : WG) (t : WS) : WS := fun env k => wi env (fun e1 ds => wEach g t ds e1 k) k.ex
section
variable {B : Bs} {W : WX} {X : Cx} {pos : Pos}
theorem DG.pg {tg : Expr} {is : List Nat} {g : WG} (h : DG B X tg is g) : PG X tg (fun v σ H Q => ∃ F env d Kn, Rl X.K B F H env σ ∧ Rp X.K F v d ∧ g d env Kn ∧ ∀ σ' env', Rl X.K B F H env' σ' → Agree is σ σ' → OwnSub env env' → Kn env' → Q σ' H) := by
  refine ⟨fun pins s σ H v u Q I r ⟨F, env, d, Kn, R, rp, hg, q⟩ => ?_⟩
  exact thn (h.run pins s σ F H env v u d Kn I r R rp hg) fun _ s1 ⟨σ', env', I', R', a', o', k'⟩ => ⟨σ', H, I', q σ' env' R' a' o' k'⟩
theorem DSs.pss {sts : List Stmt} {w : WS} (h : DSs B W X sts w) : PSs X sts (fun D σ H => ∃ F env k, Rl X.K B F H env σ ∧ w env k ∧ XC X.K B W k.ex ∧ (∀ σ' env' F' H', Rl X.K B F' H' env' σ' → Same F F' → k.nx env' → D.nx σ' H') ∧
    (∀ v σ' env' r F' H', Rl X.K B F' H' env' σ' → Res X.K B F' H' env' σ' v r → k.rt env' r → D.rt v H') ∧ (∀ σ' env' F' H', Rl X.K B F' H' env' σ' → Same F F' → k.bk env' → D.bk σ' H') ∧ ∀ σ' env' F' H', Rl X.K B F' H' env' σ' → Same F F' → k.ct env' → D.ct σ' H') := by
  refine ⟨fun pins s σ H D I ⟨F, env, k, R, hw, hx, q1, q2, q3, q4⟩ => ?_⟩
  refine thn (h.run pins s σ F H env k I R hw hx) fun f s1 q => ?_
  cases f with
  | next => obtain ⟨σ', env', F', H', I', R', sm, k'⟩ := q; exact ⟨σ', H', I', q1 _ _ _ _ R' sm k'⟩
  | brk => obtain ⟨σ', env', F', H', I', R', sm, k'⟩ := q; exact ⟨σ', H', I', q3 _ _ _ _ R' sm k'⟩
  | cont => obtain ⟨σ', env', F', H', I', R', sm, k'⟩ := q; exact ⟨σ', H', I', q4 _ _ _ _ R' sm k'⟩
  | ret u => obtain ⟨v, σ', H', I', rv, σ2, env', r, F', R', res, k'⟩ := q; exact ⟨v, σ', H', I', rv, q2 _ _ _ _ _ _ R' res k'⟩
abbrev endsD (K : PySem.W.Frag) (B : Bs) (F0 : Hp) (k : Ken) : Ends := { nx := fun σ H => ∃ env F, Rl K B F H env σ ∧ Same F0 F ∧ k.nx env, rt := fun v H => ∃ σ env r F, Rl K B F H env σ ∧ Res K B F H env σ v r ∧ k.rt env r, bk := fun σ H => ∃ env F, Rl K B F H env σ ∧ Same F0 F ∧ k.bk env, ct := fun σ H => ∃ env F, Rl K B F H env σ ∧ Same F0 F ∧ k.ct env }
theorem SP.spd {pins : List (Addr × Obj)} {k : Ken} {f : Flow} {s' : Shared} {F0 : Hp} (h : SP X pins (endsD X.K B F0 k) f s') : SPD X B pins F0 k f s' := by
  cases f with
  | next => obtain ⟨σ', H', I', env', F', R', sm, k'⟩ := h; exact ⟨σ', env', F', H', I', R', sm, k'⟩
  | brk => obtain ⟨σ', H', I', env', F', R', sm, k'⟩ := h; exact ⟨σ', env', F', H', I', R', sm, k'⟩
  | cont => obtain ⟨σ', H', I', env', F', R', sm, k'⟩ := h; exact ⟨σ', env', F', H', I', R', sm, k'⟩
  | ret u => obtain ⟨v, σ', H', I', rv, σ2, env', r, F', R', res, k'⟩ := h; exact ⟨v, σ', H', I', rv, σ2, env', r, F', R', res, k'⟩
theorem ds_for {tg iter : Expr} {is : List Nat} {body : List Stmt} {wi : WI} {g : WG} {t : WS} (hp : PassesOwn (model X.prog X.w) X.A X.env X.xe) (hi : DI B W X tg iter wi) (hg : DG B X tg is g) (hb : DSs B W X body t) (hc : X.calm = true := by rfl)
    (hs : ∀ x, foldedSetIterable iter X.env x = pure x := by intro _; rfl) : DS B W X (.For tg iter body [] pos) (wFor wi g t) := by
  refine ⟨fun pins s σ F H env k I R h hx => ?_⟩
  refine thn ((ps_for hp hc hi.pi hg.pg hb.pss hs).run pins s σ H (endsD X.K B F k) I ⟨F, env, _, k.ex, R, h, hx, fun J env1 F1 H1 ds R1 f1 good k1 => ?_⟩) fun f s1 q => SP.spd q
  refine ⟨fun i m σ' H' => m = ds.length - i ∧ i ≤ ds.length ∧ ∃ F' env', Rl X.K B F' H' env' σ' ∧ Same F1 F' ∧ wEach g t (ds.drop i) env' k, ⟨ds.length, by simp, Nat.zero_le _, F1, env1, R1, fun _ _ h => h, k1⟩, ?_⟩
  rintro i m σ' H' ⟨rfl, hi', F', env', R', s', w'⟩
  obtain ⟨g1, g2⟩ := good F' H' env' σ' i R' s'
  by_cases hlt : i < ds.length
  · obtain ⟨h1, h2⟩ := g1 hlt
    refine .inr ⟨h1, fun σ2 H2 => ∃ F2 env2, Rl X.K B F2 H2 env2 σ2 ∧ Same F1 F2 ∧ wEach g t (ds.drop (i + 1)) env2 k, fun σ2 H2 ⟨F2, env2, R2, s2, w2⟩ => ⟨ds.length - (i + 1), by omega, rfl, hlt, F2, env2, R2, s2, w2⟩, fun x H2 y => ?_⟩
    obtain ⟨F2, d, R2, f2, e2, rp⟩ := h2 x H2 y
    have hd : ds.drop i = d :: ds.drop (i + 1) := by
      rw [List.drop_eq_getElem_cons hlt]
      rw [List.getElem?_eq_getElem hlt] at e2
      cases e2
      rfl
    rw [hd] at w'
    have sm2 := s'.trans f2.sub
    exact ⟨F2, env', d, _, R2, rp, w', fun σ3 env3 R3 _ _ w3 => ⟨F2, env3, _, R3, w3, hx, fun σ4 env4 F4 H4 R4 s4 k4 => ⟨F4, env4, R4, sm2.trans s4, k4⟩, fun v σ4 env4 r F4 H4 R4 res k4 => ⟨σ4, env4, r, F4, R4, res, k4⟩,
      fun σ4 env4 F4 H4 R4 s4 k4 => ⟨env4, F4, R4, (f1.sub.trans sm2).trans s4, k4⟩, fun σ4 env4 F4 H4 R4 s4 k4 => ⟨F4, env4, R4, sm2.trans s4, k4⟩⟩⟩
  · rw [List.drop_eq_nil_of_le (by omega)] at w'
    exact .inl ⟨g2 (by omega), env', F', R', f1.sub.trans s', w'⟩
end
end Dl
end L2

/-! The D layer, 10: list comprehensions. -/
namespace L2
namespace Dl
open PySem PySem.Spec PyProof.Rows

def wipeE (env : Ev) : List Nat → Ev
  | [] => env
  | v :: vs => (wipeE env vs).set v .un
/-- the slots at vs as they were in e1 -/
def restE (e1 : Ev) (e : Ev) : List Nat → Ev
  | [] => e
  | v :: vs => (restE e1 e vs).set v (e1[v]?.getD .un)
abbrev NoX : KXc := fun _ _ => False
abbrev W0 : WX := fun _ _ _ _ => False
def wLcE (vs : List Nat) (g : WG) (ct : WT) (we : WE) : List PyData → List PyData → Ev → (Ev → List PyData → Prop) → Prop
  | [], acc, env, K => K env acc
  | d :: r, acc, env, K => g d env (fun e1 => ct e1 (fun e2 b => if b = true then wFz we e2 (fun e3 y => acc.length < sizeLine ∧ wLcE vs g ct we r (acc ++ [y]) (wipeE e3 vs) K) NoX else wLcE vs g ct we r acc (wipeE e2 vs) K) NoX)
def wLc (vs : List Nat) (wi : WI) (g : WG) (ct : WT) (we : WE) : WE := fun env Ke Kx => wi env (fun e1 ds => wLcE vs g ct we ds [] (wipeE e1 vs) (fun e2 acc => Ke (restE e1 e2 vs) (.tmp acc))) Kx
def wYes : WT := fun env Kt _ => Kt env true

theorem wipeE_len (env : Ev) : ∀ vs : List Nat, (wipeE env vs).length = env.length
  | [] => rfl
  | v :: vs => by unfold wipeE; rw [List.length_set, wipeE_len env vs]
theorem wipeE_in {env : Ev} : ∀ {vs : List Nat} {j : Nat}, j ∈ vs → ∀ s, (wipeE env vs)[j]? = some s → s = Sl.un
  | [], _, h, _, _ => by cases h
  | v :: vs, j, h, s, e => by
    unfold wipeE at e
    by_cases hv : v = j
    · subst hv
      by_cases hl : v < (wipeE env vs).length
      · rw [List.getElem?_set_self hl] at e
        cases e
        rfl
      · rw [List.getElem?_eq_none (by simpa using hl)] at e
        cases e
    · rw [List.getElem?_set_ne hv] at e
      exact wipeE_in ((List.mem_cons.mp h).resolve_left (fun z => hv z.symm)) s e
theorem wipeE_out {env : Ev} : ∀ {vs : List Nat} {j : Nat}, j ∉ vs → (wipeE env vs)[j]? = env[j]?
  | [], _, _ => rfl
  | v :: vs, j, h => by
    unfold wipeE
    rw [List.getElem?_set_ne (fun z => h (by rw [z]; exact List.mem_cons_self))]
    exact wipeE_out fun z => h (List.mem_cons_of_mem _ z)
theorem restE_len (e1 e : Ev) : ∀ vs : List Nat, (restE e1 e vs).length = e.length
  | [] => rfl
  | v :: vs => by unfold restE; rw [List.length_set, restE_len e1 e vs]
theorem restE_out {e1 e : Ev} : ∀ {vs : List Nat} {j : Nat}, j ∉ vs → (restE e1 e vs)[j]? = e[j]?
  | [], _, _ => rfl
  | v :: vs, j, h => by
    unfold restE
    rw [List.getElem?_set_ne (fun z => h (by rw [z]; exact List.mem_cons_self))]
    exact restE_out fun z => h (List.mem_cons_of_mem _ z)
theorem restE_in {e1 e : Ev} (hl : e.length = e1.length) : ∀ {vs : List Nat} {j : Nat}, j ∈ vs → (restE e1 e vs)[j]? = e1[j]?
  | [], _, h => by cases h
  | v :: vs, j, h => by
    unfold restE
    by_cases hv : v = j
    · subst hv
      by_cases hlt : v < e1.length
      · rw [List.getElem?_set_self (by rw [restE_len, hl]; exact hlt)]
        rw [List.getElem?_eq_getElem hlt]
        rfl
      · rw [List.getElem?_eq_none (by rw [List.length_set, restE_len, hl]; omega), List.getElem?_eq_none (by omega)]
    · rw [List.getElem?_set_ne hv]
      exact restE_in hl ((List.mem_cons.mp h).resolve_left (fun z => hv z.symm))
section
variable {K : PySem.W.Frag} {B : Bs} {F H F1 H1 : Hp} {env e1 : Ev} {σ σ' : St} {vs : List Nat}
theorem wipe_in {σ : St} : ∀ {vs : List Nat} {j : Nat}, j ∈ vs → ∀ x, (wipe σ vs)[j]? = some x → x = none
  | [], _, h, _, _ => by cases h
  | v :: vs, j, h, x, e => by
    unfold wipe at e
    by_cases hv : v = j
    · subst hv
      by_cases hl : v < (wipe σ vs).length
      · rw [List.getElem?_set_self hl] at e
        cases e
        rfl
      · rw [List.getElem?_eq_none (by simpa using hl)] at e
        cases e
    · rw [List.getElem?_set_ne hv] at e
      exact wipe_in ((List.mem_cons.mp h).resolve_left (fun z => hv z.symm)) x e
theorem wipe_agree (h : ∀ j, j ∉ vs → σ'[j]? = σ[j]?) (hl : σ'.length = σ.length) : wipe σ' vs = wipe σ vs := by
  apply List.ext_getElem?
  intro j
  by_cases hj : j ∈ vs
  · by_cases hlt : j < σ.length
    · have h1l : j < (wipe σ' vs).length := by rw [wipe_length, hl]; exact hlt
      have h2l : j < (wipe σ vs).length := by rw [wipe_length]; exact hlt
      have h1 : (wipe σ' vs)[j]? = some (wipe σ' vs)[j] := List.getElem?_eq_getElem h1l
      have h2 : (wipe σ vs)[j]? = some (wipe σ vs)[j] := List.getElem?_eq_getElem h2l
      have g1 := wipe_in hj _ h1
      have g2 := wipe_in hj _ h2
      rw [h1, h2, g1, g2]
    · rw [List.getElem?_eq_none (by rw [wipe_length, hl]; omega), List.getElem?_eq_none (by rw [wipe_length]; omega)]
  · rw [wipe_out hj, wipe_out hj]
    exact h j hj
/-- within the block: the block's own names are unset -/
theorem Rl.wiped (R : Rl K B F H env σ) (nl : ∀ p ∈ B.all, p.1 ∉ vs) : Rl K B F H (wipeE env vs) (wipe σ vs) := by
  have ow : ∀ {j : Nat} {l : Bool} {ds : List PyData}, (wipeE env vs)[j]? = some (Sl.own l ds) → j ∉ vs ∧ env[j]? = some (Sl.own l ds) := fun {j l ds} h => by
    by_cases hj : j ∈ vs
    · cases wipeE_in hj _ h
    · rw [wipeE_out hj] at h
      exact ⟨hj, h⟩
  have od : ∀ {j : Nat} {kv : List (List Int × PyData)}, (wipeE env vs)[j]? = some (Sl.dct kv) → j ∉ vs ∧ env[j]? = some (Sl.dct kv) := fun {j kv} h => by
    by_cases hj : j ∈ vs
    · cases wipeE_in hj _ h
    · rw [wipeE_out hj] at h
      exact ⟨hj, h⟩
  refine ⟨by rw [wipeE_len, wipe_length]; exact R.len, R.sub, fun j => ?_, fun i j l m ds es a h1 h2 h3 h4 => ?_, R.sub0, R.new, R.frm, R.dom, fun i ds a h1 h2 => ?_, fun i ds a h1 h2 => ?_, fun p hp => ?_, fun i j kv kw a h1 h2 h3 h4 => ?_, fun i kv a h1 h2 => ?_⟩
  · by_cases hj : j ∈ vs
    · cases q : (wipeE env vs)[j]? with
      | none => trivial
      | some s =>
        cases wipeE_in hj s q
        trivial
    · rw [wipeE_out hj, wipe_out hj]
      exact R.sl j
  · obtain ⟨n1, g1⟩ := ow h1
    obtain ⟨n2, g2⟩ := ow h2
    rw [wipe_out n1] at h3
    rw [wipe_out n2] at h4
    exact R.dist i j l m ds es a g1 g2 h3 h4
  · obtain ⟨n1, g1⟩ := ow h1
    rw [wipe_out n1] at h2
    exact R.own0 i ds a g1 h2
  · obtain ⟨n1, g1⟩ := ow h1
    rw [wipe_out n1] at h2
    exact R.own1 i ds a g1 h2
  · rw [wipe_out (nl p hp)]
    exact R.lsl p hp
  · obtain ⟨n1, g1⟩ := od h1
    obtain ⟨n2, g2⟩ := od h2
    rw [wipe_out n1] at h3
    rw [wipe_out n2] at h4
    exact R.dd i j kv kw a g1 g2 h3 h4
  · obtain ⟨n1, g1⟩ := od h1
    rw [wipe_out n1] at h2
    exact R.d0 i kv a g1 h2
/-- ownership in the wiped state is ownership ahead of it -/
theorem own_wiped {a : Addr} (h : ownAt (wipeE env vs) (wipe σ vs) a) : ownAt env σ a := by
  rcases h with ⟨j, l, ds, h1, h2⟩ | ⟨j, kv, h1, h2⟩
  · by_cases hj : j ∈ vs
    · cases wipeE_in hj _ h1
    · rw [wipeE_out hj] at h1
      rw [wipe_out hj] at h2
      exact .inl ⟨j, l, ds, h1, h2⟩
  · by_cases hj : j ∈ vs
    · cases wipeE_in hj _ h1
    · rw [wipeE_out hj] at h1
      rw [wipe_out hj] at h2
      exact .inr ⟨j, kv, h1, h2⟩
/-- behind the block -/
theorem Rl.restored (R1 : Rl K B F1 H1 e1 σ) (R : Rl K B F H env (wipe σ vs)) (f : Fm (wipeE e1 vs) (wipe σ vs) F1 H1 env F H) (nl : ∀ p ∈ B.all, p.1 ∉ vs) : Rl K B F H (restE e1 env vs) σ ∧ Fm e1 σ F1 H1 (restE e1 env vs) F H := by
  have hl : env.length = e1.length := by
    have h1 := R.len
    have h2 := R1.len
    rw [wipe_length] at h1
    omega
  -- an own slot of the restored state
  have ow : ∀ {j : Nat} {l : Bool} {ds : List PyData}, (restE e1 env vs)[j]? = some (Sl.own l ds) → (j ∈ vs ∧ e1[j]? = some (Sl.own l ds)) ∨ (j ∉ vs ∧ env[j]? = some (Sl.own l ds)) := fun {j l ds} h => by
    by_cases hj : j ∈ vs
    · rw [restE_in hl hj] at h
      exact .inl ⟨hj, h⟩
    · rw [restE_out hj] at h
      exact .inr ⟨hj, h⟩
  have owE : ∀ {j : Nat} {l : Bool} {ds : List PyData}, (restE e1 env vs)[j]? = some (Sl.own l ds) → ∃ ds0, e1[j]? = some (Sl.own l ds0) := fun {j l ds} h => by
    rcases ow h with ⟨_, g⟩ | ⟨n, g⟩
    · exact ⟨ds, g⟩
    · obtain ⟨ds0, g1⟩ := f.own j l ds g
      rw [wipeE_out n] at g1
      exact ⟨ds0, g1⟩
  -- an address owned by a hidden slot is not owned in the block
  have hid : ∀ {j : Nat} {l : Bool} {ds : List PyData} {a : Addr}, j ∈ vs → e1[j]? = some (Sl.own l ds) → σ[j]? = some (some (V.ref a)) → ¬ ownAt (wipeE e1 vs) (wipe σ vs) a := fun {j l ds a} hj h1 h2 ow => by
    rcases ow with ⟨k, m, es, g1, g2⟩ | ⟨k, kv, g1, g2⟩
    · by_cases hk : k ∈ vs
      · cases wipeE_in hk _ g1
      · rw [wipeE_out hk] at g1
        rw [wipe_out hk] at g2
        have e := R1.dist j k l m ds es a h1 g1 h2 g2
        exact hk (e ▸ hj)
    · by_cases hk : k ∈ vs
      · cases wipeE_in hk _ g1
      · rw [wipeE_out hk] at g1
        rw [wipe_out hk] at g2
        have s1 := R1.sl j
        have s2 := R1.sl k
        rw [h1] at s1
        rw [g1] at s2
        obtain ⟨b, ws, y1, y2, _⟩ := s1
        obtain ⟨c, z1, z2, _⟩ := s2
        rw [h2] at y1
        cases y1
        rw [g2] at z1
        cases z1
        rw [y2] at z2
        cases z2
  have odE : ∀ {j : Nat} {kv : List (List Int × PyData)}, (restE e1 env vs)[j]? = some (Sl.dct kv) → ∃ kw, e1[j]? = some (Sl.dct kw) := fun {j kv} h => by
    by_cases hj : j ∈ vs
    · rw [restE_in hl hj] at h
      exact ⟨kv, h⟩
    · rw [restE_out hj] at h
      obtain ⟨kw, g1⟩ := f.od j kv h
      rw [wipeE_out hj] at g1
      exact ⟨kw, g1⟩
  have hidd : ∀ {j : Nat} {kv : List (List Int × PyData)} {a : Addr}, j ∈ vs → e1[j]? = some (Sl.dct kv) → σ[j]? = some (some (V.ref a)) → ¬ ownAt (wipeE e1 vs) (wipe σ vs) a := fun {j kv a} hj h1 h2 ow => by
    rcases ow with ⟨k, m, es, g1, g2⟩ | ⟨k, kw, g1, g2⟩
    · by_cases hk : k ∈ vs
      · cases wipeE_in hk _ g1
      · rw [wipeE_out hk] at g1
        rw [wipe_out hk] at g2
        have s1 := R1.sl j
        have s2 := R1.sl k
        rw [h1] at s1
        rw [g1] at s2
        obtain ⟨b, y1, y2, _⟩ := s1
        obtain ⟨c, ws, z1, z2, _⟩ := s2
        rw [h2] at y1
        cases y1
        rw [g2] at z1
        cases z1
        rw [y2] at z2
        cases z2
    · by_cases hk : k ∈ vs
      · cases wipeE_in hk _ g1
      · rw [wipeE_out hk] at g1
        rw [wipe_out hk] at g2
        have e := R1.dd j k kv kw a h1 g1 h2 g2
        exact hk (e ▸ hj)
  refine ⟨⟨by rw [restE_len, hl]; exact R1.len, R.sub, fun j => ?_, fun i j l m ds es a h1 h2 h3 h4 => ?_, R.sub0, R.new, R.frm, R.dom, fun i ds a h1 h2 => ?_, fun i ds a h1 h2 => ?_, R1.lsl, fun i j kv kw a h1 h2 h3 h4 => ?_, fun i kv a h1 h2 => ?_⟩, ⟨fun b x h n => f.keep b x h fun q => n (own_wiped q), f.sub, fun b x h => ?_, fun i l ds h => owE h, f.dom, fun i kv h => odE h⟩⟩
  · by_cases hj : j ∈ vs
    · rw [restE_in hl hj]
      have s := R1.sl j
      cases q : e1[j]? with
      | none => trivial
      | some z =>
        rw [q] at s
        cases z with
        | un => trivial
        | val d =>
          obtain ⟨v, g1, g2⟩ := s
          exact ⟨v, g1, Rp.mono f.sub _ _ g2⟩
        | own l ds =>
          obtain ⟨a, ws, g1, g2, g3, g4⟩ := s
          have na := hid hj q g1
          refine ⟨a, ws, g1, f.keep a _ g2 na, ?_, RpAll.mono f.sub _ _ g4⟩
          cases z : F a with
          | none => rfl
          | some x =>
            rcases f.new a x z with y | y | y
            · rw [g3] at y; cases y
            · exact (y.lst g2).elim
            · exact absurd y na
        | dct kv =>
          obtain ⟨a, g1, g2, g3⟩ := s
          have na := hidd hj q g1
          refine ⟨a, g1, f.keep a _ g2 na, ?_⟩
          cases z : F a with
          | none => rfl
          | some x =>
            rcases f.new a x z with y | y | y
            · rw [g3] at y; cases y
            · exact (y.dT g2).elim
            · exact absurd y na
    · rw [restE_out hj]
      have s := R.sl j
      rw [wipe_out hj] at s
      exact s
  · obtain ⟨d1, g1⟩ := owE h1
    obtain ⟨d2, g2⟩ := owE h2
    exact R1.dist i j l m d1 d2 a g1 g2 h3 h4
  · obtain ⟨d1, g1⟩ := owE h1
    exact R1.own0 i d1 a g1 h2
  · obtain ⟨d1, g1⟩ := owE h1
    exact R1.own1 i d1 a g1 h2
  · obtain ⟨d1, g1⟩ := odE h1
    obtain ⟨d2, g2⟩ := odE h2
    exact R1.dd i j d1 d2 a g1 g2 h3 h4
  · obtain ⟨d1, g1⟩ := odE h1
    exact R1.d0 i d1 a g1 h2
  · rcases f.new b x h with z | z | z
    · exact .inl z
    · exact .inr (.inl z)
    · exact .inr (.inr (own_wiped z))
/-- a tracked object that is nobody's is written -/
theorem Rl.other (R : Rl K B F H env σ) {D : Addr} {o : HO} (hF : F D = none) (h0 : B.H0 D = none) (no : ¬ ownAt env σ D) : Rl K B F (upd H D o) env σ := by
  refine ⟨R.len, fun b x e => ?_, fun j => ?_, R.dist, R.sub0, R.new, fun b x e n => ?_, fun b e => ?_, R.own0, R.own1, R.lsl, R.dd, R.d0⟩
  · rw [upd_ne]
    · exact R.sub b x e
    · rintro rfl
      rw [hF] at e
      cases e
  · have s := R.sl j
    cases q : env[j]? with
    | none => trivial
    | some z =>
      rw [q] at s
      cases z with
      | un => trivial
      | val d => exact s
      | own l ds =>
        obtain ⟨a, ws, g1, g2, g3, g4⟩ := s
        refine ⟨a, ws, g1, ?_, g3, g4⟩
        rw [upd_ne]
        · exact g2
        · rintro rfl
          exact no (.inl ⟨j, l, ds, q, g1⟩)
      | dct kv =>
        obtain ⟨a, g1, g2, g3⟩ := s
        refine ⟨a, g1, ?_, g3⟩
        rw [upd_ne]
        · exact g2
        · rintro rfl
          exact no (.inr ⟨j, kv, q, g1⟩)
  · rw [upd_ne]
    · exact R.frm b x e n
    · rintro rfl
      rw [h0] at e
      cases e
  · by_cases hb : b = D
    · subst hb
      rw [upd_same]
      simp
    · rw [upd_ne hb]
      exact R.dom b e
/-- .. in a frame that begins ahead of it -/
theorem Fm.other {env0 : Ev} {F0 H0 : Hp} {D : Addr} {o : HO} (f : Fm env0 σ F0 H0 env F H) (h : H0 D = none) : Fm env0 σ F0 H0 env F (upd H D o) :=
  ⟨fun b x e n => by rw [upd_ne (ne_of_none e h)]; exact f.keep b x e n, f.sub, f.new, f.own, fun b e => by
    by_cases hb : b = D
    · subst hb
      rw [upd_same]
      simp
    · rw [upd_ne hb]
      exact f.dom b e, f.od⟩
end

section
variable {B : Bs} {W : WX} {X : Cx} {tg iter elt c : Expr} {is : List Nat} {wi : WI} {g : WG} {ct : WT} {we : WE} {pos : Pos}
/-- a comprehension's tests -/
structure DTs (B : Bs) (X : Cx) (ifs : List Expr) (w : WT) : Prop where
  pts : PTs X ifs (fun σ H Q => ∃ F env Kt, Rl X.K B F H env σ ∧ w env Kt NoX ∧ ∀ env' F' H' b, Rl X.K B F' H' env' σ → Fm env σ F H env' F' H' → Kt env' b → Q b H')
theorem dts_nil : DTs B X [] wYes := by
  refine ⟨⟨fun pins s σ H Q I ⟨F, env, Kt, R, hw, q⟩ => ?_⟩⟩
  exact pts_nil.run pins s σ H Q I (q env F H true R Fm.refl hw)
theorem DT.pt {w : WT} (h : DT B W0 X c w) : PT X c (fun σ H Q => ∃ F env Kt, Rl X.K B F H env σ ∧ w env Kt NoX ∧ ∀ env' F' H' b, Rl X.K B F' H' env' σ → Fm env σ F H env' F' H' → Kt env' b → Q b H') := by
  refine ⟨fun pins s σ H Q I ⟨F, env, Kt, R, hw, q⟩ => ?_⟩
  exact thn (h.run pins s σ F H env Kt NoX I R hw (fun _ _ _ _ _ _ _ z => z.elim)) fun b s1 ⟨env', F', H', I', R', f', k'⟩ => ⟨H', I', q env' F' H' b R' f' k'⟩
theorem dts_one {w : WT} (h : DT B W0 X c w) : DTs B X [c] w := ⟨pts_one h.pt⟩

abbrev tiW (K : PySem.W.Frag) (B : Bs) (W : WX) (wi : WI) : TI := fun σ H R => ∃ F env Ki Kx, Rl K B F H env σ ∧ wi env Ki Kx ∧ XC K B W Kx ∧ ∀ J env' F' H' ds, Rl K B F' H' env' σ → Fm env σ F H env' F' H' → GoodIt K B J F' ds → Ki env' ds → R J H'
abbrev teW (K : PySem.W.Frag) (B : Bs) (W : WX) (we : WE) : TE := fun σ H Q => ∃ F env Ke Kx, Rl K B F H env σ ∧ we env Ke Kx ∧ XC K B W Kx ∧
    ∀ v env' r F' H', Rl K B F' H' env' σ → Fm env σ F H env' F' H' → Res K B F' H' env' σ v r → Nw H v r → Ke env' r → Q v H'
abbrev ttW (K : PySem.W.Frag) (B : Bs) (ct : WT) : TT := fun σ H Q => ∃ F env Kt, Rl K B F H env σ ∧ ct env Kt NoX ∧ ∀ env' F' H' b, Rl K B F' H' env' σ → Fm env σ F H env' F' H' → Kt env' b → Q b H'
abbrev tgW (K : PySem.W.Frag) (B : Bs) (is : List Nat) (g : WG) : TG := fun v σ H Q => ∃ F env d Kn, Rl K B F H env σ ∧ Rp K F v d ∧ g d env Kn ∧ ∀ σ' env', Rl K B F H env' σ' → Agree is σ σ' → OwnSub env env' → Kn env' → Q σ' H
theorem lc_t {K : PySem.W.Frag} {is vs : List Nat} {σ : St} {F H : Hp} {env : Ev} {Ke : KE} {Kx : KXc} (his : ∀ i ∈ is, i ∈ vs) (nl : ∀ p ∈ B.all, p.1 ∉ vs) (R : Rl K B F H env σ) (h : wLc vs wi g ct we env Ke Kx) (hx : XC K B W Kx) :
    tLc (tiW K B W wi) (tgW K B is g) (ttW K B ct) (teW K B W0 we) vs σ H (fun v H' => ∃ env' r F', Rl K B F' H' env' σ ∧ Fm env σ F H env' F' H' ∧ Res K B F' H' env' σ v r ∧ Nw H v r ∧ Ke env' r) := by
  refine ⟨F, env, _, Kx, R, h, hx, fun J e1 F1 H1 ds R1 f1 good k1 => ?_⟩
  intro D hD
  have RW := R1.wiped (vs := vs) nl
  have fD := R1.freeF hD
  have D0 := R1.free0 hD
  have nD := R1.notOwn hD
  refine ⟨fun i m H2 => m = ds.length - i ∧ i ≤ ds.length ∧ ∃ F2 env2 acc ws, Rl K B F2 H2 env2 (wipe σ vs) ∧ Fm (wipeE e1 vs) (wipe σ vs) F1 H1 env2 F2 H2 ∧ H2 D = some (.lst ws) ∧ F2 D = none ∧ RpAll K F2 ws acc ∧
    wLcE vs g ct we (ds.drop i) acc env2 (fun e2 acc => Ke (restE e1 e2 vs) (.tmp acc)), ⟨ds.length, by simp, Nat.zero_le _, F1, wipeE e1 vs, [], [], RW.other fD D0 fun q => nD (own_wiped q), Fm.refl.other hD, upd_same, fD, .nil, k1⟩, ?_⟩
  rintro i m H2 ⟨rfl, hi', F2, env2, acc, ws, R2, f2, eD, fD2, ra, w2⟩
  have nD2 : ¬ ownAt env2 (wipe σ vs) D := fun q => nD (own_wiped (f2.ownAt q))
  obtain ⟨g1, g2⟩ := good F2 H2 env2 (wipe σ vs) i R2 f2.sub
  by_cases hlt : i < ds.length
  · obtain ⟨h1, h2⟩ := g1 hlt
    refine .inr ⟨h1, fun H3 => ∃ F3 env3 acc3 ws3, Rl K B F3 H3 env3 (wipe σ vs) ∧ Fm (wipeE e1 vs) (wipe σ vs) F1 H1 env3 F3 H3 ∧ H3 D = some (.lst ws3) ∧ F3 D = none ∧ RpAll K F3 ws3 acc3 ∧
      wLcE vs g ct we (ds.drop (i + 1)) acc3 env3 (fun e2 acc => Ke (restE e1 e2 vs) (.tmp acc)), fun H3 ⟨F3, env3, acc3, ws3, z⟩ => ⟨ds.length - (i + 1), by omega, rfl, hlt, F3, env3, acc3, ws3, z⟩, fun x H3 y => ?_⟩
    obtain ⟨F3, d, R3, f3, e3, rp⟩ := h2 x H3 y
    have hd : ds.drop i = d :: ds.drop (i + 1) := by
      rw [List.drop_eq_getElem_cons hlt]
      rw [List.getElem?_eq_getElem hlt] at e3
      cases e3
      rfl
    rw [hd] at w2
    have ff3 := f2.trans f3
    have eD3 : H3 D = some (.lst ws) := f3.keep D _ eD nD2
    have fD3 : F3 D = none := by
      cases z : F3 D with
      | none => rfl
      | some x =>
        rcases f3.new D x z with y | y | y
        · rw [fD2] at y; cases y
        · exact (y.lst eD).elim
        · exact absurd y nD2
    refine ⟨F3, env2, d, _, R3, rp, w2, fun σ4 env4 R4 ag os4 w4 => ?_⟩
    have ew : wipe σ4 vs = wipe σ vs := by
      have e := wipe_agree (vs := vs) (σ := wipe σ vs) (σ' := σ4) (fun j hj => ag.2 j fun z => hj (his j z)) ag.1
      rw [e]
      exact wipe_agree (fun j hj => wipe_out hj) (wipe_length _ _)
    -- ownership in the turn is ownership ahead of it
    have back : ∀ {a : Addr}, ownAt env4 σ4 a → ownAt env2 (wipe σ vs) a := fun {a} ow => by
      rcases ow with ⟨j, l, es, g1, g2⟩ | ⟨j, kv, g1, g2⟩
      · have g3 := os4.1 j l es g1
        obtain ⟨b, bs, g4, _⟩ := R2.ownSl g3
        have hj : j ∉ vs := fun z => by
          cases wipe_in z _ g4
        rw [ag.2 j fun z => hj (his j z)] at g2
        exact .inl ⟨j, l, es, g3, g2⟩
      · have g3 := os4.2 j kv g1
        have s := R2.sl j
        rw [g3] at s
        obtain ⟨b, g4, _⟩ := s
        have hj : j ∉ vs := fun z => by
          cases wipe_in z _ g4
        rw [ag.2 j fun z => hj (his j z)] at g2
        exact .inr ⟨j, kv, g3, g2⟩
    -- the frame of a turn, the block's names forgotten
    have fin : ∀ {env5 : Ev} {F5 H5 : Hp}, Rl K B F5 H5 env5 σ4 → Fm env4 σ4 F3 H3 env5 F5 H5 → Rl K B F5 H5 (wipeE env5 vs) (wipe σ vs) ∧ Fm env2 (wipe σ vs) F3 H3 (wipeE env5 vs) F5 H5 := fun {env5 F5 H5} R5 f5 => by
      have r5 := R5.wiped (vs := vs) nl
      rw [ew] at r5
      refine ⟨r5, ⟨fun b x e n => f5.keep b x e fun q => n (back q), f5.sub, fun b x e => ?_, fun j l es e => ?_, f5.dom, fun j kv e => ?_⟩⟩
      · rcases f5.new b x e with z | z | z
        · exact .inl z
        · exact .inr (.inl z)
        · exact .inr (.inr (back z))
      · by_cases hj : j ∈ vs
        · cases wipeE_in hj _ e
        · rw [wipeE_out hj] at e
          obtain ⟨ds0, g1⟩ := f5.own j l es e
          exact ⟨ds0, os4.1 j l ds0 g1⟩
      · by_cases hj : j ∈ vs
        · cases wipeE_in hj _ e
        · rw [wipeE_out hj] at e
          obtain ⟨kw, g1⟩ := f5.od j kv e
          exact ⟨kw, os4.2 j kw g1⟩
    have keepD : ∀ {env5 : Ev} {F5 H5 : Hp}, Fm env4 σ4 F3 H3 env5 F5 H5 → H5 D = some (.lst ws) ∧ F5 D = none := fun {env5 F5 H5} f5 => by
      have nD4 : ¬ ownAt env4 σ4 D := fun q => nD2 (back q)
      refine ⟨f5.keep D _ eD3 nD4, ?_⟩
      cases z : F5 D with
      | none => rfl
      | some x =>
        rcases f5.new D x z with y | y | y
        · rw [fD3] at y; cases y
        · exact (y.lst eD3).elim
        · exact absurd y nD4
    refine ⟨ew, F3, env4, _, R4, w4, fun env5 F5 H5 b R5 f5 k5 => ?_⟩
    cases b with
    | false =>
      rw [if_neg Bool.false_ne_true] at k5 ⊢
      obtain ⟨r5, m5⟩ := fin R5 f5
      obtain ⟨d1, d2⟩ := keepD f5
      exact ⟨F5, wipeE env5 vs, acc, ws, r5, ff3.trans m5, d1, d2, RpAll.mono (f3.sub.trans f5.sub) _ _ ra, k5⟩
    | true =>
      rw [if_pos rfl] at k5 ⊢
      refine ⟨F5, env5, _, NoX, R5, k5, fun _ _ _ _ _ _ _ z => z.elim, fun v env6 r F6 H6 R6 f6 q6 n6 ⟨pr, e6, hz, k6⟩ => ?_⟩
      obtain ⟨F7, R7, f7, rp7⟩ := freeze (env2 := pr.1) (d := pr.2) R6 f6 q6 n6 e6
      obtain ⟨r7, m7⟩ := fin R7 (f5.trans f7)
      obtain ⟨d1, d2⟩ := keepD (f5.trans f7)
      have nD7 : ¬ ownAt (wipeE pr.1 vs) (wipe σ vs) D := fun q => nD2 (m7.ownAt q)
      have ra7 := RpAll.mono (f3.sub.trans (f5.trans f7).sub) _ _ ra
      exact ⟨ws, d1, by rw [ra.length]; exact hz, F7, wipeE pr.1 vs, acc ++ [pr.2], ws ++ [v], r7.other d2 D0 nD7, (ff3.trans m7).other hD, upd_same, d2, ra7.append (.cons rp7 .nil), k6⟩
  · rw [List.drop_eq_nil_of_le (by omega)] at w2
    obtain ⟨r1, r2⟩ := Rl.restored R1 R2 f2 nl
    refine .inl ⟨g2 (by omega), restE e1 env2 vs, .tmp acc, F2, r1, f1.trans r2, ⟨D, ws, rfl, eD, fD2, D0, fun q => ?_, ra⟩, fun p e => ?_, w2⟩
    · exact nD (r2.ownAt q)
    · cases e
      cases z : H D with
      | none => rfl
      | some x => exact absurd hD (f1.dom D (by rw [z]; simp))
/-- [elt for tg in iter if ..] -/
theorem de_lc {ifs : List Expr} {scope : Scope} {own : List (Str × Nat)} (hi : DI B W X tg iter wi) (ok : BlkOk X.N X.env.scope scope own) (his : ∀ i ∈ is, i ∈ own.map (·.2)) (nl : ∀ p ∈ B.all, p.1 ∉ own.map (·.2)) (hN : X.N.Nodup)
    (hg : ∀ (s : Shared) (H : Hp) (C : Addr) (cl : List (Str × Addr)) (fp : List Addr), DG B (X.blk s H scope (compEnvC scope cl C X.env) fp) tg is g) (ht : ∀ (s : Shared) (H : Hp) (C : Addr) (cl : List (Str × Addr)) (fp : List Addr), DTs B (X.blk s H scope (compEnvC scope cl C X.env) fp) ifs ct)
    (he : ∀ (s : Shared) (H : Hp) (C : Addr) (cl : List (Str × Addr)) (fp : List Addr), DE B W0 (X.blk s H scope (compEnvC scope cl C X.env) fp) elt we) (hc : X.calm = true := by rfl) (hs : ∀ x, foldedSetIterable iter X.env x = pure x := by intro _; rfl) :
    DE B W X (.ListComp elt [⟨tg, iter, ifs, 0⟩] scope pos) (wLc (own.map (·.2)) wi g ct we) := by
  refine ⟨fun pins s σ F H env Ke Kx I R h hx => ?_⟩
  have pe := pe_lc (pos := pos) (elt := elt) (ifs := ifs) (te := teW X.K B W0 we) (tt := ttW X.K B ct) (g := tgW X.K B is g) hc hN hi.pi ok (fun s H C cl fp => (hg s H C cl fp).pg) (fun s H C cl fp => (ht s H C cl fp).pts) (fun s H C cl fp => (he s H C cl fp).pe) hs
  exact thn (pe.run pins s σ H (fun v H' => ∃ env' r F', Rl X.K B F' H' env' σ ∧ Fm env σ F H env' F' H' ∧ Res X.K B F' H' env' σ v r ∧ Nw H v r ∧ Ke env' r) I (lc_t his nl R h hx)) fun u s1 ⟨v, H', I', rv, env', r, F', h1, h2, h3, h4, h5⟩ => ⟨v, env', r, F', H', I', rv, h1, h2, h3, h4, h5⟩
theorem lc_mono {K : PySem.W.Frag} {tgx : TG} {ttx : TT} {tex : TE} {vs : List Nat} {σ : St} {H : Hp} {Q Q' : VK} (hQ : ∀ v H, Q v H → Q' v H) (h : tLc (tiW K B W wi) tgx ttx tex vs σ H Q) : tLc (tiW K B W wi) tgx ttx tex vs σ H Q' := by
  obtain ⟨F, env, Ki, Kx, R, hw, hx, q⟩ := h
  exact ⟨F, env, Ki, Kx, R, hw, hx, fun J e1 F1 H1 ds R1 f1 g k D hD => let ⟨Wi, w0, hW⟩ := q J e1 F1 H1 ds R1 f1 g k D hD; ⟨Wi, w0, fun i m H w => (hW i m H w).imp (fun ⟨a, b⟩ => ⟨a, hQ _ _ b⟩) id⟩⟩
/-- x = [elt for tg in iter if ..] on one line, x a local -/
theorem ds_setLc (i : Nat) {y : Str} {py spos : Pos} {ifs : List Expr} {scope : Scope} {own : List (Str × Nat)} (hi : DI B W X tg iter wi) (ok : BlkOk X.N X.env.scope scope own) (his : ∀ i ∈ is, i ∈ own.map (·.2)) (nl : ∀ p ∈ B.all, p.1 ∉ own.map (·.2)) (nli : ∀ p ∈ B.all, p.1 ≠ i) (hN : X.N.Nodup)
    (hg : ∀ (s : Shared) (H : Hp) (C : Addr) (cl : List (Str × Addr)) (fp : List Addr), DG B (X.blk s H scope (compEnvC scope cl C X.env) fp) tg is g) (ht : ∀ (s : Shared) (H : Hp) (C : Addr) (cl : List (Str × Addr)) (fp : List Addr), DTs B (X.blk s H scope (compEnvC scope cl C X.env) fp) ifs ct)
    (he : ∀ (s : Shared) (H : Hp) (C : Addr) (cl : List (Str × Addr)) (fp : List Addr), DE B W0 (X.blk s H scope (compEnvC scope cl C X.env) fp) elt we)
    (hy : X.N[i]? = some y := by rfl) (hk : X.env.scope.kind = .function := by rfl) (hyl : X.env.scope.names.lookup y = some .local := by rfl) (hl : (py.line == pos.line) = true := by rfl) (ha : (scope.names.any fun (n, k) => n == y && (k == .local || k == .cell)) = false := by rfl)
    (hc : X.calm = true := by rfl) (hs : ∀ x, foldedSetIterable iter X.env x = pure x := by intro _; rfl) :
    DS B W X (.Assign [.Name y py] (.ListComp elt [⟨tg, iter, ifs, 0⟩] scope pos) spos) (wSet i (wLc (own.map (·.2)) wi g ct we)) := by
  refine ⟨fun pins s σ F H env k I R h hx => ?_⟩
  have ps := ps_setLc (spos := spos) (py := py) (pos := pos) (elt := elt) (ifs := ifs) (te := teW X.K B W0 we) (tt := ttW X.K B ct) (g := tgW X.K B is g) hc hN hy hyl (sw_true hk hyl hl ha) hi.pi ok (fun s H C cl fp => (hg s H C cl fp).pg) (fun s H C cl fp => (ht s H C cl fp).pts) (fun s H C cl fp => (he s H C cl fp).pe) hs
  refine thn (ps.run pins s σ H (endsD X.K B F k) I ?_) fun f s1 h1 => SP.spd h1
  have h' : wLc (own.map (·.2)) wi g ct we env (fun e r => asg i e r k.nx) k.ex := h
  refine lc_mono (fun v H' ⟨env', r, F', g1, g2, g3, g4, g5⟩ => ?_) (lc_t (vs := own.map (·.2)) (is := is) his nl R h' hx)
  have hi2 : i < σ.length := by rw [I.len]; exact (List.getElem?_eq_some_iff.mp hy).1
  obtain ⟨e2, F2, k1, k2, k3⟩ := asg_ok g1 hi2 nli g3 g5
  exact ⟨e2, F2, k1, g2.sub.trans k2, k3⟩

end
end Dl
end L2

/-! The D layer, 11: a def keeps its promise; the law's own end. -/
namespace L2
namespace Dl
open PySem PySem.Spec PyProof.Rows

def slOf : AV → Sl
  | .val d => .val d
  | .own ds => .own true ds
def startEv (n : Nat) (avs : List AV) : Ev := avs.map slOf ++ List.replicate (n - avs.length) .un
/-- the places of the lent ones -/
def lsFrom : Nat → List AV → List Nat
  | _, [] => []
  | i, .val _ :: as => lsFrom (i + 1) as
  | i, .own _ :: as => i :: lsFrom (i + 1) as
def outsOf (env : Ev) : List Nat → Option (List (List PyData))
  | [] => some []
  | i :: is => match env[i]? with
    | some (.own true ds) => (outsOf env is).map (ds :: ·)
    | _ => none
def retV (env : Ev) : Rs → Option Rv
  | .val d => some (.val d)
  | .tmp ds => some (.own ds)
  | .slot i => match env[i]? with
    | some (.val d) => some (.val d)
    | some (.own false ds) => some (.own ds)
    | _ => none
def kenD (ls : List Nat) (Kr : List (List PyData) → Rv → Prop) (Kx : List (List PyData) → XD → Prop) : Ken where
  nx := fun env => ∃ outs, outsOf env ls = some outs ∧ Kr outs (.val .none)
  rt := fun env r => ∃ outs v, outsOf env ls = some outs ∧ retV env r = some v ∧ Kr outs v
  bk := fun _ => False
  ct := fun _ => False
  ex := fun env x => ∃ outs, outsOf env ls = some outs ∧ Kx outs x
section
variable {K : PySem.W.Frag} {B : Bs} {F H : Hp}
theorem lsFrom_len (vs : List V) : ∀ (avs : List AV) (i : Nat) (vs : List V), ArgsR K F H vs avs → (lsFrom i avs).length = (lentAs vs avs).length := by
  intro avs
  induction avs with
  | nil => intro i vs h; cases h; rfl
  | cons a avs ih =>
    intro i vs h
    cases h with
    | @val v vs' d as h1 h2 =>
      have hl : lentAs (v :: vs') (.val d :: avs) = lentAs vs' avs := by cases v <;> rfl
      rw [hl]
      exact ih (i + 1) vs' h2
    | @own a ws vs' ds as h1 h2 h3 h4 =>
      show (lsFrom (i + 1) avs).length + 1 = (lentAs vs' avs).length + 1
      rw [ih (i + 1) vs' h4]
/-- the slots of the parameters at the entry -/
theorem start_sl : ∀ (avs : List AV) (vs : List V) (j : Nat), ArgsR K F H vs avs → slR K F H (avs.map slOf)[j]? (vs.map some)[j]?
  | [], _, _, h => by cases h; trivial
  | .val d :: as, _, 0, h => by
    cases h with
    | @val v _ _ _ h1 h2 => exact ⟨v, rfl, h1⟩
  | .own ds :: as, _, 0, h => by
    cases h with
    | @own a ws _ _ _ h1 h2 h3 h4 => exact ⟨a, ws, rfl, h1, h2, h3⟩
  | .val d :: as, _, j + 1, h => by
    cases h with
    | @val v vs' _ _ h1 h2 => exact start_sl as vs' j h2
  | .own ds :: as, _, j + 1, h => by
    cases h with
    | @own a ws vs' _ _ h1 h2 h3 h4 => exact start_sl as vs' j h4
/-- own slots at the entry are the lent ones -/
theorem start_own : ∀ (avs : List AV) (vs : List V) (i j : Nat) (l : Bool) (ds : List PyData) (a : Addr), ArgsR K F H vs avs → (avs.map slOf)[j]? = some (Sl.own l ds) → (vs.map some)[j]? = some (some (V.ref a)) → l = true ∧ (i + j, a) ∈ (lsFrom i avs).zip (lentAs vs avs)
  | [], _, _, _, _, _, _, h, e, _ => by simp at e
  | .val d :: as, _, i, 0, l, ds, a, h, e, e2 => by simp [slOf] at e
  | .own es :: as, _, i, 0, l, ds, a, h, e, e2 => by
    cases h with
    | @own b ws vs' _ _ h1 h2 h3 h4 =>
      simp only [List.map_cons, slOf, List.getElem?_cons_zero, Option.some.injEq, Sl.own.injEq] at e
      simp only [List.map_cons, List.getElem?_cons_zero, Option.some.injEq, V.ref.injEq] at e2
      subst e2
      exact ⟨e.1.symm, List.mem_cons_self⟩
  | .val d :: as, _, i, j + 1, l, ds, a, h, e, e2 => by
    cases h with
    | @val v vs' _ _ h1 h2 =>
      obtain ⟨g1, g2⟩ := start_own as vs' (i + 1) j l ds a h2 (by simpa using e) (by simpa using e2)
      have hl : lentAs (v :: vs') (.val d :: as) = lentAs vs' as := by cases v <;> rfl
      rw [hl]
      refine ⟨g1, ?_⟩
      have e3 : i + (j + 1) = i + 1 + j := by omega
      rw [e3]
      exact g2
  | .own es :: as, _, i, j + 1, l, ds, a, h, e, e2 => by
    cases h with
    | @own b ws vs' _ _ h1 h2 h3 h4 =>
      obtain ⟨g1, g2⟩ := start_own as vs' (i + 1) j l ds a h4 (by simpa using e) (by simpa using e2)
      refine ⟨g1, ?_⟩
      have e3 : i + (j + 1) = i + 1 + j := by omega
      rw [e3]
      exact List.mem_cons_of_mem _ g2
theorem lent_at : ∀ (avs : List AV) (vs : List V) (i : Nat) (p : Nat × Addr), ArgsR K F H vs avs → p ∈ (lsFrom i avs).zip (lentAs vs avs) → ∃ j, p.1 = i + j ∧ (vs.map some)[j]? = some (some (V.ref p.2))
  | [], _, _, _, h, hp => by cases h; cases hp
  | .val d :: as, _, i, p, h, hp => by
    cases h with
    | @val v vs' _ _ h1 h2 =>
      have hl : lentAs (v :: vs') (.val d :: as) = lentAs vs' as := by cases v <;> rfl
      rw [hl] at hp
      obtain ⟨j, e1, e2⟩ := lent_at as vs' (i + 1) p h2 hp
      exact ⟨j + 1, by omega, by simpa using e2⟩
  | .own ds :: as, _, i, p, h, hp => by
    cases h with
    | @own b ws vs' _ _ h1 h2 h3 h4 =>
      rcases List.mem_cons.mp hp with z | z
      · subst z
        exact ⟨0, rfl, rfl⟩
      · obtain ⟨j, e1, e2⟩ := lent_at as vs' (i + 1) p h4 z
        exact ⟨j + 1, by omega, by simpa using e2⟩
theorem zip_snd_inj : ∀ {is : List Nat} {as : List Addr}, as.Nodup → ∀ {i j : Nat} {a : Addr}, (i, a) ∈ is.zip as → (j, a) ∈ is.zip as → i = j
  | [], _, _, _, _, _, h, _ => by cases h
  | _ :: _, [], _, _, _, _, h, _ => by cases h
  | k :: is, b :: as, nd, i, j, a, h1, h2 => by
    have nd' := List.nodup_cons.mp nd
    have hin : ∀ {i : Nat} {c : Addr}, (i, c) ∈ is.zip as → c ∈ as := fun h => (List.of_mem_zip h).2
    rcases List.mem_cons.mp h1 with z1 | z1
    · cases z1
      rcases List.mem_cons.mp h2 with z2 | z2
      · cases z2; rfl
      · exact absurd (hin z2) nd'.1
    · rcases List.mem_cons.mp h2 with z2 | z2
      · cases z2
        exact absurd (hin z1) nd'.1
      · exact zip_snd_inj nd'.2 z1 z2
theorem start_nodct (avs : List AV) (n i : Nat) (kv : List (List Int × PyData)) (h : (startEv n avs)[i]? = some (Sl.dct kv)) : False := by
  unfold startEv at h
  by_cases hj : i < avs.length
  · rw [List.getElem?_append_left (by simpa using hj), List.getElem?_map] at h
    cases q : avs[i]? with
    | none => rw [q] at h; cases h
    | some a => rw [q] at h; cases a <;> cases h
  · rw [List.getElem?_append_right (by simp; omega)] at h
    simp only [List.length_map, List.getElem?_replicate] at h
    split at h <;> cases h
theorem start_rl {mg : Str → Option Value} {N : List Str} {vs : List V} {avs : List AV} (s : Same F H) (h : ArgsR K F H vs avs) (nd : (lentAs vs avs).Nodup) (hl : avs.length ≤ N.length) :
    Rl K { H0 := H, F0 := F, lent := (lsFrom 0 avs).zip (lentAs vs avs), mg := mg } F H (startEv N.length avs) (start N vs) := by
  have e1 := h.length
  have env_at : ∀ (j : Nat) (l : Bool) (ds : List PyData), (startEv N.length avs)[j]? = some (Sl.own l ds) → j < avs.length ∧ (avs.map slOf)[j]? = some (Sl.own l ds) := fun j l ds q => by
    unfold startEv at q
    by_cases hj : j < avs.length
    · rw [List.getElem?_append_left (by simpa using hj)] at q
      exact ⟨hj, q⟩
    · rw [List.getElem?_append_right (by simp; omega)] at q
      simp only [List.length_map, List.getElem?_replicate] at q
      split at q <;> cases q
  have st_at : ∀ j, j < avs.length → (start N vs)[j]? = (vs.map some)[j]? := fun j hj => by
    unfold start
    rw [List.getElem?_append_left (by simp; omega)]
  refine ⟨?_, s, fun j => ?_, fun i j l m ds es a h1 h2 h3 h4 => ?_, fun _ _ h => h, fun b x q => .inl q, fun b x q _ => q, fun b q => q, fun i ds a h1 h2 => ?_, fun i ds a h1 h2 => ?_, fun p hp => ?_, fun i j kv kw a h1 => (start_nodct avs N.length i kv h1).elim, fun i kv a h1 => (start_nodct avs N.length i kv h1).elim⟩
  · unfold startEv start
    simp only [List.length_append, List.length_map, List.length_replicate]
    omega
  · by_cases hj : j < avs.length
    · rw [st_at j hj]
      unfold startEv
      rw [List.getElem?_append_left (by simpa using hj)]
      exact start_sl avs vs j h
    · unfold startEv
      rw [List.getElem?_append_right (by simp; omega)]
      simp only [List.getElem?_replicate]
      split <;> trivial
  · obtain ⟨l1, g1⟩ := env_at i l ds h1
    obtain ⟨l2, g2⟩ := env_at j m es h2
    rw [st_at i l1] at h3
    rw [st_at j l2] at h4
    have k1 := (start_own avs vs 0 i l ds a h g1 h3).2
    have k2 := (start_own avs vs 0 j m es a h g2 h4).2
    have := zip_snd_inj nd k1 k2
    omega
  · obtain ⟨l1, g1⟩ := env_at i false ds h1
    rw [st_at i l1] at h2
    cases (start_own avs vs 0 i false ds a h g1 h2).1
  · obtain ⟨l1, g1⟩ := env_at i true ds h1
    rw [st_at i l1] at h2
    exact ⟨_, (start_own avs vs 0 i true ds a h g1 h2).2, rfl⟩
  · obtain ⟨j, g1, g2⟩ := lent_at avs vs 0 p h ((List.append_nil _).subst (motive := fun l => p ∈ l) hp)
    have hj : j < avs.length := by
      have := (List.getElem?_eq_some_iff.mp g2).1
      simp at this
      omega
    have e : p.1 = j := by omega
    rw [e, st_at j hj]
    exact g2
/-- the lent lists at the end -/
theorem outs_at {env : Ev} {σ : St} (R : Rl K B F H env σ) : ∀ (is : List Nat) (as : List Addr) (outs : List (List PyData)), is.length = as.length → (∀ p ∈ is.zip as, p ∈ B.lent) → outsOf env is = some outs → OutsR K F H as outs
  | [], [], outs, _, _, e => by
    simp only [outsOf, Option.some.injEq] at e
    subst e
    exact .nil
  | [], _ :: _, _, hl, _, _ => by cases hl
  | _ :: _, [], _, hl, _, _ => by cases hl
  | i :: is, a :: as, outs, hl, hm, e => by
    simp only [outsOf] at e
    split at e
    · rename_i ds e0
      simp only [Option.map_eq_some_iff] at e
      obtain ⟨o, e1, rfl⟩ := e
      obtain ⟨b, ws, g1, g2, g3, g4⟩ := R.ownSl e0
      have g5 := R.lsl (i, a) (List.mem_append_left _ (hm _ List.mem_cons_self))
      rw [g1] at g5
      cases g5
      exact .cons ⟨ws, g2, g3, g4⟩ (outs_at R is as o (by simpa using hl) (fun p hp => hm p (List.mem_cons_of_mem _ hp)) e1)
    · cases e
theorem ret_at {env : Ev} {σ : St} {v : V} {r : Rs} {x : Rv} (R : Rl K B F H env σ) (q : Res K B F H env σ v r) (e : retV env r = some x) : RvR K B.H0 F H v x := by
  cases r with
  | val d =>
    cases e
    exact q
  | tmp ds =>
    cases e
    obtain ⟨p, vs, h1, h2, h3, h4, h5, h6⟩ := q
    exact ⟨p, vs, h1, h2, h3, h4, h6⟩
  | slot i =>
    simp only [retV] at e
    have q' : σ[i]? = some (some v) := q
    split at e
    · rename_i d e0
      cases e
      have s := R.sl i
      rw [e0] at s
      obtain ⟨w, h1, h2⟩ := s
      rw [q'] at h1
      cases h1
      exact h2
    · rename_i ds e0
      cases e
      obtain ⟨a, ws, g1, g2, g3, g4⟩ := R.ownSl e0
      rw [q'] at g1
      cases g1
      exact ⟨a, ws, rfl, g2, g3, R.own0 i ds a e0 q', g4⟩
    · cases e
end
section
variable {P : Program} {w : World} {K : PySem.W.Frag} {mg : Str → Option Value} {base : Heap}
theorem aft_of {F H F' H' : Hp} {vs : List V} {avs : List AV} {env : Ev} {σ : St} {outs : List (List PyData)} (h : ArgsR K F H vs avs) (R : Rl K { H0 := H, F0 := F, lent := (lsFrom 0 avs).zip (lentAs vs avs), mg := mg } F' H' env σ) (e : outsOf env (lsFrom 0 avs) = some outs) :
    Aft K F H (lentAs vs avs) F' H' outs :=
  ⟨R.sub0, R.sub, fun b x q n => R.frm b x q fun p hp z => n (by rw [← z]; exact (List.of_mem_zip hp).2), R.dom, R.new, outs_at R _ _ _ (lsFrom_len vs avs 0 vs h) (fun p hp => hp) e⟩
theorem tk0 {X : Cx} : L2N.Takes X (fun _ _ _ _ => False) := fun u s' ⟨_, _, _, _, _, _, _, _, h⟩ => h.2.2.2.2.2.2.2.2.elim
theorem fun_okN {x qual : Str} {st : Stmt} {f : Addr} {fd : FuncData} {N ps : List Str} {k : Nat} {sp : Sp} (F : Fun K x qual st f fd) (S : FnScope N ps (defScope st)) (len : ∀ vs H Q E, sp vs H Q E → vs.length = ps.length)
    (body : ∀ (cdv : Value) (A : Around) (outer : List Env) (s : Shared) (H : Hp) (vs : List V) (Q : VK) (E : XK), Room k (A.deeper (envOfC qual (defScope st) s.heap.objs.size f cdv)) → sp vs H Q E →
      ∃ t, PSs (cxOf (L2N.CX P w) P w K mg base N qual (defScope st) f cdv A outer s H E) (defBody st) t ∧ t { nx := fun _ H' => Q .non H', rt := Q } (start N vs) H) : FnOk P w K mg base (L2N.CX P w) (k + 1) f fd ps sp := by
  obtain ⟨_, _, _, _, _, _, c, _, _, e, l, h⟩ := F.ex
  subst e
  exact fn_of l h S len fun A outer s H vs Q E r q => body c A outer s H vs Q E r q
/-- THE RULE for a def -/
theorem def_ok {x qual : Str} {st : Stmt} {f : Addr} {fd : FuncData} {N ps : List Str} {k : Nat} (F : Fun K x qual st f fd) (S : FnScope N ps (defScope st)) {ls : List Nat} {spec : Spc} {wb : WS}
    (hbody : ∀ (cdv : Value) (A : Around) (outer : List Env) (s : Shared) (H : Hp) (E : XK) (B : Bs), Room k (A.deeper (envOfC qual (defScope st) s.heap.objs.size f cdv)) → B.mg = mg → B.all.map (·.1) = ls →
      L2N.Takes (cxOf (L2N.CX P w) P w K mg base N qual (defScope st) f cdv A outer s H E) (fun cls d _ H => E cls d H) →
      PassesOwn (model P w) (A.deeper (envOfC qual (defScope st) s.heap.objs.size f cdv)) (envOfC qual (defScope st) s.heap.objs.size f cdv) (cxOf (L2N.CX P w) P w K mg base N qual (defScope st) f cdv A outer s H E).xe →
      DSs B (fun cls d _ H => E cls d H) (cxOf (L2N.CX P w) P w K mg base N qual (defScope st) f cdv A outer s H E) (defBody st) wb)
    (vc : ∀ avs Kr Kx, avs.length = ps.length → spec avs Kr Kx → lsFrom 0 avs = ls ∧ wb (startEv N.length avs) (kenD ls Kr Kx)) : FnOk P w K mg base (L2N.CX P w) (k + 1) f fd ps (low K mg ps.length spec) := by
  refine fun_okN F S (fun vs H Q E h => ?_) (fun cdv A outer s H vs Q E hr h => ?_)
  · obtain ⟨F0, avs, Kr, Kx, h1, h2, h3, h4, h5⟩ := h
    rw [h2.length, h4]
  · obtain ⟨F0, avs, Kr, Kx, h1, h2, h3, h4, h5, h6, h7⟩ := h
    obtain ⟨v1, v2⟩ := vc avs Kr Kx h4 h5
    have hN : avs.length ≤ N.length := by
      rw [h4, ← S.pre, List.length_take]
      exact Nat.min_le_right _ _
    have R0 := start_rl (mg := mg) (N := N) h1 h2 h3 hN
    have hl := lsFrom_len vs avs 0 vs h2
    have bd := hbody cdv A outer s H E { H0 := H, F0 := F0, lent := (lsFrom 0 avs).zip (lentAs vs avs), mg := mg } hr rfl (by show List.map Prod.fst ((lsFrom 0 avs).zip (lentAs vs avs) ++ []) = ls; rw [List.append_nil, ← v1, List.map_fst_zip (by omega)]) (L2N.takes_of rfl rfl rfl rfl) (passes_of rfl)
    refine ⟨_, bd.pss, F0, startEv N.length avs, kenD ls Kr Kx, R0, v2, fun σ env y cls d F' H' ⟨outs, e1, k1⟩ R' xr => ?_, fun σ' env' F' H' R' _ ⟨outs, e1, k1⟩ => ?_, fun v σ' env' r F' H' R' res ⟨outs, rv, e1, e2, k1⟩ => ?_, fun _ _ _ _ _ _ z => z.elim, fun _ _ _ _ _ _ z => z.elim⟩
    · exact h7 outs y cls d F' H' (aft_of h2 R' (by rw [v1]; exact e1)) xr k1
    · exact h6 outs (.val .none) F' H' .non (aft_of h2 R' (by rw [v1]; exact e1)) .non k1
    · exact h6 outs rv F' H' v (aft_of h2 R' (by rw [v1]; exact e1)) (ret_at R' res e2) k1
theorem cal_of {x : Str} {st : Stmt} {qual : Str} {f : Addr} {fd : FuncData} {ps : List Str} {k : Nat} {spec : Spc} (F : Fun K x qual st f fd) (hm : mg x = some (.ref f)) (hb : Binds K fd ps []) (h : FnOk P w K mg base (L2N.CX P w) k f fd ps (low K mg ps.length spec)) : Cal P w K mg base k x ps.length spec :=
  ⟨f, fd, ps, rfl, hm, F.kp, hb, h⟩
theorem Cal.mono {j k n : Nat} {x : Str} {S : Spc} (c : Cal P w K mg base j x n S) (h : j ≤ k) : Cal P w K mg base k x n S := by
  obtain ⟨f, fd, ps, h0, h1, h2, h3, h4⟩ := c
  exact ⟨f, fd, ps, h0, h1, h2, h3, h4.mono h⟩
/-- a weaker promise -/
theorem Cal.imp {k n : Nat} {x : Str} {S S' : Spc} (c : Cal P w K mg base k x n S) (h : ∀ avs Kr Kx, S' avs Kr Kx → S avs Kr Kx) : Cal P w K mg base k x n S' := by
  obtain ⟨f, fd, ps, h0, h1, h2, h3, h4⟩ := c
  exact ⟨f, fd, ps, h0, h1, h2, h3, h4.imp fun vs H Q E ⟨F, avs, Kr, Kx, g1, g2, g3, g4, g5, g6⟩ => ⟨F, avs, Kr, Kx, g1, g2, g3, g4, h _ _ _ g5, g6⟩⟩
end
/-- a place that is not lent -/
theorem nl {B : Bs} {ls : List Nat} (h : B.all.map (·.1) = ls) {i : Nat} (n : i ∉ ls) : ∀ p ∈ B.all, p.1 ≠ i := fun p hp e => n (by rw [← h, ← e]; exact List.mem_map_of_mem hp)
theorem nls {B : Bs} {ls : List Nat} (h : B.all.map (·.1) = ls) {vs : List Nat} (n : ∀ i ∈ ls, i ∉ vs) : ∀ p ∈ B.all, p.1 ∉ vs := fun p hp => n _ (by rw [← h]; exact List.mem_map_of_mem hp)

/-! ### the law -/
/-- the law's promise: from a script of at most 63 ints: True -/
def spLaw : Spc := fun avs Kr _ => ∃ ns : List Int, avs = [.val (.list (ns.map .int))] ∧ ns.length ≤ 63 ∧ Kr [] (.val (.bool true))
end Dl
end L2

/-! The D layer, 12: sorted, sets. -/
namespace L2
namespace Dl
open PySem PySem.Spec PyProof.Rows
theorem sqT_mono {K : PySem.W.Frag} {F H : Hp} {a : Addr} {xs : List V} (h : SqT K F a xs) (s : Same F H) : SqT K H a xs := sqT_same s h
def dLe : PyData → PyData → Bool := PySem.W.dataLe false id
def Srts (ds : List PyData) : Prop := PySem.W.AllAlike ds ∧ PySem.W.Sortable ds ∧ ∀ d ∈ ds, SeqAt.shaped d = true
def oSorted : OpN := fun ds K => match ds with
  | [.list xs] => Srts xs ∧ K (.tmp (xs.mergeSort dLe))
  | [.tuple xs] => Srts xs ∧ K (.tmp (xs.mergeSort dLe))
  | _ => False
section
open PySem.Calls PySem.Builtin PySem.Builtin.List
variable {prog : Program} {w : World} {A : Around} {E : Value → Shared → Prop} {s : Shared}
/-- a tuple's items, on a new list -/
theorem collectT {l : Addr} {vs : List Value} {Q : List Value → Shared → Prop} (hl : s.heap.IsTuple l vs.toArray)
    (h : Q vs { s with heap := (s.heap.push (seqObj "list" #[] 0)).update s.heap.objs.size (Obj.mapSeq (· ++ vs.toArray)) }) (hsz : vs.length ≤ sizeLine) :
    wpAny (model prog w) A (collect (.ref l)) Q E s := by
  obtain ⟨o, ho, hc, n, hd⟩ := id hl
  unfold collect
  refine wpAny_bind (wpAny_runValue (codeAny_builtin entry_proto_collect' ?_))
  show wpAny _ _ (do again (.builtin "list.__iadd__" ⟨[← newList [], .ref l], []⟩)) _ _ s
  refine wpAny_bind (wpAny_newList (wpAny_pure ⟨Code.quiet_builtin _ (by decide +kernel), codeAny_builtin entry_list_iadd' ?_⟩))
  show wpAny _ _ (Builtin.List.listExtendWith (.ref s.heap.objs.size) (.ref l) (.ref s.heap.objs.size)) _ _ { s with heap := s.heap.push (seqObj "list" #[] 0) }
  unfold Builtin.List.listExtendWith
  have ho' : (s.heap.push (seqObj "list" #[] 0)).get? l = some o := Heap.get?_push_of_some _ ho
  refine wpAny_bind (wpAny_typeOf (T := "tuple") ⟨o, ho', hc⟩ ?_)
  have ht : (Value.type "tuple" == Value.type "tuple") = true := by rfl
  rw [if_pos (by rw [ht]; simp)]
  refine wpAny_bind (listItems_at ho' hd ?_)
  refine wpAny_bind (listItems_at (xs := #[]) (n := 0) (Heap.get?_push_size _ rfl) rfl ?_)
  rw [if_neg (by simp)]
  refine wpAny_bind (listUpdate_at (xs := #[]) (n := 0) (Heap.get?_push_size _ rfl) rfl ?_ (Nat.zero_le _) (by show (#[] ++ vs.toArray).size ≤ sizeLine + 1; simp only [Array.size_append, List.size_toArray, List.length_nil]; omega))
  refine wpAny_pure ?_
  show wpAny (model prog w) A (do
      let o ← load s.heap.objs.size
      match o.data with
      | .seq xs _ => pure xs.toList
      | _ => unsupported "internal:collect") Q E { s with heap := (s.heap.push (seqObj "list" #[] 0)).update s.heap.objs.size (Obj.mapSeq (· ++ vs.toArray)) }
  refine wpAny_bind (wpAny_load (get?_update_seq (Heap.get?_push_size _ rfl) _) ?_)
  show wpAny _ _ (pure ((#[] : Array Value) ++ vs.toArray).toList) Q E _
  rw [show ((#[] : Array Value) ++ vs.toArray).toList = vs by simp]
  exact wpAny_pure h
/-- sorted(xs), xs a tuple -/
theorem sortedT {l : Addr} {vs : List Value} {ds : List PyData} {R : Value → PyData → Prop} {Q : Value → Shared → Prop} (hl : s.heap.IsTuple l vs.toArray) (e : PySem.W.EachIs R vs ds) (er : PySem.W.EachIs (fun v b => ∃ as, Reads s.heap v b as) vs ds) (hal : PySem.W.AllAlike ds) (hk : PySem.W.Sortable ds) (hL : ds.length ≤ sizeLine)
    (hu : ∀ b, b ∈ ds → A.units + 2 + b.depth < cLine) (h : ∀ out, out.length = ds.length → PySem.W.EachIs R out (ds.mergeSort (PySem.W.dataLe false id)) → Q (.ref (s.heap.objs.size + 1)) { s with heap := sortedAll s.heap vs (List.toArray out) }) :
    wpAny (model prog w) A (call (.builtin "sorted") [.ref l]) Q E s := by
  have hL2 : vs.length ≤ sizeLine := by rw [e.length]; exact hL
  have er' : PySem.W.EachIs (fun v b => ∃ as, Reads (PySem.W.sortingHeap (PySem.W.copyHeap s.heap vs) (s.heap.objs.size + 1) vs) v (id b) as) vs ds := er.mono fun _ _ ⟨as, r⟩ => ⟨as, PyProof.Rows.Reads.keeps (fun _ _ => PySem.W.sorting_copy_old) r⟩
  refine call_function_entry_kw kind_sorted plain_sorted entry_sorted (args_sorted1 _) ?_
  unfold Builtin.«sorted»
  refine wpAny_bind (m := checkCount "sorted" 1 1 _) (wpAny_pure ?_)
  refine wpAny_bind (collectT hl ?_ hL2)
  refine wpAny_bind (wpAny_newList ?_ hL2)
  have hsz : ((s.heap.push (seqObj "list" #[] 0)).update s.heap.objs.size (Obj.mapSeq (· ++ vs.toArray))).objs.size = s.heap.objs.size + 1 := by
    rw [Heap.size_update, size_push']
  show wpAny _ _ _ _ _ { s with heap := PySem.W.copyHeap s.heap vs }
  rw [hsz]
  refine wpAny_bind (wpAny_holding (wpAny_call_entry_kw slot_list_sort ⟨_, PySem.W.copyHeap_at s.heap vs, rfl⟩ entry_list_sort ?body (args_list_sort _)))
  case body =>
    show wpAny (model prog w) A.in1.in1 (Builtin.«list.sort» ⟨[.ref (s.heap.objs.size + 1)], []⟩) _ _ _
    refine wpAny_mono (PySem.W.list_sort_vals (s := { s with heap := PySem.W.copyHeap s.heap vs }) (P := fun f s' => f = .done (.ret .none) ∧ Q (.ref (s.heap.objs.size + 1)) s') (PySem.W.copyHeap_at s.heap vs) (PySem.W.SortsAt.data (s := { s with heap := PySem.W.sortingHeap (PySem.W.copyHeap s.heap vs) (s.heap.objs.size + 1) vs }) (PySem.W.each_map (R := fun v d => ∃ as, Reads (PySem.W.sortingHeap (PySem.W.copyHeap s.heap vs) (s.heap.objs.size + 1) vs) v d as) id er') (by rwa [List.map_id]) (by rwa [List.map_id]) (PySem.W.bound_map hu)) hL2 ⟨rfl, h _ (by rw [PySem.W.sortVals_length false rfl]; exact e.length) (PySem.W.sortVals_data false e er' (by rwa [List.map_id]))⟩) (fun f s' hf => ?_) fun _ _ e => e
    obtain ⟨rfl, hq⟩ := hf
    exact ⟨_, rfl, wpAny_pure ⟨_, rfl, hq⟩⟩
end
section
variable {X : Cx}
theorem each_out {K : PySem.W.Frag} {F : Hp} : ∀ {us : List Value} {ds : List PyData}, PySem.W.EachIs (fun v d => ∃ x, RelV x v ∧ Rp K F x d) us ds → ∃ xs, Vals xs us ∧ RpAll K F xs ds
  | _, _, .nil => ⟨[], .nil, .nil⟩
  | _, _, .cons ⟨x, h1, h2⟩ t => by
    obtain ⟨xs, a, b⟩ := each_out t
    exact ⟨x :: xs, .cons h1 a, .cons h2 b⟩
theorem each_in {K : PySem.W.Frag} {F : Hp} : ∀ {xs : List V} {us : List Value} {ds : List PyData}, Vals xs us → RpAll K F xs ds → PySem.W.EachIs (fun v d => ∃ x, RelV x v ∧ Rp K F x d) us ds
  | [], _, _, .nil, h => by cases h; exact .nil
  | x :: xs, _, _, .cons r t, h => by
    cases h with
    | cons a b => exact .cons ⟨x, r, a⟩ (each_in t b)
theorem each_mem {R : Value → PyData → Prop} {S : Value → PyData → Prop} : ∀ {us : List Value} {ds : List PyData}, (∀ v d, d ∈ ds → R v d → S v d) → PySem.W.EachIs R us ds → PySem.W.EachIs S us ds
  | _, _, _, .nil => .nil
  | _, _, h, .cons a t => .cons (h _ _ List.mem_cons_self a) (each_mem (fun v d m => h v d (List.mem_cons_of_mem _ m)) t)
theorem dcl_sorted (hu : X.A.units + 67 < cLine) : DCl X (.builtin "sorted") oSorted := by
  refine ⟨fun B F env pins s σ H xs us ds Kr I rx R hx q => ?_⟩
  unfold oSorted at q
  split at q
  · rename_i ds
    obtain ⟨⟨q1, q2, q3⟩, q4⟩ := q
    obtain ⟨v, rfl, hv⟩ := hx.one
    obtain ⟨a, vs, rfl, hs, ha⟩ := hv.list R.sub
    obtain ⟨its, rv, hl, hz⟩ := I.list hs
    rw [Vals.ref1 rx]
    have ev : vs.length = ds.length := ha.length
    have e1 := each_in rv ha
    have er : PySem.W.EachIs (fun v b => ∃ as, Reads s.heap v (id b) as) its ds := each_mem (fun v d hd ⟨x, h1, h2⟩ => Dp.reads I _ x v (Rt.dp R.sub (.inl h2) (q3 d hd)) h1) e1
    refine PySem.W.sorted_data (enc := id) (bs := ds) (vs := its) (R := fun v d => ∃ x, RelV x v ∧ Rp X.K F x d) hl.isList e1 er (by rwa [List.map_id]) (by rwa [List.map_id]) (by rw [← ev]; exact hz) (fun b hb => ?_) (fun out ho h1 => ?_)
    · have := SeqAt.depth_of_shaped (q3 b hb)
      show _ + 2 + b.depth < _
      omega
    · obtain ⟨ys, g1, g2⟩ := each_out h1
      obtain ⟨ep, he'⟩ := PyProof.Rows.sortedAll_at s.heap its out.toArray
      have hlen : ys.length ≤ sizeLine := by rw [g2.length, List.length_mergeSort, ← ev]; exact hz
      have hn : H (s.heap.objs.size + 1) = none := I.hok.fresh (Nat.le_succ _)
      obtain ⟨r, F', k1, k2, k3, k4, k5⟩ := new_lst (Kr := Kr) R hn g2 q4
      exact ⟨.ref _, r, F', upd H (s.heap.objs.size + 1) (.lst ys), I.laid (t' := s.toks) (fun _ _ => PyProof.Rows.sortedAll_old) (Nat.le_succ _) ⟨hlen, out, ep, g1, he'⟩, rfl, k1, k2, k3, k4, k5⟩
  · rename_i ds
    obtain ⟨⟨q1, q2, q3⟩, q4⟩ := q
    obtain ⟨v, rfl, hv⟩ := hx.one
    obtain ⟨a, vs, rfl, hs, ha⟩ := hv.tuple R.sub
    obtain ⟨its, rv, hl, hz⟩ := I.tuple hs
    rw [Vals.ref1 rx]
    have ev : vs.length = ds.length := ha.length
    have e1 := each_in rv ha
    have er : PySem.W.EachIs (fun v b => ∃ as, Reads s.heap v (id b) as) its ds := each_mem (fun v d hd ⟨x, h1, h2⟩ => Dp.reads I _ x v (Rt.dp R.sub (.inl h2) (q3 d hd)) h1) e1
    refine sortedT (ds := ds) (vs := its) (R := fun v d => ∃ x, RelV x v ∧ Rp X.K F x d) (show s.heap.IsTuple a its.toArray from hl) e1 er q1 q2 (by rw [← ev]; exact hz) (fun b hb => ?_) (fun out ho h1 => ?_)
    · have := SeqAt.depth_of_shaped (q3 b hb)
      show _ + 2 + b.depth < _
      omega
    · obtain ⟨ys, g1, g2⟩ := each_out h1
      obtain ⟨ep, he'⟩ := PyProof.Rows.sortedAll_at s.heap its out.toArray
      have hlen : ys.length ≤ sizeLine := by rw [g2.length, List.length_mergeSort, ← ev]; exact hz
      have hn : H (s.heap.objs.size + 1) = none := I.hok.fresh (Nat.le_succ _)
      obtain ⟨r, F', k1, k2, k3, k4, k5⟩ := new_lst (Kr := Kr) R hn g2 q4
      exact ⟨.ref _, r, F', upd H (s.heap.objs.size + 1) (.lst ys), I.laid (t' := s.toks) (fun _ _ => PyProof.Rows.sortedAll_old) (Nat.le_succ _) ⟨hlen, out, ep, g1, he'⟩, rfl, k1, k2, k3, k4, k5⟩
  · exact q.elim
end
theorem bt_len : bootBuiltins "len" = some (.builtin "len") := by decide +kernel
theorem bt_max : bootBuiltins "max" = some (.builtin "max") := by decide +kernel
theorem bt_sum : bootBuiltins "sum" = some (.builtin "sum") := by decide +kernel
theorem bt_all : bootBuiltins "all" = some (.builtin "all") := by decide +kernel
theorem bt_any : bootBuiltins "any" = some (.builtin "any") := by decide +kernel
theorem bt_sorted : bootBuiltins "sorted" = some (.builtin "sorted") := by decide +kernel
theorem bt_int : bootBuiltins "int" = some (.type "int") := by decide +kernel
theorem bt_list : bootBuiltins "list" = some (.type "list") := by decide +kernel
theorem bt_tuple : bootBuiltins "tuple" = some (.type "tuple") := by decide +kernel
theorem bt_bool : bootBuiltins "bool" = some (.type "bool") := by decide +kernel
theorem bt_set : bootBuiltins "set" = some (.type "set") := by decide +kernel
theorem bt_zip : bootBuiltins "zip" = some (.type "zip") := by decide +kernel
/-- a tuple of ints -/
def tupI (l : List Int) : PyData := .tuple (l.map .int)
def oSortSet (xs : List PyData) (K : Rs → Prop) : Prop := ∃ (L : List (List Int)) (d : Nat) (B : Int), xs = L.map tupI ∧ 1 ≤ d ∧ (∀ l ∈ L, l.length = d ∧ TS.Bd B l) ∧ L.length < 64 ∧
  ∀ M : List (List Int), M.Nodup → (∀ l, l ∈ M ↔ l ∈ L) → M.Pairwise (fun x y => TS.code B x ≤ TS.code B y) → K (.tmp (M.map tupI))
/-- an empty set -/
abbrev sO (w : World) : Obj := { cls := .type "set", dict := none, data := .set #[] 0 (.fresh 0 0 (!w.params.followText "set-order")) }
/-- set(xs), xs a tuple of tuples of ints -/
theorem set_tupT {P : Program} {w : World} {A : Around} {E : Value → Shared → Prop} {s : Shared} {l : Addr} {items : Array Value} (ks : List (Addr × List Int)) {Q : Value → Shared → Prop} (hh : A.handled = none) (hl : s.heap.IsTuple l items) (hit : items.toList = ks.map fun p => Value.ref p.1)
    (hk : ∀ p ∈ ks, IsT P w s.heap p.2 p.1) (hfew : ks.length < 64) (hu : A.units + 3 < cLine)
    (h : ∀ (h' : Heap) (tk : Nat) L es ep t, SetTR P w h' s.heap.objs.size L es ep t → Got ks ks.length L → (∀ b o, s.heap.get? b = some o → h'.get? b = some o) → Q (.ref s.heap.objs.size) { s with heap := h', toks := tk }) :
    wpAny (model P w) A (call (.type "set") [.ref l]) Q E s := by
  have hisz : items.size = ks.length := by
    have q := congrArg List.length hit
    rwa [Array.length_toList, List.length_map] at q
  obtain ⟨c, tl, hmro⟩ := F.called_set.mro
  have hmade := F.called_set.made
  have hsub := F.called_set.sub
  refine wpAny_call (codeAny_of_tree ?_)
  show wpAny _ _ (callAny (.type "set") _) _ _ _
  refine wpAny_pure ⟨Code.quiet_builtin _ (by decide +kernel), codeAny_builtin F.entry_type_call ?_⟩
  rw [Around.under_plain (weight_type_call_type "set" [.ref l] []) rfl]
  have h1 := F.called_set.notType
  have h2 := F.called_set.canCreate
  have hct := F.typeCall_set_1 (.ref l)
  repeat (any_goals (first | assumption | wp_step))
  refine codeAny_mono (code_set_led1 (.ref l) (E := E) (Q₁ := fun obj s₁ => obj = .ref s.heap.objs.size ∧ s₁ = { s with heap := s.heap.push (sO w) }) ⟨rfl, rfl⟩) fun r s₁ hr => ?_
  cases r with
  | error e => exact hr
  | ok fl =>
    cases fl with
    | ret obj =>
      obtain ⟨rfl, rfl⟩ := hr
      have hS : (s.heap.push (sO w)).get? s.heap.objs.size = some (sO w) := Heap.get?_push_size _ rfl
      have hT : Shared.TypeIs { s with heap := s.heap.push (sO w) } (.ref s.heap.objs.size) "set" := ⟨_, hS, rfl⟩
      have hli := F.called_set.init.lookup
      have hbi := F.called_set.init.bind (.ref s.heap.objs.size)
      repeat (any_goals (first | assumption | wp_step))
      refine codeAny_mono (codeAny_call_builtin (R := wants (fun r s₂ => r = .none ∧ ∃ h' tk L es ep t, s₂ = { s with heap := h', toks := tk } ∧ SetTR P w h' s.heap.objs.size L es ep t ∧ Got ks ks.length L ∧
          (∀ b o, s.heap.get? b = some o → h'.get? b = some o)) E) F.called_set.init.plain F.entry_set_init (check_set_init_1 hT ?_)) fun r₂ s₂ hr₂ => ?_
      · obtain ⟨ol, hol, hcl, nl, hdl⟩ := hl
        obtain ⟨ocls, odict, odata, oslots⟩ := ol
        simp only at hcl hdl
        subst hcl; subst hdl
        have hol' : (s.heap.push (sO w)).get? l = some { cls := .type "tuple", dict := odict, data := .seq items nl, slots := oslots } := Heap.get?_push_of_some _ hol
        have hsls := F.sub_tuple_set
        have hslf := F.sub_tuple_frozenset
        have hne : (Value.type "tuple" == Value.type "dict") = false := by decide
        have hl1 : (s.heap.push (sO w)).IsTuple l items := ⟨_, hol', rfl, nl, rfl⟩
        unfold Builtin.«set.__init__» noKeywords Builtin.Frozenset.updateFrom
        generalize hPI : pyIter = PI
        wp_walk
        subst hPI
        refine wpAny_pyIter_tuple hl1 ?_
        refine wpAny_bind (wpAny_runValue ?_)
        have hlS : l < s.heap.objs.size := Heap.lt_size hol
        have hh3 : A.in1.in1.in1.handled = none := by simp [hh]
        have hz1 : (s.heap.push (sO w)).objs.size = s.heap.objs.size + 1 := Heap.size_push ..
        have hneI : l ≠ (s.heap.push (sO w)).objs.size := by rw [Heap.size_push]; exact Nat.ne_of_lt (Nat.lt_succ_of_lt hlS)
        have hSf : s.heap.objs.size ∉ [(s.heap.push (sO w)).objs.size, l] := by
          rw [Heap.size_push]; simp only [List.mem_cons, List.mem_singleton, List.not_mem_nil, or_false, not_or]
          exact ⟨Nat.ne_of_lt (Nat.lt_succ_self _), Nat.ne_of_gt hlS⟩
        have hval : ∀ (i : Nat) (v : Value), items[i]? = some v → ∃ p, ks[i]? = some p ∧ v = .ref p.1 := fun i v hv => by
          have q : items.toList[i]? = some v := by rw [Array.getElem?_toList]; exact hv
          rw [hit, List.getElem?_map] at q
          cases hq : ks[i]? with
          | none => rw [hq] at q; cases q
          | some p =>
            rw [hq] at q
            exact ⟨p, rfl, (Option.some.inj q).symm⟩
        have none_of : ∀ b, s.heap.objs.size ≤ b → s.heap.get? b = none := fun b hb => by
          cases q : s.heap.get? b with
          | none => rfl
          | some o => exact absurd (Nat.lt_of_lt_of_le (Heap.lt_size q) hb) (Nat.lt_irrefl _)
        refine set_update_tups ((Walks.tuple hh3 _ l hneI items).toS) s.heap.objs.size
          hSf ks hisz hfew hval s.heap hk (none_of _ (Nat.le_refl _)) (fun b hb => none_of b (by
            rw [List.mem_singleton.mp hb, Heap.size_push]
            exact Nat.le_succ _)) hu (items.size - 0) 0 _ (by omega) (Nat.zero_le _)
          ⟨⟨_, Heap.get?_push_size _ rfl, rfl, rfl⟩, (hl1.push _)⟩ (fun b o e => Heap.get?_push_of_some _ (Heap.get?_push_of_some _ e)) ?hS0 ?hR
        case hS0 => exact ⟨[], #[], 0, _, setTR_fresh (Heap.get?_push_of_some _ hS), Got.zero ks⟩
        case hR =>
          intro s' L es ep t hm hS' g' hkp
          obtain ⟨h', g2, d', tk', os'⟩ := s'
          have eg : g2 = s.gens := hm.gens
          have ed : d' = s.drawn := hm.drawn
          have eo : os' = s.os := hm.os
          subst eg; subst ed; subst eo
          show wpAny _ _ _ _ _ _
          refine wpAny_pure ?_
          show wpAny _ _ (ret Value.none) _ _ _
          rw [hisz] at g'
          exact wpAny_pure ⟨rfl, h', tk', L, es, ep, t, rfl, hS', g', hkp⟩
      · cases r₂ with
        | error e => exact hr₂
        | ok fl₂ =>
          cases fl₂ with
          | ret r =>
            obtain ⟨rfl, h', tk, L, es, ep, t, rfl, hS', g', hk'⟩ := hr₂
            repeat (any_goals (first | assumption | wp_step))
            exact h _ _ _ _ _ _ hS' g' hk'
          | _ => exact hr₂.elim
    | _ => exact hr.elim
/-- set(xs), xs a list or a tuple of tuples of ints -/
def rSetLT (K : PySem.W.Frag) (P : Program) (w : World) : List V → Hp → VK → Prop := fun xs H Q => ∃ (l : Addr) (ks : List (Addr × List Int)), xs = [V.ref l] ∧ (SqL K H l (ks.map fun p => V.ref p.1) ∨ SqT K H l (ks.map fun p => V.ref p.1)) ∧ (∀ p ∈ ks, SqT K H p.1 (p.2.map V.int)) ∧ ks.length < 64 ∧
  ∀ a L, H a = none → (∀ p ∈ L, p ∈ ks) → (∀ p ∈ ks, p.2 ∈ L.map (·.2)) → Q (.ref a) (upd H a (SetTO P w a L))
theorem cr_setLT {X : Cx} (hc : X.calm = true) (hu : X.A.units + 64 < cLine) : CallR X (.type "set") (rSetLT X.K X.prog X.w) := by
  intro pins s σ H xs us Q I r h
  obtain ⟨l, ks, rfl, hl | hl, hk, hf, q⟩ := h
  · exact cr_setOfT hc hu pins s σ H [V.ref l] us Q I r ⟨l, ks, rfl, hl, hk, hf, q⟩
  · rw [Vals.ref1 r]
    obtain ⟨its, rv, pl, hz⟩ := I.tuple hl
    have hn : H s.heap.objs.size = none := I.hok.fresh (Nat.le_refl _)
    refine set_tupT (P := X.prog) (w := X.w) ks (I.ok.hd hc) (show s.heap.IsTuple l its.toArray from pl) (by simpa using refs_of_vals rv) (fun p hp => I.isT (hk p hp)) hf (by omega) fun h' tk L es ep t R g k => ?_
    refine ⟨.ref s.heap.objs.size, upd H s.heap.objs.size (SetTO X.prog X.w s.heap.objs.size L), I.laid (t' := tk) k (Nat.le_refl _) (setTO_new R.t0), rfl, q _ L hn (fun p hp => ?_) fun p hp => ?_⟩
    · exact List.mem_of_mem_take (g.sub p hp)
    · exact g.all p (by rw [List.take_length]; exact hp)
def wSortSet (w : WE) : WE := fun env Ke Kx => w env (fun env1 r => ∃ xs, (rd env1 r = some (.list xs) ∨ rd env1 r = some (.tuple xs)) ∧ oSortSet xs (Ke env1)) Kx
section
variable {B : Bs} {W : WX} {X : Cx} {e : Expr} {w : WE} {p p2 q pos : Pos}
theorem tups_at {K : PySem.W.Frag} {F H : Hp} (s : Same F H) : ∀ {vs : List V} {L : List (List Int)}, RpAll K F vs (L.map tupI) → ∃ ks : List (Addr × List Int), vs = ks.map (fun p => V.ref p.1) ∧ L = ks.map (·.2) ∧ ∀ p ∈ ks, F p.1 = some (.tup (p.2.map V.int))
  | _, [], h => by cases h; exact ⟨[], rfl, rfl, fun _ z => nomatch z⟩
  | _, l :: L, h => by
    cases h with
    | cons a b =>
      obtain ⟨ks, rfl, rfl, h3⟩ := tups_at s b
      cases a with
      | @tup ad xs ds h1 h2 =>
        have := h2.ints
        subst this
        exact ⟨(ad, l) :: ks, rfl, rfl, fun p hp => by
          rcases List.mem_cons.mp hp with z | z
          · subst z; exact h1
          · exact h3 p z⟩
theorem tups_to {K : PySem.W.Frag} {F : Hp} : ∀ {L : List (Addr × List Int)}, (∀ p ∈ L, F p.1 = some (.tup (p.2.map V.int))) → RpAll K F (L.map fun p => V.ref p.1) ((L.map (·.2)).map tupI)
  | [], _ => .nil
  | p :: L, h => .cons (.tup (h p List.mem_cons_self) (RpAll.of_ints _)) (tups_to fun q hq => h q (List.mem_cons_of_mem _ hq))
theorem de_sortSet (hu : X.A.units + 65 < cLine) (hc : X.calm = true) (hg : Gl X "sorted") (hm : X.mg "sorted" = none) (hg2 : Gl X "set") (hm2 : X.mg "set" = none) (ha : DE B W X e w)
    (na : starEach [e] X.env = (false, eval e X.env) :: starEach [] X.env := by rfl) : DE B W X (.Call (.Name "sorted" p) [.Call (.Name "set" p2) [e] [] q] [] pos) (wSortSet w) := by
  refine ⟨fun pins s σ F H env Ke Kx I R h hx => ?_⟩
  refine Call_ (ld_blt I hg hm bt_sorted ?_)
  refine PyProof.Rows.callWith_builtin1 (PyProof.Rows.args_cons ?_ rfl) rfl rfl
  refine Call_ (ld_blt I hg2 hm2 bt_set ?_)
  refine PyProof.Rows.callWith_type1 (PyProof.Rows.args_cons (thn (ha.run pins s σ F H env _ Kx I R h hx) fun u s1 ⟨v, env1, r, F1, H1, I1, rv, R1, f1, q1, n1, xs, e1, L, d, Bd, exs, hd, hL, hlen, k⟩ => PyProof.Rows.args_nil ?_) na) na rfl
  obtain ⟨a, vs, rfl, hs, hr⟩ : ∃ a vs, v = V.ref a ∧ (SqL X.K H1 a vs ∨ SqT X.K H1 a vs) ∧ RpAll X.K F1 vs xs := by
    rcases e1 with e1 | e1
    · obtain ⟨a, vs, rfl, hs, hr⟩ := (q1.rt R1 e1).list R1.sub
      exact ⟨a, vs, rfl, .inl hs, hr⟩
    · obtain ⟨a, vs, rfl, hs, hr⟩ := (q1.rt R1 e1).tuple R1.sub
      exact ⟨a, vs, rfl, .inr hs, hr⟩
  subst exs
  obtain ⟨ks, rfl, rfl, hk⟩ := tups_at R1.sub hr
  refine thn (cr_setLT hc (by omega) pins s1 σ H1 [.ref a] [u] (fun (y : V) (H2 : Hp) => ∃ (b : Addr) (M : List (Addr × List Int)), H1 b = none ∧ y = V.ref b ∧ H2 = upd H1 b (SetTO X.prog X.w b M) ∧ (∀ p ∈ M, p ∈ ks) ∧ ∀ p ∈ ks, p.2 ∈ M.map (·.2)) I1 (.cons rv .nil)
    ⟨a, ks, rfl, hs, fun p hp => sqT_mono (SqT.of (hk p hp)) R1.sub, by simpa using hlen, fun b M nb hM1 hM2 => ⟨b, M, nb, rfl, rfl, hM1, hM2⟩⟩) fun w s2 ⟨y, H2, I2, ry, b, M, nb, ey, eH, hM1, hM2⟩ => PyProof.Rows.args_nil ?_
  subst ey eH
  have R2 : Rl X.K B F1 (upd H1 b (SetTO X.prog X.w b M)) env1 σ := R1.lay nb
  have f2 : Fm env σ F H env1 F1 (upd H1 b (SetTO X.prog X.w b M)) := f1.trans (fm_lay nb)
  have hk2 : ∀ p ∈ M, F1 p.1 = some (.tup (p.2.map V.int)) := fun p hp => hk p (hM1 p hp)
  refine thn (cr_sortedT hc pins s2 σ _ [.ref b] [w] (fun v H' => ∃ r F', Rl X.K B F' H' env1 σ ∧ Fm env1 σ F1 (upd H1 b (SetTO X.prog X.w b M)) env1 F' H' ∧ Res X.K B F' H' env1 σ v r ∧ Nw (upd H1 b (SetTO X.prog X.w b M)) v r ∧ Ke env1 r) I2 (.cons ry .nil)
    ⟨b, M, d, Bd, rfl, upd_same, fun p hp => sqT_mono (SqT.of (hk2 p hp)) R2.sub, hd, fun p hp => hL p.2 (List.mem_map_of_mem (hM1 p hp)), fun L' p pm nd few pw np => ?_⟩) fun w s3 ⟨v, H3, I3, rv3, r, F3, g1, g2, g3, g4, g5⟩ => ?_
  · refine new_lst R2 np (tups_to fun p hp => hk2 p (pm.mem_iff.mp hp)) (k (L'.map (·.2)) nd (fun l => ?_) (List.pairwise_map.mpr pw))
    rw [(pm.map (·.2)).mem_iff]
    constructor
    · intro z
      obtain ⟨p, hp, rfl⟩ := List.mem_map.mp z
      exact List.mem_map_of_mem (hM1 p hp)
    · intro z
      obtain ⟨p, hp, rfl⟩ := List.mem_map.mp z
      exact hM2 p hp
  · exact DP.up f2 ⟨v, env1, r, F3, H3, I3, rv3, g1, g2, g3, g4, g5⟩
end
theorem noCX {P : Program} {w : World} {o : List Env} {H : Hp} {s : Shared} {e : Value} {s' : Shared} (h : L2N.CX P w o H s (fun _ _ _ => False) e s') : False := by
  obtain ⟨_, _, _, _, _, _, _, _, _, _, _, _, z⟩ := h
  exact z
def spTop (K : PySem.W.Frag) : Sp := fun vs H Q _ => ∃ (a : Addr) (ns : List Int), vs = [.ref a] ∧ ns.length ≤ 63 ∧ SqL K H a (ns.map V.int) ∧ ∀ v H', v = .bl true → Q v H'
theorem top_ok {P : Program} {w : World} {K : PySem.W.Frag} {mg : Str → Option Value} {base : Heap} {k : Nat} {f : Addr} {fd : FuncData} {ps : List Str} (h : FnOk P w K mg base (L2N.CX P w) k f fd ps (low K mg 1 spLaw)) : FnOk P w K mg base (L2N.CX P w) k f fd ps (spTop K) :=
  h.imp fun vs H Q E ⟨a, ns, e, hl, hS, q⟩ => by
    subst e
    refine ⟨H, [.val (.list (ns.map .int))], fun outs r => outs = [] ∧ r = .val (.bool true), fun _ _ => False, fun _ _ h => h, .val (.lst hS (RpAll.of_ints ns)) .nil, List.Pairwise.nil, rfl, ⟨ns, rfl, hl, rfl, rfl⟩, fun outs r F' H' v _ hv ⟨_, e⟩ => ?_, fun _ _ _ _ _ _ _ _ z => z.elim⟩
    subst e
    cases (show Rp K F' v (.bool true) from hv)
    exact q _ _ rfl
end Dl
theorem Room.u65 {k : Nat} {A : PySem.Around} (r : Room k A) : A.units + 65 < PySem.cLine := by have := r.un; omega
theorem Room.u67 {k : Nat} {A : PySem.Around} (r : Room k A) : A.units + 67 < PySem.cLine := by have := r.un; omega
end L2

/-! The D layer, 13: what is never come to; chains of comparisons; ranges as lists; zip, enumerate. -/
namespace L2
namespace Dl
open PySem PySem.Spec PyProof.Rows
def wNever : WS := fun _ _ => False
theorem ds_never {B : Bs} {W : WX} {X : Cx} {st : Stmt} : DS B W X st wNever := ⟨fun _ _ _ _ _ _ _ _ _ h _ => h.elim⟩
/-- the reading of a whole chain: a value -/
def wChain (o o' : Op2) (wa wb wc : WE) : WE := fun env Ke Kx => wa env (fun e1 r1 => wb e1 (fun e2 r2 => rdK e2 r1 fun d1 => rdK e2 r2 fun d2 => o d1 d2 (fun r3 => ∃ k, r3 = .val (.bool k) ∧
  if k = true then wc e2 (fun e4 r4 => rdK e4 r2 fun d3 => rdK e4 r4 fun d4 => o' d3 d4 (Ke e4)) Kx else Ke e2 (.val (.bool false)))) Kx) Kx
section
variable {B : Bs} {W : WX} {X : Cx} {pos : Pos} {a b c : Expr} {wa wb wc : WE}
theorem de_chain {op op' : CmpOp} {o o' : Op2} (ho : DOp X (compareOp op) o) (ho' : DOp X (compareOp op') o') (ha : DE B W X a wa) (hb : DE B W X b wb) (hc : DE B W X c wc)
    (hm : lastMarks [op, op'] [b, c] = false := by with_unfolding_all rfl) : DE B W X (.Compare a [op, op'] [b, c] pos) (wChain o o' wa wb wc) := by
  refine ⟨fun pins s σ F H env Ke Kx I R h hx => ?_⟩
  refine Compare_chain (thn (ha.run pins s σ F H env _ Kx I R h hx) fun v s1 ⟨x, env1, r1, F1, H1, I1, rx, R1, f1, q1, n1, h1⟩ => chain_link (thn (hb.run pins s1 σ F1 H1 env1 _ Kx I1 R1 h1 hx) fun u s2 ⟨y, env2, r2, F2, H2, I2, ry, R2, f2, q2, n2, h2⟩ => ?_)) hm
  obtain ⟨d1, e1, d2, e2, h2⟩ := h2
  refine thn (ho.run B F2 env2 pins s2 σ H2 x y v u d1 d2 _ I2 rx ry R2 ((q1.step f2).rt R2 e1) (q2.rt R2 e2) h2) fun w s3 ⟨z, r3, F3, H3, I3, rz, R3, f3, q3, n3, k, e3, h3⟩ => ?_
  subst e3
  cases (show Rp X.K F3 z (.bool k) from q3)
  cases rz
  refine wpAny_truthy_bool ?_
  cases k with
  | false =>
    refine ite_ff ?_
    exact (DP.up f1 (DP.up f2 (DP.up f3 ⟨.bl false, env2, .val (.bool false), F3, H3, I3, rfl, R3, Fm.refl, .bl _, trivial, h3⟩)))
  | true =>
    refine ite_tt (chain_last (thn (hc.run pins s3 σ F3 H3 env2 _ Kx I3 R3 h3 hx) fun w' s4 ⟨z', env4, r4, F4, H4, I4, rz4, R4, f4, q4, n4, h4⟩ => ?_))
    obtain ⟨d3, e3, d4, e4, h4⟩ := h4
    exact thn (ho'.run B F4 env4 pins s4 σ H4 y z' u w' d3 d4 _ I4 ry rz4 R4 ((q2.step (f3.trans f4)).rt R4 e3) (q4.rt R4 e4) h4) fun w5 s5 h5 => (((h5.dp.up f4).up f3).up f2).up f1
theorem dt_chain {op op' : CmpOp} {o o' : Op2} (ho : DOp X (compareOp op) o) (ho' : DOp X (compareOp op') o') (ha : DE B W X a wa) (hb : DE B W X b wb) (hc : DE B W X c wc)
    (hm : lastMarks [op, op'] [b, c] = false := by with_unfolding_all rfl) : DT B W X (.Compare a [op, op'] [b, c] pos) (wTB (wChain o o' wa wb wc)) := by
  refine ⟨fun pins s σ F H env Kt Kx I R h hx => ?_⟩
  refine isTrue_chain (thn (ha.run pins s σ F H env _ Kx I R h hx) fun v s1 ⟨x, env1, r1, F1, H1, I1, rx, R1, f1, q1, n1, h1⟩ => test_link (thn (hb.run pins s1 σ F1 H1 env1 _ Kx I1 R1 h1 hx) fun u s2 ⟨y, env2, r2, F2, H2, I2, ry, R2, f2, q2, n2, h2⟩ => ?_)) hm
  obtain ⟨d1, e1, d2, e2, h2⟩ := h2
  refine thn (ho.run B F2 env2 pins s2 σ H2 x y v u d1 d2 _ I2 rx ry R2 ((q1.step f2).rt R2 e1) (q2.rt R2 e2) h2) fun w s3 ⟨z, r3, F3, H3, I3, rz, R3, f3, q3, n3, k, e3, h3⟩ => ?_
  subst e3
  cases (show Rp X.K F3 z (.bool k) from q3)
  cases rz
  refine wpAny_truthy_bool ?_
  cases k with
  | false =>
    obtain ⟨k', e', h3⟩ := h3
    cases e'
    refine ite_ff ?_
    exact (DPT.up f1 (DPT.up f2 (DPT.up f3 ⟨env2, F3, H3, I3, R3, Fm.refl, h3⟩)))
  | true =>
    refine ite_tt (test_last (thn (hc.run pins s3 σ F3 H3 env2 _ Kx I3 R3 h3 hx) fun w' s4 ⟨z', env4, r4, F4, H4, I4, rz4, R4, f4, q4, n4, h4⟩ => ?_))
    obtain ⟨d3, e3, d4, e4, h4⟩ := h4
    refine thn (ho'.run B F4 env4 pins s4 σ H4 y z' u w' d3 d4 _ I4 ry rz4 R4 ((q2.step (f3.trans f4)).rt R4 e3) (q4.rt R4 e4) h4) fun w5 s5 h5 => ?_
    exact tb_end ((((h5.dp.up f4).up f3).up f2).up f1)
/-! ranges as lists, tuples -/
def rgD (i j : Int) : List PyData := (List.range (j - i).toNat).map fun (m : Nat) => PyData.int (i + m)
def rgK (i j : Int) (K : List PyData → Prop) : Prop := RgOk i j ∧ K (rgD i j)
def wLR1 (tup : Bool) (w : WE) : WE := fun env Ke Kx => w env (fun e r => ∃ j, r = .val (.int j) ∧ rgK 0 j fun ds => Ke e (if tup = true then .val (.tuple ds) else .tmp ds)) Kx
def wLR2 (tup : Bool) (wa wb : WE) : WE := fun env Ke Kx => wa env (fun e1 r1 => wb e1 (fun e2 r2 => ∃ i, r1 = .val (.int i) ∧ ∃ j, r2 = .val (.int j) ∧ rgK i j fun ds => Ke e2 (if tup = true then .val (.tuple ds) else .tmp ds)) Kx) Kx
theorem rgRp {K : PySem.W.Frag} {F : Hp} (i j : Int) : RpAll K F (rgV i j) (rgD i j) := by
  have : ∀ l : List Nat, RpAll K F (l.map fun (m : Nat) => V.int (i + (m : Nat))) (l.map fun (m : Nat) => PyData.int (i + m)) := by
    intro l
    induction l with
    | nil => exact .nil
    | cons x l ih => exact .cons (.int _) ih
  exact this _
theorem de_lstR1 {p q pos2 : Pos} (hc : X.calm = true) (hg : Gl X "list") (hm : X.mg "list" = none) (hg2 : Gl X "range") (hm2 : X.mg "range" = none) (ha : DE B W X a wa)
    (na : starEach [a] X.env = (false, eval a X.env) :: starEach [] X.env := by rfl) (na2 : starEach [.Call (.Name "range" q) [a] [] pos2] X.env = (false, eval (.Call (.Name "range" q) [a] [] pos2) X.env) :: starEach [] X.env := by rfl) :
    DE B W X (.Call (.Name "list" p) [.Call (.Name "range" q) [a] [] pos2] [] pos) (wLR1 false wa) := by
  refine ⟨fun pins s σ F H env Ke Kx I R h hx => ?_⟩
  have pe := pe_listRg (pos := pos) (p := p) hc hg hm (prg_1 (p := q) (pos := pos2) hg2 hm2 ha.pe na) na2
  refine thn (pe.run pins s σ H (fun v H' => ∃ env' r F', Rl X.K B F' H' env' σ ∧ Fm env σ F H env' F' H' ∧ Res X.K B F' H' env' σ v r ∧ Nw H v r ∧ Ke env' r) I ?_) fun u s1 ⟨v, H', I', rv, env', r, F', h1, h2, h3, h4, h5⟩ => ⟨v, env', r, F', H', I', rv, h1, h2, h3, h4, h5⟩
  refine ⟨F, env, _, Kx, R, h, hx, fun v env1 r F1 H1 R1 f1 q1 n1 ⟨j, e, k1, k2⟩ => ?_⟩
  subst e
  cases (show Rp X.K F1 v (.int j) from q1)
  refine ⟨j, rfl, k1, fun p hp => ?_⟩
  obtain ⟨r, F2, g1, g2, g3, g4, g5⟩ := new_lst (Kr := Ke env1) R1 hp (rgRp 0 j) k2
  exact ⟨env1, r, F2, g1, f1.trans g2, g3, g4.up f1.dom, g5⟩
end
end Dl
end L2

/-! The D layer, 14: x[::-1], {}. -/
namespace L2
namespace Dl
open PySem PySem.Spec PyProof.Rows HT
section
variable {prog : Program} {w : World} {A : Around} {E : Value → Shared → Prop} {s : Shared}
theorem applied_rev {sl : Addr} {vk : Value} {n : Nat} {Q : Int × Int × Nat → Shared → Prop} (hs : s.heap.IsSliceOf sl .none .none vk) (pk : IsPart vk (some (-1)))
    (h : Q ((n : Int) - 1, -1, n) s) : wpAny (model prog w) A (Builtin.Slice.sliceApplied (.ref sl) (pure (n : Int))) Q E s := by
  obtain ⟨ob, g1, g2, g3⟩ := id hs
  have places : Builtin.Slice.slicePlaces ((n : Int) - 1) (-1) (-1) = n := by
    unfold Builtin.Slice.slicePlaces
    have a1 : ¬ ((-1 : Int) > 0) := by decide
    simp only [a1, if_false]
    split
    · rw [show (- -1 : Int) = 1 by decide, Int.ediv_one]
      omega
    · omega
  unfold Builtin.Slice.sliceApplied Builtin.Slice.sliceFields
  refine wpAny_bind (wpAny_bind (wpAny_field g1 g3 (x := .none) rfl (wpAny_bind (wpAny_field g1 g3 (x := .none) rfl (wpAny_bind (wpAny_field g1 g3 (x := vk) rfl (wpAny_pure ?_)))))))
  refine wpAny_bind (slicePart_ pk ?_)
  show wpAny _ _ (if ((-1 : Int) == 0) = true then _ else _) _ _ s
  rw [if_neg (by decide)]
  refine wpAny_bind (slicePart_none (wpAny_bind (slicePart_none (wpAny_bind (wpAny_pure ?_)))))
  show wpAny _ _ (pure ((n : Int) - 1, (-1 : Int), Builtin.Slice.slicePlaces ((n : Int) - 1) (-1) (-1))) _ _ s
  rw [places]
  exact wpAny_pure h
theorem fm_congr {α β : Type} {f g : α → Option β} : ∀ {l : List α}, (∀ x ∈ l, f x = g x) → l.filterMap f = l.filterMap g
  | [], _ => rfl
  | x :: l, h => by
    rw [List.filterMap_cons, List.filterMap_cons, h x List.mem_cons_self, fm_congr fun y hy => h y (List.mem_cons_of_mem _ hy)]
theorem pick_rev (xs : Array Value) : ((List.range xs.size).filterMap fun (m : Nat) => xs[(((xs.size : Nat) : Int) - 1 + (m : Int) * (-1)).toNat]?).toArray = xs.toList.reverse.toArray := by
  have e : ∀ m ∈ List.range xs.size, xs[(((xs.size : Nat) : Int) - 1 + (m : Int) * (-1)).toNat]? = xs[xs.size - 1 - m]? := by
    intro m hm
    have := List.mem_range.mp hm
    have : (((xs.size : Nat) : Int) - 1 + (m : Int) * (-1)).toNat = xs.size - 1 - m := by omega
    rw [this]
  rw [fm_congr e]
  have q := PySem.W.krv_range xs.size
  have r : (List.range xs.size).filterMap (fun m => xs[xs.size - 1 - m]?) = ((List.range xs.size).map fun k => xs.size - 1 - k).filterMap (xs[·]?) := by
    rw [List.filterMap_map]; rfl
  rw [r, q, List.filterMap_reverse, PySem.W.krv_all]
theorem item_tup_rev {t sl : Addr} {items : Array Value} {vk : Value} {Q : Value → Shared → Prop} (hT : IsTup s.heap t items) (hs : s.heap.IsSliceOf sl .none .none vk) (pk : IsPart vk (some (-1)))
    (h : Q (.ref s.heap.objs.size) { s with heap := s.heap.push { cls := .type "tuple", data := .seq items.toList.reverse.toArray } }) (hz : items.size ≤ sizeLine) : wpAny (model prog w) A (getItem (.ref t) (.ref sl)) Q E s := by
  have fit : sizeOk (.seq items.toList.reverse.toArray) := by
    show items.toList.reverse.toArray.size ≤ sizeLine
    rw [List.size_toArray, List.length_reverse, Array.length_toList]
    exact hz
  obtain ⟨ob, g1, g2, g3⟩ := id hs
  have isSl : s.TypeIs (.ref sl) "slice" := ⟨ob, g1, g2⟩
  unfold getItem
  try with_reducible refine wpAny_holding ?_
  first | refine wpAny_bind (wpAny_pure ?_) | skip
  refine wpAny_bind (wpAny_sequenceKey hT.typeIs (by decide) (wpAny_bind (wpAny_callSpecial?_slot (name := Str.ofString "__getitem__") hT.typeIs PyProof.Rows.slot_tuple_getitem
    (wpAny_call_entry PyProof.Rows.slot_tuple_getitem hT.typeIs entry_tuple_getitem ?_ (args_tuple_getitem _ _)))))
  show wpAny _ _ (Builtin.Tuple.tupleItemsOf (.ref t) >>= _) _ _ s
  refine wpAny_bind (tupleItemsOf_ hT (wpAny_bind (wpAny_typeOf isSl ?_)))
  rw [if_pos (by decide)]
  refine wpAny_bind (applied_rev hs pk ?_)
  have no : ¬ ((((items.size : Nat) : Int) - 1 == 0 && (-1 : Int) == 1 && items.size == items.size) = true) := by
    intro q
    rw [Bool.and_eq_true, Bool.and_eq_true] at q
    exact absurd q.1.2 (by decide)
  show wpAny _ _ (if (((items.size : Nat) : Int) - 1 == 0 && (-1 : Int) == 1 && items.size == items.size) = true then _ else _) _ _ s
  rw [if_neg no, pick_rev]
  first
    | exact wpAny_bind (m := Builtin.Tuple.tupleExact _) (wpAny_newObj_type (wpAny_pure ⟨_, rfl, wpAny_pure h⟩) fit)
    | exact wpAny_bind (m := Builtin.Tuple.tupleExact _) (wpAny_newObj_type (wpAny_bind (wpAny_pure (wpAny_pure ⟨_, rfl, wpAny_pure h⟩))) fit)
    | exact wpAny_bind (wpAny_bind (m := Builtin.Tuple.tupleExact _) (wpAny_newObj_type (wpAny_pure (wpAny_pure ⟨_, rfl, wpAny_pure h⟩)) fit))
    | exact wpAny_bind (wpAny_bind (m := Builtin.Tuple.tupleExact _) (wpAny_newObj_type (wpAny_pure ⟨_, rfl, wpAny_pure h⟩) fit))
end
theorem Vals.rev : ∀ {xs : List V} {us : List Value}, Vals xs us → Vals xs.reverse us.reverse := fun {xs us} h => by
  have app : ∀ {xs ys : List V} {us vs : List Value}, Vals xs us → Vals ys vs → Vals (xs ++ ys) (us ++ vs) := by
    intro xs
    induction xs with
    | nil => intro ys us vs h k; cases h; exact k
    | cons x xs ih =>
      intro ys us vs h k
      cases h with
      | cons a b => exact .cons a (ih b k)
  induction xs generalizing us with
  | nil => cases h; exact .nil
  | cons x xs ih =>
    cases h with
    | cons a b =>
      rw [List.reverse_cons, List.reverse_cons]
      exact app (ih b) (.cons a .nil)
/-- x[::-1] of a list, a tuple -/
def rvD (d : PyData) (K : Rs → Prop) : Prop := match d with
  | .list ds => K (.tmp ds.reverse)
  | .tuple ds => K (.val (.tuple ds.reverse))
  | _ => False
def wRev (wa : WE) : WE := fun env Ke Kx => wa env (fun e1 r1 => rdK e1 r1 fun d => rvD d (Ke e1)) Kx
section
variable {B : Bs} {W : WX} {X : Cx} {e : Expr} {w : WE} {pos p2 p3 p4 : Pos} {j : Nat}
theorem de_rev (ha : DE B W X e w) : DE B W X (.Subscript e (.Slice none none (some (.UnaryOp .USub (.Constant (.int 1) j p3) p4)) p2) pos) (wRev w) := by
  refine ⟨fun pins s σ F H env Ke Kx I R h hx => ?_⟩
  refine Subscript_ (thn (ha.run pins s σ F H env _ Kx I R h hx) fun v s1 ⟨x, env1, r1, F1, H1, I1, rx, R1, f1, q1, n1, d, e1, h1⟩ => ?_)
  refine wpAny_Slice ?_
  rw [evalPart_none]
  refine wpAny_pure (wpAny_pure ?_)
  have hk : DE B W X (.UnaryOp .USub (.Constant (.int 1) j p3) p4) (wNeg (wC (.int 1))) := de_neg de_int
  refine thn ((do_some hk).run pins s1 σ F1 H1 env1 (fun e o => e = env1 ∧ o = some (-1)) Kx I1 R1 ⟨1, rfl, -1, rfl, rfl, rfl⟩ hx) fun vk s2 ⟨o, env2, F2, H2, I2, pk, R2, f2, ee, eo⟩ => ?_
  subst ee eo
  have g := (q1.step f2).rt R2 e1
  have I4 : Inv X pins σ H2 { s2 with heap := s2.heap.push { cls := .type "slice", data := .fields #[.none, .none, vk] } } := I2.kept (t' := s2.toks) fun b ob q => Heap.get?_push_of_some _ q
  show wpAny (model X.prog X.w) X.A (subscriptTail e (.Slice none none (some (.UnaryOp .USub (.Constant (.int 1) j p3) p4)) p2) v (.ref s2.heap.objs.size)) (DP X B pins σ F H env Ke) X.xe { s2 with heap := s2.heap.push { cls := .type "slice", data := .fields #[.none, .none, vk] } }
  have hsl : ({ s2 with heap := s2.heap.push { cls := .type "slice", data := .fields #[.none, .none, vk] } } : Shared).heap.IsSliceOf s2.heap.objs.size .none .none vk := Heap.IsSliceOf.new ..
  have h1 : rvD d (Ke env2) := h1
  unfold rvD at h1
  split at h1
  · obtain ⟨p, vs, rfl, g3, g4⟩ := g.list R2.sub
    cases rx
    obtain ⟨its, rv, pl, hz⟩ := I4.list g3
    refine tail_any (ops := [.ref p, .ref s2.heap.objs.size]) pl.isList.typeIs slot_list_getitem.lookup ?_ (by with_unfolding_all rfl)
    refine wpAny_getItem_list_slice pl.isList hsl .none .none pk (by decide) ?_ (by rw [List.size_toArray, ← rv.length]; exact hz)
    rw [PySem.W.krv_pick]
    have hp : H2 (s2.heap.push { cls := .type "slice", data := .fields #[.none, .none, vk] }).objs.size = none := I4.hok.fresh (Nat.le_refl _)
    obtain ⟨r, F3, k1, k2, k3, k4, k5⟩ := new_lst (Kr := Ke env2) R2 hp g4.reverse h1
    refine DP.up (f1.trans f2) ⟨.ref _, env2, r, F3, _, I4.laid (t' := s2.toks) (o := .lst vs.reverse) (fun b ob q => Heap.get?_push_of_some _ q) (Nat.le_refl _) ?_, rfl, k1, k2, k3, k4, k5⟩
    exact ⟨by rw [List.length_reverse]; exact hz, its.reverse, 0, Vals.rev rv, by
      have := Heap.get?_push_size (s2.heap.push { cls := .type "slice", data := .fields #[.none, .none, vk] }) (o := { cls := .type "list", data := .seq (its.toArray.toList.reverse.toArray) }) rfl
      exact this⟩
  · obtain ⟨p, vs, rfl, g3, g4⟩ := g.tuple R2.sub
    cases rx
    obtain ⟨its, rv, pl, hz⟩ := I4.tuple g3
    refine tail_any (ops := [.ref p, .ref s2.heap.objs.size]) pl.typeIs PyProof.Rows.slot_tuple_getitem.lookup ?_ (by with_unfolding_all rfl)
    refine item_tup_rev pl hsl pk ?_ (by rw [List.size_toArray, ← rv.length]; exact hz)
    have hp : H2 (s2.heap.push { cls := .type "slice", data := .fields #[.none, .none, vk] }).objs.size = none := I4.hok.fresh (Nat.le_refl _)
    obtain ⟨r, F3, k1, k2, k3, k4, k5⟩ := new_tup (Kr := Ke env2) R2 hp g4.reverse h1
    refine DP.up (f1.trans f2) ⟨.ref _, env2, r, F3, _, I4.laid (t' := s2.toks) (o := .tup vs.reverse) (fun b ob q => Heap.get?_push_of_some _ q) (Nat.le_refl _) ?_, rfl, k1, k2, k3, k4, k5⟩
    exact ⟨by rw [List.length_reverse]; exact hz, its.reverse, Vals.rev rv, IsTup.new _ _⟩
  · exact h1.elim
/-- a module's whole number -/
theorem de_gint {x : Str} {v : Int} {p : Pos} (hm : ∃ t, X.mg x = some (.int v t)) (hg : Gl X x := by rfl) (hd : (x == ("__debug__" : Str)) = false := by decide) : DE B W X (.Name x p) (wC (.int v)) := by
  obtain ⟨t, h⟩ := hm
  exact de_glob (v := V.int v) hg h (show RelV (V.int v) (Value.int v t) from ⟨t, rfl⟩) (fun _ => .int v) hd
end
end Dl
end L2

/-! The D layer, 15: i in range(..); zip of two lists or two tuples; ranges with a step. -/
/-! zip of a list and a tuple -/
namespace L2
namespace Dl
section
open PySem PySem.Spec PyProof.Rows RZ
open PySem.Sem (wp)
section
variable {prog : Program} {w : World} {A : Around} {E : Value → Shared → Prop} {s : Shared}
theorem zipM_next_item {z TI TO i1 i2 l1 l2 : Addr} {k1 k2 : Nat} {xs ys : Array Value} {x y a b : Value} {Q : Value → Shared → Prop} (D : ZipApart z TI TO i1 i2 l1 l2)
    (hz : IsZip s.heap z TI TO .none) (hTI : IsPair s.heap TI (.ref i1) (.ref i2)) (hTO : IsPair s.heap TO a b)
    (h1 : s.heap.IsListIter i1 l1 k1) (h2 : s.heap.IsTupleIter i2 l2 k2) (hl1 : s.heap.IsList l1 xs) (hl2 : s.heap.IsTuple l2 ys) (hx : xs[k1]? = some x) (hy : ys[k2]? = some y)
    (hQ : ∀ h', IsZip h' z TI TO (rawInt s.heap.objs.size) → IsPair h' TO x y → h'.IsListIter i1 l1 (k1 + 1) → h'.IsTupleIter i2 l2 (k2 + 1) → IsPair h' s.heap.objs.size x y → h'.objs.size = s.heap.objs.size + 1 →
      (∀ c o, c ≠ z → c ≠ TO → c ≠ i1 → c ≠ i2 → s.heap.get? c = some o → h'.get? c = some o) → Q (.ref s.heap.objs.size) { s with heap := h' }) :
    wpAny (model prog w) A (Builtin.«zip.__next__» ⟨[.ref z], []⟩) (fun fin s' => ∃ v, fin = .done (.ret v) ∧ Q v s') E s := by
  show wpAny _ _ (field (.ref z) 2 >>= _) _ _ _
  refine wpAny_bind (wpAny_field hz rfl (x := .bool false) rfl ?_)
  show wpAny _ _ (field (.ref z) 3 >>= _) _ _ _
  refine wpAny_bind (wpAny_field hz rfl (x := .ref TI) rfl ?_)
  refine wpAny_bind (wpAny_seqItems hTI rfl ?_)
  show wpAny _ _ (Builtin.SmallTypes.ownedTupleIsFree (.ref z) >>= _) _ _ _
  refine wpAny_bind ?_
  unfold Builtin.SmallTypes.ownedTupleIsFree
  refine wpAny_bind (wpAny_field hz rfl (x := .none) rfl (wpAny_pure ?_))
  simp only [if_true]
  refine wpAny_bind (wpAny_rule ?_)
  refine wpAny_bind (wpAny_field hz rfl (x := .ref TO) rfl ?_)
  refine wpAny_bind (wpAny_setField_rec hz (by simp) fun h₁ hz₁ hs₁ => ?_)
  replace hz₁ : IsZip h₁ z TI TO .ellipsis := hz₁
  refine wpAny_bind ?_
  simp only [List.zipIdx_cons, List.zipIdx_nil, List.forIn_cons, List.forIn_nil]

  refine wpAny_bind (wpAny_bind (wpAny_onRaise ?_))
  show wpAny _ _ (Builtin.SmallTypes.nextOf (.ref i1) >>= _) _ _ _
  refine wpAny_bind (wpAny_nextOf_list_item (h1.extBut hs₁.extBut D.i1z) (hl1.extBut hs₁.extBut D.l1z) hx fun h₂ h1₂ hs₂ => wpAny_pure ?_)
  have hTO₂ : IsPair h₂ TO a b := hs₂.extBut _ _ D.TOi1 (hs₁.extBut _ _ D.TOz hTO)
  refine wpAny_bind (wpAny_seqItems hTO₂ rfl ?_)
  refine wpAny_bind (wpAny_updateSeq_pair hTO₂ fun h₃ hTO₃ hs₃ => ?_)
  replace hTO₃ : IsPair h₃ TO x b := hTO₃
  refine wpAny_bind (wpAny_letGo (wpAny_pure ?_))

  refine wpAny_bind (wpAny_bind (wpAny_onRaise ?_))
  show wpAny _ _ (Builtin.SmallTypes.nextOf (.ref i2) >>= _) _ _ _
  refine wpAny_bind (nextOf_tuple_item (((h2.extBut hs₁.extBut D.i2z).extBut hs₂.extBut D.i12.symm).extBut hs₃.extBut D.TOi2.symm)
    (((hl2.extBut hs₁.extBut D.l2z).extBut hs₂.extBut D.l2i1).extBut hs₃.extBut D.l2TO) hy fun h₄ h2₄ hs₄ => wpAny_pure ?_)
  have hTO₄ : IsPair h₄ TO x b := hs₄.extBut _ _ D.TOi2 hTO₃
  refine wpAny_bind (wpAny_seqItems hTO₄ rfl ?_)
  refine wpAny_bind (wpAny_updateSeq_pair hTO₄ fun h₅ hTO₅ hs₅ => ?_)
  replace hTO₅ : IsPair h₅ TO x y := hTO₅
  refine wpAny_bind (wpAny_letGo (wpAny_pure (wpAny_pure ?_)))

  refine wpAny_bind (wpAny_seqItems hTO₅ rfl ?_)
  refine wpAny_bind (wpAny_newTuple ?_)
  have hsz : h₅.objs.size = s.heap.objs.size := by rw [hs₅.1, hs₄.1, hs₃.1, hs₂.1, hs₁.1]
  have hz₅ : IsZip h₅ z TI TO .ellipsis := hs₅.extBut _ _ D.TOz.symm (hs₄.extBut _ _ D.i2z.symm (hs₃.extBut _ _ D.TOz.symm (hs₂.extBut _ _ D.i1z.symm hz₁)))
  have hk₅ : ∀ c o, c ≠ z → c ≠ TO → c ≠ i1 → c ≠ i2 → s.heap.get? c = some o → h₅.get? c = some o := fun c o c1 c2 c3 c4 e =>
    hs₅.extBut _ _ c2 (hs₄.extBut _ _ c4 (hs₃.extBut _ _ c2 (hs₂.extBut _ _ c3 (hs₁.extBut _ _ c1 e))))
  have h1₅ : h₅.IsListIter i1 l1 (k1 + 1) := ((h1₂.extBut hs₃.extBut D.TOi1.symm).extBut hs₄.extBut D.i12).extBut hs₅.extBut D.TOi1.symm
  have h2₅ : h₅.IsTupleIter i2 l2 (k2 + 1) := h2₄.extBut hs₅.extBut D.TOi2.symm
  have hzlt : z < h₅.objs.size := Heap.lt_size hz₅
  have hTOlt : TO < h₅.objs.size := Heap.lt_size hTO₅
  have hi1lt : i1 < h₅.objs.size := by obtain ⟨_, e, _⟩ := h1₅; exact Heap.lt_size e
  have hi2lt : i2 < h₅.objs.size := by obtain ⟨_, e, _⟩ := h2₅; exact Heap.lt_size e
  show wpAny _ _ (Builtin.SmallTypes.ownedTupleHandOut (.ref z) (.ref h₅.objs.size) >>= _) _ _ _
  refine wpAny_bind ?_
  unfold Builtin.SmallTypes.ownedTupleHandOut
  have hz₆ : IsZip (h₅.push { cls := .type "tuple", data := .seq #[x, y] }) z TI TO .ellipsis := Heap.get?_push_of_some _ hz₅
  refine wpAny_bind (wpAny_setField_rec hz₆ (by simp) fun h₇ hz₇ hs₇ => ?_)
  replace hz₇ : IsZip h₇ z TI TO (rawInt h₅.objs.size) := hz₇
  refine wpAny_setField_rec hz₇ (by simp) fun h₈ hz₈ hs₈ => ?_
  replace hz₈ : IsZip h₈ z TI TO (rawInt h₅.objs.size) := hz₈
  have up : ∀ c o, c ≠ z → h₅.get? c = some o → h₈.get? c = some o := fun c o c1 e => hs₈.extBut _ _ c1 (hs₇.extBut _ _ c1 (Heap.get?_push_of_some _ e))
  have hT₈ : IsPair h₈ h₅.objs.size x y := hs₈.extBut _ _ (Nat.ne_of_gt hzlt) (hs₇.extBut _ _ (Nat.ne_of_gt hzlt) (Heap.get?_push_size _ rfl))
  have hz8 : h₈.objs.size = h₅.objs.size + 1 := by rw [hs₈.1, hs₇.1, Heap.size_push]
  rw [hsz] at hz₈ hT₈ hz8
  refine wpAny_pure ⟨_, rfl, ?_⟩
  show Q (.ref h₅.objs.size) _
  rw [hsz]
  exact hQ h₈ hz₈ (up _ _ D.TOz hTO₅) (h1₅.at fun o e => up _ o D.i1z e) (h2₅.at fun o e => up _ o D.i2z e) hT₈ hz8 fun c o c1 c2 c3 c4 e => up c o c1 (hk₅ c o c1 c2 c3 c4 e)

theorem zipM_next_end {z TI TO i1 i2 l1 l2 : Addr} {k1 k2 : Nat} {xs ys : Array Value} {a b : Value} {Q : Fin → Shared → Prop} (hh : A.handled = none) (D : ZipApart z TI TO i1 i2 l1 l2)
    (hz : IsZip s.heap z TI TO .none) (hTI : IsPair s.heap TI (.ref i1) (.ref i2)) (hTO : IsPair s.heap TO a b)
    (h1 : s.heap.IsListIter i1 l1 k1) (h2 : s.heap.IsTupleIter i2 l2 k2) (hl1 : s.heap.IsList l1 xs) (hl2 : s.heap.IsTuple l2 ys) (hend : xs[k1]? = none ∨ ys[k2]? = none)
    (hE : ∀ h' e, (∀ c o, c ≠ z → c ≠ TO → c ≠ i1 → c ≠ i2 → s.heap.get? c = some o → h'.get? c = some o) → (∃ o, h'.get? e = some o ∧ o.cls = .type "StopIteration") → E (.ref e) { s with heap := h' }) :
    wpAny (model prog w) A (Builtin.«zip.__next__» ⟨[.ref z], []⟩) Q E s := by
  show wpAny _ _ (field (.ref z) 2 >>= _) _ _ _
  refine wpAny_bind (wpAny_field hz rfl (x := .bool false) rfl ?_)
  show wpAny _ _ (field (.ref z) 3 >>= _) _ _ _
  refine wpAny_bind (wpAny_field hz rfl (x := .ref TI) rfl ?_)
  refine wpAny_bind (wpAny_seqItems hTI rfl ?_)
  show wpAny _ _ (Builtin.SmallTypes.ownedTupleIsFree (.ref z) >>= _) _ _ _
  refine wpAny_bind ?_
  unfold Builtin.SmallTypes.ownedTupleIsFree
  refine wpAny_bind (wpAny_field hz rfl (x := .none) rfl (wpAny_pure ?_))
  simp only [if_true]
  refine wpAny_bind (wpAny_rule ?_)
  refine wpAny_bind (wpAny_field hz rfl (x := .ref TO) rfl ?_)
  refine wpAny_bind (wpAny_setField_rec hz (by simp) fun h₁ hz₁ hs₁ => ?_)
  replace hz₁ : IsZip h₁ z TI TO .ellipsis := hz₁
  refine wpAny_bind ?_
  simp only [List.zipIdx_cons, List.zipIdx_nil, List.forIn_cons, List.forIn_nil]
  refine wpAny_bind (wpAny_bind (wpAny_onRaise ?_))
  show wpAny _ _ (Builtin.SmallTypes.nextOf (.ref i1) >>= _) _ _ _
  cases hx : xs[k1]? with
  | none =>
    refine wpAny_bind (wpAny_nextOf_list_end hh (h1.extBut hs₁.extBut D.i1z) (hl1.extBut hs₁.extBut D.l1z) hx fun h₂ e hs₂ he => ?_)
    obtain ⟨oe, hoe, hce⟩ := he
    have hz₂ : IsZip h₂ z TI TO .ellipsis := hs₂ _ _ D.i1z.symm hz₁
    have hez : e ≠ z := fun x => by subst x; rw [hz₂] at hoe; cases hoe; simp at hce
    refine wpAny_setField_rec hz₂ (by simp) fun h₃ _ hs₃ => hE h₃ e (fun c o c1 _ c3 _ x => hs₃.extBut _ _ c1 (hs₂ _ _ c3 (hs₁.extBut _ _ c1 x))) ⟨oe, hs₃.extBut _ _ hez hoe, hce⟩
  | some x =>
    have hy : ys[k2]? = none := by rcases hend with h | h; rw [hx] at h; cases h; exact h
    refine wpAny_bind (wpAny_nextOf_list_item (h1.extBut hs₁.extBut D.i1z) (hl1.extBut hs₁.extBut D.l1z) hx fun h₂ h1₂ hs₂ => wpAny_pure ?_)
    have hTO₂ : IsPair h₂ TO a b := hs₂.extBut _ _ D.TOi1 (hs₁.extBut _ _ D.TOz hTO)
    refine wpAny_bind (wpAny_seqItems hTO₂ rfl ?_)
    refine wpAny_bind (wpAny_updateSeq_pair hTO₂ fun h₃ hTO₃ hs₃ => ?_)
    refine wpAny_bind (wpAny_letGo (wpAny_pure ?_))
    refine wpAny_bind (wpAny_bind (wpAny_onRaise ?_))
    show wpAny _ _ (Builtin.SmallTypes.nextOf (.ref i2) >>= _) _ _ _
    refine wpAny_bind (nextOf_tuple_end hh (((h2.extBut hs₁.extBut D.i2z).extBut hs₂.extBut D.i12.symm).extBut hs₃.extBut D.TOi2.symm)
      (((hl2.extBut hs₁.extBut D.l2z).extBut hs₂.extBut D.l2i1).extBut hs₃.extBut D.l2TO) hy fun h₄ e hs₄ he => ?_)
    obtain ⟨oe, hoe, hce⟩ := he
    have hz₄ : IsZip h₄ z TI TO .ellipsis := hs₄ _ _ D.i2z.symm (hs₃.extBut _ _ D.TOz.symm (hs₂.extBut _ _ D.i1z.symm hz₁))
    have hez : e ≠ z := fun x => by subst x; rw [hz₄] at hoe; cases hoe; simp at hce
    refine wpAny_setField_rec hz₄ (by simp) fun h₅ _ hs₅ => hE h₅ e (fun c o c1 c2 c3 c4 x => hs₅.extBut _ _ c1 (hs₄ _ _ c4 (hs₃.extBut _ _ c2 (hs₂.extBut _ _ c3 (hs₁.extBut _ _ c1 x))))) ⟨oe, hs₅.extBut _ _ hez hoe, hce⟩

theorem pyNext_zipM_item {z TI TO i1 i2 l1 l2 : Addr} {k1 k2 : Nat} {xs ys : Array Value} {x y a b : Value} {Q : Option Value → Shared → Prop} (D : ZipApart z TI TO i1 i2 l1 l2)
    (hz : IsZip s.heap z TI TO .none) (hTI : IsPair s.heap TI (.ref i1) (.ref i2)) (hTO : IsPair s.heap TO a b)
    (h1 : s.heap.IsListIter i1 l1 k1) (h2 : s.heap.IsTupleIter i2 l2 k2) (hl1 : s.heap.IsList l1 xs) (hl2 : s.heap.IsTuple l2 ys) (hx : xs[k1]? = some x) (hy : ys[k2]? = some y)
    (hQ : ∀ h', IsZip h' z TI TO (rawInt s.heap.objs.size) → IsPair h' TO x y → h'.IsListIter i1 l1 (k1 + 1) → h'.IsTupleIter i2 l2 (k2 + 1) → IsPair h' s.heap.objs.size x y → h'.objs.size = s.heap.objs.size + 1 →
      (∀ c o, c ≠ z → c ≠ TO → c ≠ i1 → c ≠ i2 → s.heap.get? c = some o → h'.get? c = some o) → Q (some (.ref s.heap.objs.size)) { s with heap := h' }) :
    wpAny (model prog w) A (pyNext (.ref z)) Q E s := by
  have hT : s.TypeIs (.ref z) "zip" := ⟨_, hz, rfl⟩
  unfold pyNext
  exact wpAny_bind (wpAny_attempt (wpAny_callSpecial?_slot (name := Str.ofString "__next__") hT F.slot_zip_next
    (wpAny_call_entry F.slot_zip_next hT F.entry_zip_next
      (zipM_next_item D hz hTI hTO h1 h2 hl1 hl2 hx hy fun h' a1 a2 a3 a4 a5 a6 a7 => wpAny_pure (hQ h' a1 a2 a3 a4 a5 a6 a7)) (F.args_zip_next_1 _))))

theorem pyNext_zipM_end {z TI TO i1 i2 l1 l2 : Addr} {k1 k2 : Nat} {xs ys : Array Value} {a b : Value} {Q : Option Value → Shared → Prop} (hh : A.handled = none) (D : ZipApart z TI TO i1 i2 l1 l2)
    (hz : IsZip s.heap z TI TO .none) (hTI : IsPair s.heap TI (.ref i1) (.ref i2)) (hTO : IsPair s.heap TO a b)
    (h1 : s.heap.IsListIter i1 l1 k1) (h2 : s.heap.IsTupleIter i2 l2 k2) (hl1 : s.heap.IsList l1 xs) (hl2 : s.heap.IsTuple l2 ys) (hend : xs[k1]? = none ∨ ys[k2]? = none)
    (hQ : ∀ h', (∀ c o, c ≠ z → c ≠ TO → c ≠ i1 → c ≠ i2 → s.heap.get? c = some o → h'.get? c = some o) → Q none { s with heap := h' }) : wpAny (model prog w) A (pyNext (.ref z)) Q E s := by
  have hT : s.TypeIs (.ref z) "zip" := ⟨_, hz, rfl⟩
  unfold pyNext
  refine wpAny_bind (wpAny_attempt (wpAny_callSpecial?_slot (name := Str.ofString "__next__") hT F.slot_zip_next
    (wpAny_call_entry F.slot_zip_next hT F.entry_zip_next (zipM_next_end hh D hz hTI hTO h1 h2 hl1 hl2 hend fun h' e hk he => ?_) (F.args_zip_next_1 _))))
  obtain ⟨o, ho, hc⟩ := he
  refine wpAny_bind (wpAny_isInstance (T := "StopIteration") (b := true) ⟨o, ho, hc⟩ isSubtype_stop ?_)
  exact wpAny_pure (hQ _ hk)
end
abbrev zipMH1 (h : Heap) (l1 : Addr) : Heap := h.push { cls := .type "list_iterator", data := .fields #[.ref l1, .int 0 0] }
abbrev zipMH2 (h : Heap) (l1 l2 : Addr) : Heap := (zipMH1 h l1).push { cls := .type "tuple_iterator", data := .fields #[.ref l2, .int 0 0] }
abbrev zipMH3 (h : Heap) (l1 l2 : Addr) : Heap := (zipMH2 h l1 l2).push { cls := .type "tuple", data := .seq #[.ref h.objs.size, .ref (zipMH1 h l1).objs.size] }
abbrev zipMH4 (h : Heap) (l1 l2 : Addr) : Heap := (zipMH3 h l1 l2).push { cls := .type "tuple", data := .seq #[.none, .none] }
abbrev zipMH5 (h : Heap) (l1 l2 : Addr) : Heap := (zipMH4 h l1 l2).push { cls := .type "zip", data := .fields #[.none, .bool false, .bool false, .ref (zipMH2 h l1 l2).objs.size, .ref (zipMH3 h l1 l2).objs.size] }

theorem meets_zipM_new (l1 l2 : Addr) (xs ys : Array Value) :
    Meets (Builtin.«zip.__new__» ⟨[.type "zip", .ref l1, .ref l2], []⟩) (fun _ R s => s.heap.IsList l1 xs ∧ s.heap.IsTuple l2 ys ∧
      R (.ok (.ret (.ref (zipMH4 s.heap l1 l2).objs.size))) { s with heap := zipMH5 s.heap l1 l2 }) :=
  .of_wp fun prog w A R s h => by
    obtain ⟨hp, g, d, tk, os⟩ := s; obtain ⟨hl1, hl2, h⟩ := h
    have hsub := sub_zip
    have hL1 : Heap.IsList (Shared.heap ⟨hp, g, d, tk, os⟩) l1 xs := hl1
    have hL2 : Heap.IsTuple (Shared.heap ⟨hp.push { cls := .type "list_iterator", data := .fields #[.ref l1, .int 0 0] }, g, d, tk, os⟩) l2 ys := Heap.IsTuple.push hl2 _
    wp_walk using wpAny_pyIter_list hL1, wpAny_pyIter_tuple hL2
    exact ⟨_, rfl, h⟩

section
variable {prog : Program} {w : World} {A : Around} {E : Value → Shared → Prop} {s : Shared}
theorem call_zipM {l1 l2 : Addr} {xs ys : Array Value} {Q : Value → Shared → Prop} (hl1 : s.heap.IsList l1 xs) (hl2 : s.heap.IsTuple l2 ys)
    (h : ∀ h', IsZip h' (s.heap.objs.size + 4) (s.heap.objs.size + 2) (s.heap.objs.size + 3) .none → IsPair h' (s.heap.objs.size + 2) (.ref s.heap.objs.size) (.ref (s.heap.objs.size + 1)) →
      IsPair h' (s.heap.objs.size + 3) .none .none → h'.IsListIter s.heap.objs.size l1 0 → h'.IsTupleIter (s.heap.objs.size + 1) l2 0 → h'.objs.size = s.heap.objs.size + 5 →
      (∀ c o, s.heap.get? c = some o → h'.get? c = some o) → Q (.ref (s.heap.objs.size + 4)) { s with heap := h' }) :
    wpAny (model prog w) A (call (.type "zip") [.ref l1, .ref l2]) Q E s := by
  refine callType_new F.called_zip (by decide) (F.typeCall_zip_2 _ _) (F.newCall_zip_2 _ _) (fun obj => F.args_object_init_3 obj _ _) F.entry_zip_new
    (meets_zipM_new l1 l2 xs ys) ⟨hl1, hl2, ?_⟩
  have z1 : (zipMH1 s.heap l1).objs.size = s.heap.objs.size + 1 := Heap.size_push ..
  have z2 : (zipMH2 s.heap l1 l2).objs.size = s.heap.objs.size + 2 := by rw [Heap.size_push, z1]
  have z3 : (zipMH3 s.heap l1 l2).objs.size = s.heap.objs.size + 3 := by rw [Heap.size_push, z2]
  have z4 : (zipMH4 s.heap l1 l2).objs.size = s.heap.objs.size + 4 := by rw [Heap.size_push, z3]
  have z5 : (zipMH5 s.heap l1 l2).objs.size = s.heap.objs.size + 5 := by rw [Heap.size_push, z4]
  have g5 : (zipMH5 s.heap l1 l2).get? (zipMH4 s.heap l1 l2).objs.size = some _ := Heap.get?_push_size _ rfl
  have g4 : (zipMH5 s.heap l1 l2).get? (zipMH3 s.heap l1 l2).objs.size = some _ := Heap.get?_push_of_some _ (Heap.get?_push_size _ rfl)
  have g3 : (zipMH5 s.heap l1 l2).get? (zipMH2 s.heap l1 l2).objs.size = some _ := Heap.get?_push_of_some _ (Heap.get?_push_of_some _ (Heap.get?_push_size _ rfl))
  have g2 : (zipMH5 s.heap l1 l2).get? (zipMH1 s.heap l1).objs.size = some _ := Heap.get?_push_of_some _ (Heap.get?_push_of_some _ (Heap.get?_push_of_some _ (Heap.get?_push_size _ rfl)))
  have g1 : (zipMH5 s.heap l1 l2).get? s.heap.objs.size = some _ := Heap.get?_push_of_some _ (Heap.get?_push_of_some _ (Heap.get?_push_of_some _ (Heap.get?_push_of_some _ (Heap.get?_push_size _ rfl))))
  show _ ∧ _
  rw [z2, z3, z4] at g5
  rw [z1, z2] at g3
  rw [z3] at g4
  rw [z1] at g2
  rw [z4]
  exact ⟨⟨_, g5, rfl⟩, h _ g5 g3 g4 ⟨_, g1, rfl, rfl⟩ ⟨_, g2, rfl, rfl⟩ z5 fun c o x =>
    Heap.get?_push_of_some _ (Heap.get?_push_of_some _ (Heap.get?_push_of_some _ (Heap.get?_push_of_some _ (Heap.get?_push_of_some _ x))))⟩
end
/-- the list at a, the tuple at b, as they stand at each turn, the items in new pairs -/
def ItzM (K : PySem.W.Frag) (a b : Addr) : It :=
  ⟨fun i H => ∃ (xs ys : List V) (x y : V), SqL K H a xs ∧ SqT K H b ys ∧ xs[i]? = some x ∧ ys[i]? = some y,
    fun i H v H' => ∃ T x y, v = .ref T ∧ H T = none ∧ H' = upd H T (.tup [x, y]) ∧ (∀ xs, SqL K H a xs → xs[i]? = some x) ∧ ∀ ys, SqT K H b ys → ys[i]? = some y,
    fun i H => ∃ xs ys : List V, SqL K H a xs ∧ SqT K H b ys ∧ (xs.length ≤ i ∨ ys.length ≤ i)⟩
theorem turn_zipM {P : Program} {w : World} {K : PySem.W.Frag} {elts : List Expr} {kk : Nat} {tpos : Pos} {a b z TI TO i1 i2 : Addr} (D : ZipApart z TI TO i1 i2 a b) :
    Turn P w K (.Tuple elts kk tpos) (ItzM K a b) [z, TI, TO, i1, i2] z (fun i h => IsZip h z TI TO .none ∧ IsPair h TI (.ref i1) (.ref i2) ∧ (∃ x y, IsPair h TO x y) ∧ h.IsListIter i1 a i ∧ h.IsTupleIter i2 b i) where
  mem := by simp
  obj := fun i h st c hc => by
    obtain ⟨hz, hTI, ⟨x, y, hTO⟩, ⟨o1, e1, _, d1⟩, ⟨o2, e2, _, d2⟩⟩ := st
    have e' : c = z ∨ c = TI ∨ c = TO ∨ c = i1 ∨ c = i2 := by simpa using hc
    rcases e' with q | q | q | q | q
    · rw [q]; exact ⟨_, hz, fun v q => nomatch q⟩
    · rw [q]; exact ⟨_, hTI, fun v q => nomatch q⟩
    · rw [q]; exact ⟨_, hTO, fun v q => nomatch q⟩
    · rw [q]; exact ⟨o1, e1, fun v q => by rw [d1] at q; cases q⟩
    · rw [q]; exact ⟨o2, e2, fun v q => by rw [d2] at q; cases q⟩
  keep := fun i h h' st k => by
    obtain ⟨hz, hTI, ⟨x, y, hTO⟩, h1, h2⟩ := st
    exact ⟨k z (by simp) _ hz, k TI (by simp) _ hTI, ⟨x, y, k TO (by simp) _ hTO⟩, h1.at fun o q => k i1 (by simp) o q, h2.at fun o q => k i2 (by simp) o q⟩
  item := by
    intro X hP hw hK hc i pins s σ H E I hf st hg
    subst hP hw hK
    obtain ⟨hz, hTI, ⟨x0, y0, hTO⟩, h1, h2⟩ := st
    obtain ⟨xs, ys, x, y, hqx, hqy, hx, hy⟩ := hg
    obtain ⟨its, rv, p, _⟩ := I.list hqx
    obtain ⟨its2, rv2, p2, _⟩ := I.tuple hqy
    obtain ⟨u, hu, ru⟩ := rv.get hx
    obtain ⟨u2, hu2, ru2⟩ := rv2.get hy
    have hzl : z < s.heap.objs.size := Heap.lt_size hz
    refine pyNext_zipM_item D hz hTI hTO h1 h2 p.isList p2 (x := u) (y := u2) (by simpa using hu) (by simpa using hu2) fun h' z' TO' h1' h2' hT hsz hk => ?_
    refine ⟨_, rfl, wpAny_letOwnedTupleGo_zip (s := { s with heap := h' }) z' fun h'' z'' sb => ?_⟩
    have hT2 : h''.get? s.heap.objs.size = some { cls := .type "tuple", data := .seq #[u, u2] } := (sb.2 _ (Nat.ne_of_gt hzl)).trans hT
    have new : ObjOk X.prog X.w (upd H s.heap.objs.size (.tup [x, y])) h'' s.heap.objs.size (.tup [x, y]) :=
      ⟨by show 2 ≤ sizeLine; decide, [u, u2], .cons ru (.cons ru2 .nil), ⟨_, hT2, rfl, _, rfl⟩⟩
    have I1 : Inv X pins σ (upd H s.heap.objs.size (.tup [x, y])) { s with heap := h'' } :=
      I.turnedNew (t' := s.toks) (ch := [z, TI, TO, i1, i2]) (fun c o hb q => (sb.2 c (fun q' => hb (by simp [q']))).trans (hk c o (fun q' => hb (by simp [q'])) (fun q' => hb (by simp [q'])) (fun q' => hb (by simp [q'])) (fun q' => hb (by simp [q'])) q)) hf (Nat.le_refl _) new
    refine ⟨.ref s.heap.objs.size, _, I1, rfl, ⟨_, x, y, rfl, I.hok.fresh (Nat.le_refl _), rfl, fun l hl => by rw [I.list_inj hl hqx]; exact hx, fun l hl => by rw [I.tuple_inj hl hqy]; exact hy⟩, ⟨z'', ?_, ⟨u, u2, ?_⟩, ?_, ?_⟩, fun c hcm => ?_⟩
    · exact (sb.2 _ D.TIz).trans (hk _ _ D.TIz D.TITO D.TIi1 D.TIi2 hTI)
    · exact (sb.2 _ D.TOz).trans TO'
    · exact h1'.at fun o q => (sb.2 _ D.i1z).trans q
    · exact h2'.at fun o q => (sb.2 _ D.i2z).trans q
    · have hlt : c < s.heap.objs.size := by
        have e' : c = z ∨ c = TI ∨ c = TO ∨ c = i1 ∨ c = i2 := by simpa using hcm
        rcases e' with q | q | q | q | q
        · rw [q]; exact hzl
        · rw [q]; exact Heap.lt_size hTI
        · rw [q]; exact Heap.lt_size hTO
        · rw [q]; obtain ⟨_, e1, _⟩ := h1; exact Heap.lt_size e1
        · rw [q]; obtain ⟨_, e2, _⟩ := h2; exact Heap.lt_size e2
      rw [upd_ne (Nat.ne_of_lt hlt)]
      exact (hf c hcm).1
  done := by
    intro X hP hw hK hc i pins s σ H E I hf st hg
    subst hP hw hK
    obtain ⟨hz, hTI, ⟨x0, y0, hTO⟩, h1, h2⟩ := st
    obtain ⟨xs, ys, hqx, hqy, hend⟩ := hg
    obtain ⟨its, rv, p, _⟩ := I.list hqx
    obtain ⟨its2, rv2, p2, _⟩ := I.tuple hqy
    have l1 := rv.length
    have l2 := rv2.length
    have he : its.toArray[i]? = none ∨ its2.toArray[i]? = none := by
      rcases hend with q | q
      · exact .inl (by simp; omega)
      · exact .inr (by simp; omega)
    exact pyNext_zipM_end (I.ok.hd hc) D hz hTI hTO h1 h2 p.isList p2 he fun h' hk => ⟨rfl, I.turnedL (t' := s.toks) (ch := [z, TI, TO, i1, i2]) (fun c o hb q =>
      hk c o (fun q' => hb (by simp [q'])) (fun q' => hb (by simp [q'])) (fun q' => hb (by simp [q'])) (fun q' => hb (by simp [q'])) q) hf⟩
  self := fun A i s Q E st h => wpAny_pyIter_zip st.1 h

def iZipB (K : PySem.W.Frag) (ta : TA) : TI := fun σ H R => ta σ H fun vs H1 => ∃ a b xs ys, vs = [.ref a, .ref b] ∧ ((SqL K H1 a xs ∧ SqL K H1 b ys ∧ R (Itz K a b) H1) ∨ (SqT K H1 a xs ∧ SqT K H1 b ys ∧ R (ItzT K a b) H1) ∨ (SqL K H1 a xs ∧ SqT K H1 b ys ∧ R (ItzM K a b) H1))
theorem pi_zipB {X : Cx} {e e2 : Expr} {ta : TA} {p pos tpos : Pos} {elts : List Expr} {kk : Nat} (hg : Gl X "zip") (hm : X.mg "zip" = none) (ha : PA X [e, e2] ta)
    (hs : starEach [e, e2] X.env = (false, eval e X.env) :: starEach [e2] X.env := by rfl) (hpl : (backTo pos (starEach [e2] X.env)).any (·.1) = false := by rfl) :
    PI X (.Tuple elts kk tpos) (.Call (.Name "zip" p) [e, e2] [] pos) (iZipB X.K ta) := by
  refine ⟨fun pins s σ H R I h => ?_⟩
  refine Call_ (ld_blt I hg hm PyProof.Rows.boot_zip (PyProof.Rows.callWith_type1 (thn (ha.run pos pins s σ H _ I h) fun us s1 ⟨vs, H1, I1, r1, q1⟩ => ?_) hs hpl))
  obtain ⟨a, b, xs, ys, ex, q1⟩ := q1
  subst ex
  cases r1 with
  | cons r rr =>
    cases rr with
    | cons r' rr =>
      cases rr
      cases r
      cases r'
      have fresh5 : ∀ c, c ∈ [s1.heap.objs.size + 4, s1.heap.objs.size + 2, s1.heap.objs.size + 3, s1.heap.objs.size, s1.heap.objs.size + 1] → FpOk X pins H1 c := fun c hcm => by
        have e' : c = s1.heap.objs.size + 4 ∨ c = s1.heap.objs.size + 2 ∨ c = s1.heap.objs.size + 3 ∨ c = s1.heap.objs.size ∨ c = s1.heap.objs.size + 1 := by simpa using hcm
        have hle : s1.heap.objs.size ≤ c := by
          rcases e' with z | z | z | z | z
          · rw [z]; exact Nat.le_add_right _ _
          · rw [z]; exact Nat.le_add_right _ _
          · rw [z]; exact Nat.le_add_right _ _
          · rw [z]; exact Nat.le_refl _
          · rw [z]; exact Nat.le_add_right _ _
        exact I1.fpOk hle (I1.hok.fresh hle)
      rcases q1 with ⟨hqx, hqy, q⟩ | ⟨hqx, hqy, q⟩ | ⟨hqx, hqy, q⟩
      · obtain ⟨its, rv, p1, _⟩ := I1.list hqx
        obtain ⟨its2, rv2, p2, _⟩ := I1.list hqy
        refine call_zip_2 p1.isList p2.isList fun h' hz hTI hTO h1 h2 hsz hk => wpAny_pyIter_zip hz ?_
        have I2 : Inv X pins σ H1 { s1 with heap := h' } := I1.kept (t' := s1.toks) hk
        exact ⟨s1.heap.objs.size + 4, [s1.heap.objs.size + 4, s1.heap.objs.size + 2, s1.heap.objs.size + 3, s1.heap.objs.size, s1.heap.objs.size + 1], _, _, H1, rfl, I2, turn_zip (PySem.W.ktu_apart s1.heap.objs.size a b p1.lt p2.lt), ⟨hz, hTI, ⟨_, _, hTO⟩, h1, h2⟩, fresh5, q⟩
      · obtain ⟨its, rv, p1, _⟩ := I1.tuple hqx
        obtain ⟨its2, rv2, p2, _⟩ := I1.tuple hqy
        obtain ⟨o1, ho1, _⟩ := id p1
        obtain ⟨o2, ho2, _⟩ := id p2
        refine call_zipT (show s1.heap.IsTuple a its.toArray from p1) (show s1.heap.IsTuple b its2.toArray from p2) fun h' hz hTI hTO h1 h2 hsz hk => wpAny_pyIter_zip hz ?_
        have I2 : Inv X pins σ H1 { s1 with heap := h' } := I1.kept (t' := s1.toks) hk
        exact ⟨s1.heap.objs.size + 4, [s1.heap.objs.size + 4, s1.heap.objs.size + 2, s1.heap.objs.size + 3, s1.heap.objs.size, s1.heap.objs.size + 1], _, _, H1, rfl, I2, turn_zipT (PySem.W.ktu_apart s1.heap.objs.size a b (Heap.lt_size ho1) (Heap.lt_size ho2)), ⟨hz, hTI, ⟨_, _, hTO⟩, h1, h2⟩, fresh5, q⟩
      · obtain ⟨its, rv, p1, _⟩ := I1.list hqx
        obtain ⟨its2, rv2, p2, _⟩ := I1.tuple hqy
        obtain ⟨o2, ho2, _⟩ := id p2
        refine call_zipM p1.isList (show s1.heap.IsTuple b its2.toArray from p2) fun h' hz hTI hTO h1 h2 hsz hk => wpAny_pyIter_zip hz ?_
        have I2 : Inv X pins σ H1 { s1 with heap := h' } := I1.kept (t' := s1.toks) hk
        exact ⟨s1.heap.objs.size + 4, [s1.heap.objs.size + 4, s1.heap.objs.size + 2, s1.heap.objs.size + 3, s1.heap.objs.size, s1.heap.objs.size + 1], _, _, H1, rfl, I2, turn_zipM (PySem.W.ktu_apart s1.heap.objs.size a b p1.lt (Heap.lt_size ho2)), ⟨hz, hTI, ⟨_, _, hTO⟩, h1, h2⟩, fresh5, q⟩
end
end Dl
end L2
namespace L2
namespace Dl
open PySem PySem.Spec PyProof.Rows
section
variable {prog : Program} {w : World} {A : Around} {E : Value → Shared → Prop} {s : Shared}
end
def negB (neg : Bool) (b : Bool) : Bool := if neg = true then !b else b
def wIn1 (neg : Bool) (wa wb : WE) : WE := fun env Ke Kx => wa env (fun e1 r1 => wb e1 (fun e2 r2 => ∃ i, r1 = .val (.int i) ∧ ∃ j, r2 = .val (.int j) ∧ Ke e2 (.val (.bool (negB neg (decide (0 ≤ i ∧ i < j)))))) Kx) Kx
def wIn2 (neg : Bool) (wa wb wc : WE) : WE := fun env Ke Kx => wa env (fun e1 r1 => wb e1 (fun e2 r2 => wc e2 (fun e3 r3 => ∃ i, r1 = .val (.int i) ∧ ∃ j, r2 = .val (.int j) ∧ ∃ k, r3 = .val (.int k) ∧ Ke e3 (.val (.bool (negB neg (decide (j ≤ i ∧ i < k)))))) Kx) Kx) Kx
section
variable {B : Bs} {W : WX} {X : Cx} {pos q pos2 : Pos} {a b c : Expr} {wa wb wc : WE}
end
/-! zip -/
def zipD (xs ys : List PyData) : List PyData := (xs.zip ys).map fun p => .tuple [p.1, p.2]
def zpK (ds : List PyData) (K : List PyData → Prop) : Prop := match ds with
  | [.list xs, .list ys] => K (zipD xs ys)
  | [.tuple xs, .tuple ys] => K (zipD xs ys)
  | [.list xs, .tuple ys] => K (zipD xs ys)
  | _ => False
def wIZip (wf : WF) : WI := fun env Ki Kx => wf env (fun e ds => zpK ds (Ki e)) Kx
theorem DF.pa {B : Bs} {W : WX} {X : Cx} {es : List Expr} {wf : WF} (h : DF B W X es wf) : PA X es (fun σ H Q => ∃ F env Ka Kx, Rl X.K B F H env σ ∧ wf env Ka Kx ∧ XC X.K B W Kx ∧
    ∀ vs env' ds F' H', Rl X.K B F' H' env' σ → Fm env σ F H env' F' H' → RpAll X.K F' vs ds → Ka env' ds → Q vs H') :=
  ⟨fun pos pins s σ H Q I ⟨F, env, Ka, Kx, R, hw, hx, q⟩ => thn (h.run pos pins s σ F H env Ka Kx I R hw hx) fun us s1 ⟨vs, env', ds, F', H', I', rv, R', f', r', k'⟩ => ⟨vs, H', I', rv, q vs env' ds F' H' R' f' r' k'⟩⟩
theorem zipD_len (xs ys : List PyData) : (zipD xs ys).length = min xs.length ys.length := by unfold zipD; rw [List.length_map, List.length_zip]
/-- new pairs -/
theorem good_pairs {K : PySem.W.Frag} {B : Bs} {J : It} {F0 : Hp} {vx vy : List V} {xs ys : List PyData} (hx : RpAll K F0 vx xs) (hy : RpAll K F0 vy ys)
    (go : ∀ (F H : Hp) (i : Nat), Same F0 F → Same F H → i < vx.length → i < vy.length → J.go i H) (stop : ∀ (F H : Hp) (i : Nat), Same F0 F → Same F H → (vx.length ≤ i ∨ vy.length ≤ i) → J.stop i H)
    (yld : ∀ (F H : Hp) (i : Nat) (v : V) (H' : Hp), Same F0 F → Same F H → J.yld i H v H' → ∃ T x y, v = .ref T ∧ H T = none ∧ H' = upd H T (.tup [x, y]) ∧ vx[i]? = some x ∧ vy[i]? = some y) : GoodIt K B J F0 (zipD xs ys) := by
  intro F H env σ i R s
  have l1 := hx.length
  have l2 := hy.length
  refine ⟨fun hi => ?_, fun hi => ?_⟩
  · rw [zipD_len] at hi
    refine ⟨go F H i s R.sub (by omega) (by omega), fun v H' yl => ?_⟩
    obtain ⟨T, x, y, rfl, hT, rfl, e1, e2⟩ := yld F H i v H' s R.sub yl
    obtain ⟨dx, g1, r1⟩ := hx.get2 e1
    obtain ⟨dy, g2, r2⟩ := hy.get2 e2
    refine ⟨upd F T (.tup [x, y]), .tuple [dx, dy], R.layF hT, R.fmLayF hT, ?_, ?_⟩
    · unfold zipD
      have ez : (xs.zip ys)[i]? = some (dx, dy) := List.getElem?_zip_eq_some.mpr ⟨g1, g2⟩
      rw [List.getElem?_map, ez]
      rfl
    · have hF : F T = none := R.freeF hT
      have sm : Same F (upd F T (.tup [x, y])) := fun b o e => by
        rw [upd_ne (ne_of_none e hF)]
        exact e
      exact .tup upd_same (.cons (Rp.mono (s.trans sm) _ _ r1) (.cons (Rp.mono (s.trans sm) _ _ r2) .nil))
  · rw [zipD_len] at hi
    exact stop F H i s R.sub (by omega)
theorem di_zip {B : Bs} {W : WX} {X : Cx} {e e2 : Expr} {wf : WF} {p pos tpos : Pos} {elts : List Expr} {kk : Nat} (h : DF B W X [e, e2] wf) (hg : Gl X "zip") (hm : X.mg "zip" = none)
    (hs : starEach [e, e2] X.env = (false, eval e X.env) :: starEach [e2] X.env := by rfl) (hpl : (backTo pos (starEach [e2] X.env)).any (·.1) = false := by rfl) : DI B W X (.Tuple elts kk tpos) (.Call (.Name "zip" p) [e, e2] [] pos) (wIZip wf) := by
  refine ⟨⟨fun pins s σ H R I ⟨F, env, Ki, Kx, R0, hw, hx, q⟩ => ?_⟩⟩
  refine (pi_zipB (p := p) (pos := pos) (tpos := tpos) (elts := elts) (kk := kk) hg hm h.pa hs hpl).run pins s σ H R I ⟨F, env, _, Kx, R0, hw, hx, fun vs env' ds F' H' R' f' r' k' => ?_⟩
  have k' : zpK ds (Ki env') := k'
  unfold zpK at k'
  split at k'
  · rename_i xs ys
    cases r' with
    | cons a1 t1 =>
      cases t1 with
      | cons a2 t2 =>
        cases t2
        cases a1 with
        | @lst ad vx _ h1 h2 =>
          cases a2 with
          | @lst bd vy _ g1 g2 =>
            refine ⟨ad, bd, vx, vy, rfl, .inl ⟨R'.sub.seq h1, R'.sub.seq g1, q _ env' F' H' _ R' f' (good_pairs h2 g2 (fun F H i s1 s2 i1 i2 => ?_) (fun F H i s1 s2 hi => ?_) (fun F H i v H' s1 s2 yl => ?_)) k'⟩⟩
            · exact ⟨vx, vy, vx[i], vy[i], (s1.trans s2).seq h1, (s1.trans s2).seq g1, List.getElem?_eq_getElem i1, List.getElem?_eq_getElem i2⟩
            · exact ⟨vx, vy, (s1.trans s2).seq h1, (s1.trans s2).seq g1, hi⟩
            · obtain ⟨T, x, y, e1, e2, e3, e4, e5⟩ := yl
              exact ⟨T, x, y, e1, e2, e3, e4 _ ((s1.trans s2).seq h1), e5 _ ((s1.trans s2).seq g1)⟩
  · rename_i xs ys
    cases r' with
    | cons a1 t1 =>
      cases t1 with
      | cons a2 t2 =>
        cases t2
        cases a1 with
        | @tup ad vx _ h1 h2 =>
          cases a2 with
          | @tup bd vy _ g1 g2 =>
            refine ⟨ad, bd, vx, vy, rfl, .inr (.inl ⟨sqT_same R'.sub (SqT.of h1), sqT_same R'.sub (SqT.of g1), q _ env' F' H' _ R' f' (good_pairs h2 g2 (fun F H i s1 s2 i1 i2 => ?_) (fun F H i s1 s2 hi => ?_) (fun F H i v H' s1 s2 yl => ?_)) k'⟩)⟩
            · exact ⟨vx, vy, vx[i], vy[i], sqT_same (s1.trans s2) (SqT.of h1), sqT_same (s1.trans s2) (SqT.of g1), List.getElem?_eq_getElem i1, List.getElem?_eq_getElem i2⟩
            · exact ⟨vx, vy, sqT_same (s1.trans s2) (SqT.of h1), sqT_same (s1.trans s2) (SqT.of g1), hi⟩
            · obtain ⟨T, x, y, e1, e2, e3, e4, e5⟩ := yl
              exact ⟨T, x, y, e1, e2, e3, e4 _ (sqT_same (s1.trans s2) (SqT.of h1)), e5 _ (sqT_same (s1.trans s2) (SqT.of g1))⟩
  · rename_i xs ys
    cases r' with
    | cons a1 t1 =>
      cases t1 with
      | cons a2 t2 =>
        cases t2
        cases a1 with
        | @lst ad vx _ h1 h2 =>
          cases a2 with
          | @tup bd vy _ g1 g2 =>
            refine ⟨ad, bd, vx, vy, rfl, .inr (.inr ⟨R'.sub.seq h1, sqT_same R'.sub (SqT.of g1), q _ env' F' H' _ R' f' (good_pairs h2 g2 (fun F H i s1 s2 i1 i2 => ?_) (fun F H i s1 s2 hi => ?_) (fun F H i v H' s1 s2 yl => ?_)) k'⟩)⟩
            · exact ⟨vx, vy, vx[i], vy[i], (s1.trans s2).seq h1, sqT_same (s1.trans s2) (SqT.of g1), List.getElem?_eq_getElem i1, List.getElem?_eq_getElem i2⟩
            · exact ⟨vx, vy, (s1.trans s2).seq h1, sqT_same (s1.trans s2) (SqT.of g1), hi⟩
            · obtain ⟨T, x, y, e1, e2, e3, e4, e5⟩ := yl
              exact ⟨T, x, y, e1, e2, e3, e4 _ ((s1.trans s2).seq h1), e5 _ (sqT_same (s1.trans s2) (SqT.of g1))⟩
  · exact k'.elim
end Dl
end L2

/-! The D layer, 16: raise, try. -/
namespace L2
namespace Dl
open PySem PySem.Spec PyProof.Rows

/-! ### an exception is made -/
section
variable {X : Cx}
/-- what such an __init__ leaves: each field -/
def spIni (C : Addr) (fs : List Str) : Sp := fun vs H Q _ => ∃ (a : Addr) (ws : List V), vs = .ref a :: ws ∧ ws.length = fs.length ∧ H a = some (exo a C none) ∧
  ∀ (H' : Hp) (d : Addr), H d = none → d ≠ a → H' a = some (exo a C (some d)) → H' d = some (exd d (fs.zip ws).reverse) → (∀ b, b ≠ a → b ≠ d → H' b = H b) → Q .non H'
end
/-! an __init__ of one field, of two -/
section
variable {P : Program} {w : World} {K : PySem.W.Frag} {mg : Str → Option Value} {base : Heap}
end

/-! ### raise -/
/-- what is known of a class whose __init__ stores its arguments -/
structure IniC (P : Program) (w : World) (K : PySem.W.Frag) (mg : Str → Option Value) (base : Heap) (name : Str) (fs : List Str) : Prop where
  ex : ∃ (C fI : Addr) (fd : FuncData), mg name = some (.ref C) ∧ OexC K C ∧ PySem.W.findIn K (.ref C) "__init__" = some (some (.ref fI)) ∧ PySem.W.typeIn K (.ref fI) = some (.type "function") ∧ Binds K fd ("self" :: fs) [] ∧ FnOk P w K mg base (L2N.CX P w) 1 fI fd ("self" :: fs) (spIni C fs)
/-- .. of a class without one -/
structure BareC (K : PySem.W.Frag) (mg : Str → Option Value) (name : Str) : Prop where
  ex : ∃ (C : Addr), mg name = some (.ref C) ∧ PySem.W.excIn K C [.type "ValueError", .type "Exception", .type "BaseException", .type "object"] "ValueError.__new__" = true ∧ PySem.W.keepIn K (.ref C) = true ∧ PySem.W.subIn K (.ref C) (.type "BaseException") = some true ∧ PySem.W.typeIn K (.ref C) = some (.type "type")
def wRaise0 (name : Str) : WS := fun env k => k.ex env ⟨name, []⟩
def wRaise (name : Str) (fs : List Str) (wf : WF) : WS := fun env k => wf env (fun e ds => ds.length = fs.length ∧ k.ex e ⟨name, (fs.zip ds).reverse⟩) k.ex
theorem fsR.mono {K : PySem.W.Frag} {F F' : Hp} (s : Same F F') : ∀ {fs : List (Str × V)} {gs : List (Str × PyData)}, fsR K F fs gs → fsR K F' fs gs
  | _, _, .nil => .nil
  | _, _, .cons ⟨e, r⟩ t => .cons ⟨e, Rp.mono s _ _ r⟩ (fsR.mono s t)
section
variable {B : Bs} {W : WX} {X : Cx} {x : Str} {e : Expr} {es : List Expr} {wf : WF} {p pos pos2 : Pos}
abbrev deadD : Ends := { nx := fun _ _ => False, rt := fun _ _ => False, bk := fun _ _ => False, ct := fun _ _ => False }
end
end Dl
end L2

/-! The D layer, 17: try; what runs while an exception is handled. -/
namespace L2
namespace Dl
open PySem PySem.Spec PyProof.Rows L2H

section
variable {K : PySem.W.Frag} {B : Bs} {F F' H H' : Hp} {env env' env0 : Ev} {σ σ' σ0 : St} {i : Nat} {a : Addr}
abbrev Bs.at (B : Bs) (F : Hp) : Bs := { B with F0 := F }
abbrev Bs.hot (B : Bs) (i : Nat) (a : Addr) (F : Hp) : Bs := { B with F0 := F, lent := (i, a) :: B.lent }
theorem Rl.at (R : Rl K B F H env σ) : Rl K (B.at F) F H env σ :=
  ⟨R.len, R.sub, R.sl, R.dist, Same.refl _, fun b x h => .inl h, R.frm, R.dom, R.own0, R.own1, R.lsl, R.dd, R.d0⟩
theorem Rl.hot (R : Rl K B F H env σ) (na : H a = none) (hi : i < σ.length) (nl : ∀ p ∈ B.all, p.1 ≠ i) : Rl K (B.hot i a F) F H (env.set i .un) (σ.set i (some (.ref a))) := by
  have R1 := R.put (v := .ref a) (s := .un) hi nl trivial (fun _ _ e => by cases e)
  refine ⟨R1.len, R1.sub, R1.sl, R1.dist, Same.refl _, fun b x h => .inl h, fun b x h n => R1.frm b x h fun p hp => n p (List.mem_cons_of_mem _ hp), R1.dom, R1.own0, fun j ds c h1 h2 => ?_, fun p hp => ?_, R1.dd, R1.d0⟩
  · obtain ⟨p, g1, g2⟩ := R1.own1 j ds c h1 h2
    exact ⟨p, List.mem_cons_of_mem _ g1, g2⟩
  · rcases List.mem_cons.mp hp with z | z
    · subst z
      exact List.getElem?_set_self hi
    · exact R1.lsl p z
end

/-- the exception x is handled, slot i holds it -/
structure HX (X : Cx) (B : Bs) (i : Nat) (x : XD) : Prop where
  ex : ∃ (a C : Addr) (oe : Obj) (d : Option Addr), (a, oe) ∈ X.pn ∧ (i, a) ∈ B.lent ∧ X.A.handled = some (.ref a) ∧ L2N.Zn (.ref C) d oe ∧ (∃ vs, oe.data = .fields vs) ∧ X.mg x.name = some (.ref C) ∧
    match d with
    | none => x.fs = []
    | some dx => ∃ fs, B.F0 dx = some (.xd fs) ∧ fsR X.K B.F0 fs x.fs
theorem HX.hot {X : Cx} {B : Bs} {i : Nat} {x : XD} (h : HX X B i x) : HotC X := by
  obtain ⟨a, C, oe, d, h1, _, h3, h4, ⟨vs, h5⟩, _⟩ := h.ex
  exact ⟨(a, oe), ⟨h3, vs, h5, h4.2.2 vs h5⟩, h1⟩

/-! ### try: body, except C as n: suite -/
def wTry (i : Nat) (ns : List Str) (t : WS) (u : XD → WS) : WS := fun env k => t env { k with ex := fun e x => x.name ∈ ns ∧ (∃ s, e[i]? = some s) ∧ u x (e.set i .un) { nx := fun e2 => k.nx (e2.set i .un), rt := k.rt, bk := fun e2 => k.bk (e2.set i .un), ct := fun e2 => k.ct (e2.set i .un), ex := NoX } }
section
variable {B : Bs} {W : WX} {X : Cx} {cx n : Str} {c : Value} {i : Nat} {b₀ : Stmt} {body suite : List Stmt} {t : WS} {u : XD → WS} {ns : List Str} {np pos pos' : Pos}
end
end Dl
end L2

/-! The D layer, 18: what is asked of a handled exception; defs called while one is handled; count, index. -/
namespace L2
namespace Dl
open PySem PySem.Spec PyProof.Rows L2H

/-! ### e.f, isinstance(e, C) -/
def wXf (ns : List Str) (x : XD) (f : Str) : WE := fun env Ke _ => x.name ∈ ns ∧ ∃ d, x.fs.lookup f = some d ∧ Ke env (.val d)
section
variable {B : Bs} {W : WX} {X : Cx} {i : Nat} {x : XD} {ns : List Str} {nm f T : Str} {p p1 p2 pos : Pos}
theorem HX.at (hx : HX X B i x) {F H : Hp} {env : Ev} {σ : St} {pins : List (Addr × Obj)} {s : Shared} (I : Inv X pins σ H s) (R : Rl X.K B F H env σ) : ∃ (a C : Addr) (oe : Obj) (d : Option Addr), σ[i]? = some (some (.ref a)) ∧ s.heap.get? a = some oe ∧ L2N.Zn (.ref C) d oe ∧ (∃ vs, oe.data = .fields vs) ∧ X.mg x.name = some (.ref C) ∧
    match d with
    | none => x.fs = []
    | some dx => ∃ fs, F dx = some (.xd fs) ∧ fsR X.K F fs x.fs := by
  obtain ⟨a, C, oe, d, h1, h2, h3, h4, h5, h6, h7⟩ := hx.ex
  refine ⟨a, C, oe, d, R.lsl (i, a) (List.mem_append_left _ h2), (I.pin (a, oe) (List.mem_append_left _ h1)).1, h4, h5, h6, ?_⟩
  cases d with
  | none => exact h7
  | some dx =>
    obtain ⟨fs, g1, g2⟩ := h7
    exact ⟨fs, R.sub0 _ _ g1, fsR.mono R.sub0 g2⟩
/-- a name of a class, with its value -/
def ClsN (X : Cx) (T : Str) (cv : Value) : Prop := (∃ C, cv = .ref C ∧ X.mg T = some (.ref C)) ∨ (∃ t, cv = .type t ∧ X.mg T = none ∧ bootBuiltins T = some (.type t))
theorem ClsN.pe {cv : Value} (h : ClsN X T cv) (hg : Gl X T) (hn : T ≠ "__name__") (hdb : (T == ("__debug__" : Str)) = false) : ∃ v : V, PE X (.Name T p2) (tC v) ∧ ∀ u, RelV v u → u = cv := by
  rcases h with ⟨C, rfl, h1⟩ | ⟨t, rfl, h1, h2⟩
  · exact ⟨.ref C, pe_glob hg h1 rfl hdb, fun u e => e⟩
  · exact ⟨.ty t, pe_bltn hg h1 h2 rfl hn hdb, fun u e => e⟩
end
end Dl
end L2

/-! The D layer, 19: defs called while an exception is handled. -/
namespace L2
namespace Dl
open PySem PySem.Spec PyProof.Rows L2H

/-- a def that may be handed the handled exception: its promise knows the exception's object -/
structure FnX (P : Program) (w : World) (K : PySem.W.Frag) (mg : Str → Option Value) (base : Heap) (CX : CXT) (k : Nat) (f : Addr) (fd : FuncData) (ps : List Str) (sp : Addr × Obj → Sp) : Prop where
  len : ∀ p vs H Q E, sp p vs H Q E → vs.length = ps.length
  run : ∀ (p : Addr × Obj) (A : Around) (outer : List Env) (s : Shared) (H : Hp) (args : Args) (us : List Value) (vs : List V) (Q : VK) (E : XK), RoomH k A → Hot1 A p → PinOk outer H s p → Env0 P w K mg base A outer s H → BindsTo s fd args (ps.zip us) → Vals vs us → sp p vs H Q E →
    codeAny (model P w) A (.call (.ref f) args) (CR CX outer P w H s Q E) s
section
variable {P : Program} {w : World} {K : PySem.W.Frag} {mg : Str → Option Value} {base : Heap}
end

/-! ### a def keeps its promise while an exception is handled -/
section
variable {P : Program} {w : World} {K : PySem.W.Frag} {mg : Str → Option Value} {base : Heap}
/-- what is promised of a handled exception -/
abbrev SpcE := XD → (Rv → Prop) → Prop
def lowX (K : PySem.W.Frag) (mg : Str → Option Value) (S : SpcE) : Addr × Obj → Sp := fun p vs H Q _ => vs = [.ref p.1] ∧ ∃ (x : XD) (C : Addr) (d : Option Addr) (F : Hp) (Kr : Rv → Prop), Same F H ∧ mg x.name = some (.ref C) ∧ L2N.Zn (.ref C) d p.2 ∧ (∃ vs, p.2.data = .fields vs) ∧ (match d with
    | none => x.fs = []
    | some dx => ∃ fs, F dx = some (.xd fs) ∧ fsR K F fs x.fs) ∧ S x Kr ∧ ∀ r F' H' v, Aft K F H [] F' H' [] → RvR K H F' H' v r → Kr r → Q v H'
end

/-! ### calls -/
def CalH (P : Program) (w : World) (K : PySem.W.Frag) (mg : Str → Option Value) (base : Heap) (k : Nat) (x : Str) (n : Nat) (S : Spc) : Prop :=
  ∃ f fd ps, ps.length = n ∧ mg x = some (.ref f) ∧ PySem.W.keepIn K (.ref f) = true ∧ Binds K fd ps [] ∧ FnH P w K mg base (L2N.CX P w) k f fd ps (low K mg n S)
def CalX (P : Program) (w : World) (K : PySem.W.Frag) (mg : Str → Option Value) (base : Heap) (k : Nat) (x : Str) (S : SpcE) : Prop :=
  ∃ f fd pn, mg x = some (.ref f) ∧ PySem.W.keepIn K (.ref f) = true ∧ Binds K fd [pn] [] ∧ FnX P w K mg base (L2N.CX P w) k f fd [pn] (lowX K mg S)
def wCallX (S : SpcE) (x : XD) : WE := fun env Ke _ => S x fun r => Ke env (rsOf r)
section
variable {P : Program} {w : World} {K : PySem.W.Frag} {mg : Str → Option Value} {base : Heap}
theorem FnH.mono {CX : CXT} {j k : Nat} {f : Addr} {fd : FuncData} {ps : List Str} {sp : Sp} (F : FnH P w K mg base CX j f fd ps sp) (h : j ≤ k) : FnH P w K mg base CX k f fd ps sp := ⟨F.len, fun A outer s H args us vs Q E p r => F.run A outer s H args us vs Q E p (r.mono h)⟩
theorem FnX.mono {CX : CXT} {j k : Nat} {f : Addr} {fd : FuncData} {ps : List Str} {sp : Addr × Obj → Sp} (F : FnX P w K mg base CX j f fd ps sp) (h : j ≤ k) : FnX P w K mg base CX k f fd ps sp := ⟨F.len, fun p A outer s H args us vs Q E r => F.run p A outer s H args us vs Q E (r.mono h)⟩
theorem CalH.mono {j k n : Nat} {x : Str} {S : Spc} (c : CalH P w K mg base j x n S) (h : j ≤ k) : CalH P w K mg base k x n S := by
  obtain ⟨f, fd, ps, h0, h1, h2, h3, h4⟩ := c
  exact ⟨f, fd, ps, h0, h1, h2, h3, FnH.mono h4 h⟩
theorem CalX.mono {j k : Nat} {x : Str} {S : SpcE} (c : CalX P w K mg base j x S) (h : j ≤ k) : CalX P w K mg base k x S := by
  obtain ⟨f, fd, pn, h1, h2, h3, h4⟩ := c
  exact ⟨f, fd, pn, h1, h2, h3, FnX.mono h4 h⟩
end
section
variable {B : Bs} {W : WX} {X : Cx} {k n i : Nat} {x nm : Str} {S : Spc} {e : Expr} {es : List Expr} {wm : WM} {p p1 pos : Pos}
end
end Dl
end L2

/-! The D layer, 20: the exceptions' classes, looked at once. -/
namespace L2
namespace Dl
open PySem PySem.Spec PyProof.Rows L2H
def xall : List Str := ["NoClock", "NoNumber", "NoPlace", "NoRow", "NoClocks", "NoText", "TooGreat"]
def xfld : List Str := ["many", "most", "number", "row"]
structure XFacts (K : PySem.W.Frag) (mg : Str → Option Value) : Prop where
  ce : ∃ C0, mg "ClockError" = some (.ref C0) ∧ ∀ n ∈ xall, ∃ C, mg n = some (.ref C) ∧ PySem.W.exmOne K (.ref C) (.ref C0) = some true
  at_ : ∀ n ∈ xall, ∀ C, mg n = some (.ref C) → ExcC K C ∧ XfC K C ∧ (∀ f ∈ xfld, PySem.W.findIn K (.ref C) f = some none) ∧ PySem.W.kitOne K (.ref C) (.type "ValueError") = some true ∧
    ∀ m ∈ xall, ∃ D, mg m = some (.ref D) ∧ PySem.W.kitOne K (.ref C) (.ref D) = some (decide (n = m))
section
variable {B : Bs} {W : WX} {X : Cx} {i : Nat} {x : XD} {nm f T : Str} {p p1 p2 pos pos' np : Pos} {ns : List Str}
end
/-! the classes that are raised -/
end Dl
end L2

/-! The D layer, 21: xs.count(y), xs.index(y). -/
namespace L2
namespace Dl
open PySem PySem.Spec PyProof.Rows L2H
/-- a method of a list that only reads it, with one argument -/
abbrev Rd := List PyData → PyData → (PyData → Prop) → Prop
def isLst : PyData → Prop
  | .list _ => True
  | _ => False
def wRd (w wa : WE) (μ : Rd) : WE := fun env Ke Kx => w env (fun e1 r1 => rdK e1 r1 isLst ∧ wa e1 (fun e2 r2 => rdK e2 r1 fun d1 => rdK e2 r2 fun d2 => ∃ ds, d1 = .list ds ∧ μ ds d2 fun d => Ke e2 (.val d)) Kx) Kx
def muCount : Rd := fun ds d K => SeqAt.shaped (.list ds) = true ∧ SeqAt.shaped d = true ∧ K (.int (ds.countP fun y => PyData.eqv y d : Nat))
section
variable {B : Bs} {W : WX} {X : Cx}
def rCountD (K : PySem.W.Frag) : V → List V → Hp → VK → Prop := fun x xs H Q => ∃ (a : Addr) (y : V) (d : PyData) (ds : List PyData), x = V.ref a ∧ xs = [y] ∧ Dp K H (V.ref a) (.list ds) ∧ Dp K H y d ∧ SeqAt.shaped (.list ds) = true ∧ SeqAt.shaped d = true ∧ Q (.int (ds.countP fun y => PyData.eqv y d : Nat)) H
theorem mt_countD (hu : X.A.units + 65 < cLine) : MtR X "list.count" (rCountD X.K) := by
  intro pins s σ H x xs v us Q I rx rxs ⟨a, y, d, ds, e1, e2, hl, hy, sl, sd, q⟩
  subst e1 e2
  cases rx
  cases rxs with
  | cons ry rt =>
    cases rt
    obtain ⟨bs, r1⟩ := Dp.reads I d y _ hy ry
    cases hl with
    | lst hs ha =>
      obtain ⟨its, rv, hp, hz⟩ := I.list hs
      obtain ⟨as, h4⟩ := Dp.readsAll I ds _ its ha rv
      exact SeqAt.count_list_data (vs := its.toArray) hp.isList h4 r1 (PyData.plainAll_of_canLay0 _ (SeqAt.canLay_of_shaped sl)) (PyData.plain_of_canLay0 _ (SeqAt.canLay_of_shaped sd)) (room_in_shaped sd hu) ⟨.int _, H, I.tok _, ⟨_, rfl⟩, q⟩
variable {e o : Expr} {w wo : WE} {apos cpos : Pos} {name : Str} {id : String} {r : V → List V → Hp → VK → Prop} {μ : Rd}
theorem de_rd (slot : Slot "list" name id) (hty : typeOf (.builtin id) = pure (.type "method_descriptor")) (hm : MtR X id r) (ho : DE B W X o wo) (ha : DE B W X e w)
    (hmono : ∀ (x : V) (xs : List V) (H : Hp) (Q Q' : VK), (∀ y H', Q y H' → Q' y H') → r x xs H Q → r x xs H Q')
    (hr : ∀ (F H : Hp) (v : V) (y : V) (ds : List PyData) (d : PyData) (Kn : PyData → Prop), Same F H → Rt X.K F H v (.list ds) → Rt X.K F H y d → μ ds d Kn → r v [y] H (fun z H' => H' = H ∧ ∃ d', Rp X.K F z d' ∧ Kn d'))
    (hbase : attributeBase o name X.env (eval o X.env) = eval o X.env := by rfl)
    (hfew : ((backTo cpos (starEach [e] X.env)).all (fun x => !x.1) && (backToKw cpos (keywordEach [] X.env)).all (fun x => x.1.isSome)
      && decide ([e].length + ([] : List Keyword).length + (if ([] : List Keyword).isEmpty then 0 else 1) < 30)) = true := by rfl)
    (hline : (apos.endLine == cpos.line) = true := by rfl) (hs : starEach [e] X.env = (false, eval e X.env) :: starEach [] X.env := by rfl) (hplain : (backTo cpos (starEach [] X.env)).any (·.1) = false := by rfl) :
    DE B W X (.Call (.Attribute o name apos) [e] [] cpos) (wRd wo w μ) := by
  refine ⟨fun pins s σ F H env Ke Kx I R h hx => ?_⟩
  have pe := pe_bm (cpos := cpos) (apos := apos) PySem.F.plainAttrs_list slot hty hm ho.pe (pa_cons ha.pe pa_nil hs) hbase hfew hline hs hplain
  refine thn (pe.run pins s σ H (fun v H' => ∃ env' d F', Rl X.K B F' H' env' σ ∧ Fm env σ F H env' F' H' ∧ Rp X.K F' v d ∧ Ke env' (.val d)) I ?_) fun u s1 ⟨v, H', I', rv, env', d, F', h1, h2, h3, h4⟩ => ⟨v, env', .val d, F', H', I', rv, h1, h2, h3, trivial, h4⟩
  refine ⟨F, env, _, Kx, R, h, hx, fun v e1 r1 F1 H1 R1 f1 q1 n1 ⟨⟨d0, g0, i0⟩, k1⟩ => ⟨?_, F1, e1, _, Kx, R1, k1, hx, fun y e2 r2 F2 H2 R2 f2 q2 n2 ⟨d1, g1, d2, g2, ds, g3, k⟩ => ?_⟩⟩
  · obtain ⟨ds0, rfl⟩ : ∃ ds0, d0 = .list ds0 := by cases d0 <;> first | exact ⟨_, rfl⟩ | exact i0.elim
    obtain ⟨p, vs, rfl, z1, z2⟩ := (q1.rt R1 g0).list R1.sub
    exact .inl ⟨rfl, vs, z1⟩
  · subst g3
    exact hmono _ _ _ _ _ (fun z H' ⟨e, d', z1, z2⟩ => by subst e; exact ⟨e2, d', F2, R2, f1.trans f2, z1, z2⟩) (hr F2 H2 v y ds d2 _ R2.sub ((q1.step f2).rt R2 g1) (q2.rt R2 g2) k)
theorem rCountD_mono {K : PySem.W.Frag} (x : V) (xs : List V) (H : Hp) (Q Q' : VK) (h : ∀ y H', Q y H' → Q' y H') : rCountD K x xs H Q → rCountD K x xs H Q' := fun ⟨a, y, d, ds, h1, h2, h3, h4, h5, h6, q⟩ => ⟨a, y, d, ds, h1, h2, h3, h4, h5, h6, h _ _ q⟩
theorem de_count (hu : X.A.units + 65 < cLine) (ho : DE B W X o wo) (ha : DE B W X e w) (hbase : attributeBase o "count" X.env (eval o X.env) = eval o X.env := by rfl)
    (hfew : ((backTo cpos (starEach [e] X.env)).all (fun x => !x.1) && (backToKw cpos (keywordEach [] X.env)).all (fun x => x.1.isSome)
      && decide ([e].length + ([] : List Keyword).length + (if ([] : List Keyword).isEmpty then 0 else 1) < 30)) = true := by rfl)
    (hline : (apos.endLine == cpos.line) = true := by rfl) (hs : starEach [e] X.env = (false, eval e X.env) :: starEach [] X.env := by rfl) (hplain : (backTo cpos (starEach [] X.env)).any (·.1) = false := by rfl) :
    DE B W X (.Call (.Attribute o "count" apos) [e] [] cpos) (wRd wo w muCount) := by
  refine de_rd PySem.F.slot_list_count PySem.F.type_list_count (mt_countD hu) ho ha rCountD_mono (fun F H v y ds d Kn s h1 h2 ⟨g1, g2, g3⟩ => ?_) hbase hfew hline hs hplain
  obtain ⟨p, vs, rfl, _⟩ := h1.list s
  exact ⟨p, y, d, ds, rfl, rfl, h1.dp s g1, h2.dp s g2, g1, g2, rfl, _, .int _, g3⟩
end
end Dl
end L2

/-! The D layer, 22: calls that only look at lists; [..] * k; enumerate of a list. -/
namespace L2
namespace Dl
open PySem PySem.Spec PyProof.Rows L2H

/-! ### f(xs, ..) that answers with no object: xs stays its holder's -/
def scal : PyData → Bool
  | .none | .bool _ | .int _ | .str _ => true
  | _ => false
/-- a name: a list of its own is lent, to be looked at -/
def wBr (i : Nat) (wm : WM) : WM := fun env Ka Kx => (∃ l ds, env[i]? = some (Sl.own l ds) ∧ wm env (fun e as => Ka e (.ln i :: as)) Kx) ∨ ∃ d, env[i]? = some (Sl.val d) ∧ wm env (fun e as => Ka e (.fz d :: as)) Kx
def avsB (env : Ev) : List Ar → Option (List AV)
  | [] => some []
  | .fz d :: as => (avsB env as).map (.val d :: ·)
  | .ln i :: as => match env[i]? with
    | some (.own _ ds) => (avsB env as).map (.val (.list ds) :: ·)
    | _ => none
def wCallS (n : Nat) (S : Spc) (wm : WM) : WE := fun env Ke Kx => wm env (fun e as => ∃ avs, avsB e as = some avs ∧ avs.length = n ∧ S avs (fun _ r => ∃ d, r = .val d ∧ scal d = true ∧ Ke e (.val d)) (fun _ _ => False)) Kx
section
variable {K : PySem.W.Frag} {B : Bs} {F H H' : Hp} {env : Ev} {σ : St}
/-- what stood stands -/
theorem Rl.later (R : Rl K B F H env σ) (k : ∀ b x, H b = some x → H' b = some x) : Rl K B F H' env σ ∧ Fm env σ F H env F H' := by
  have dm : ∀ b, H b ≠ none → H' b ≠ none := fun b h => by
    cases q : H b with
    | none => exact absurd q h
    | some x => rw [k b x q]; simp
  refine ⟨⟨R.len, fun b x h => k b x (R.sub b x h), fun j => ?_, R.dist, R.sub0, R.new, fun b x h n => k b x (R.frm b x h n), fun b h => dm b (R.dom b h), R.own0, R.own1, R.lsl, R.dd, R.d0⟩, ⟨fun b x h _ => k b x h, fun _ _ h => h, fun _ _ h => .inl h, fun _ _ _ h => ⟨_, h⟩, dm, fun _ _ h => ⟨_, h⟩⟩⟩
  have s := R.sl j
  cases q : env[j]? with
  | none => trivial
  | some z =>
    rw [q] at s
    cases z with
    | un => trivial
    | val d => exact s
    | own l ds =>
      obtain ⟨a, ws, g1, g2, g3, g4⟩ := s
      exact ⟨a, ws, g1, k a _ g2, g3, g4⟩
    | dct kv =>
      obtain ⟨a, g1, g2, g3⟩ := s
      exact ⟨a, g1, k a _ g2, g3⟩
end
section
variable {B : Bs} {W : WX} {X : Cx} {k n : Nat} {x : Str} {S : Spc} {e : Expr} {es : List Expr} {wm : WM} {p pos : Pos}
end

/-! ### [..] * k -/
def wRep (wa wb : WE) : WE := fun env Ke Kx => wa env (fun e1 r1 => ∃ ds, r1 = .tmp ds ∧ wb e1 (fun e2 r2 => ∃ k, r2 = .val (.int k) ∧ ds.length * k.toNat ≤ sizeLine ∧ k ≤ 16777216 ∧ -16777216 ≤ k ∧ Ke e2 (.tmp (List.replicate k.toNat ds).flatten)) Kx) Kx
section
variable {B : Bs} {W : WX} {X : Cx} {a b : Expr} {wa wb : WE} {pos : Pos}
theorem de_rep (ha : DE B W X a wa) (hb : DE B W X b wb) : DE B W X (.BinOp a .Mult b pos) (wRep wa wb) := by
  refine ⟨fun pins s σ F H env Ke Kx I R h hx => wpAny_BinOp ?_⟩
  refine thn (ha.run pins s σ F H env _ Kx I R h hx) fun v s1 ⟨x, env1, r1, F1, H1, I1, rx, R1, f1, q1, n1, ds, er, h1⟩ => ?_
  subst er
  refine thn (hb.run pins s1 σ F1 H1 env1 _ Kx I1 R1 h1 hx) fun u s2 ⟨y, env2, r2, F2, H2, I2, ry, R2, f2, q2, n2, k, er, hz, k1, k2, hk⟩ => ?_
  subst er
  cases (show Rp X.K F2 y (.int k) from q2)
  obtain ⟨p, vs, rfl, z1, z2, z3, z4, z5⟩ := q1.step f2
  refine thn (op_rep pins s2 σ H2 (.ref p) (.int k) v u (fun v' H' => ∃ r F', Rl X.K B F' H' env2 σ ∧ Fm env2 σ F2 H2 env2 F' H' ∧ Res X.K B F' H' env2 σ v' r ∧ Nw H2 v' r ∧ Ke env2 r) I2 rx ry ⟨p, k, vs, rfl, rfl, z1, by omega, by omega, by rw [z5.length]; exact hz, fun q hq => ?_⟩) fun w s3 ⟨v', H', I', rv, r, F', g1, g2, g3, g4, g5⟩ => (DP.up f2 ⟨v', env2, r, F', H', I', rv, g1, g2, g3, g4, g5⟩).up f1
  exact new_lst R2 hq (z5.rep k.toNat) hk
end

/-! ### enumerate of a list -/
def enD (ds : List PyData) : List PyData := ds.zipIdx.map fun p => .tuple [.int p.2, p.1]
def wIEnum (wf : WF) : WI := fun env Ki Kx => wf env (fun e ds => ∃ xs, ds = [.list xs] ∧ Ki e (enD xs)) Kx
theorem enD_len (ds : List PyData) : (enD ds).length = ds.length := by unfold enD; rw [List.length_map, List.length_zipIdx]
theorem enD_at {ds : List PyData} {i : Nat} {d : PyData} (h : ds[i]? = some d) : (enD ds)[i]? = some (.tuple [.int i, d]) := by
  unfold enD
  rw [List.getElem?_map, List.getElem?_zipIdx, h]
  simp
theorem good_enum {K : PySem.W.Frag} {B : Bs} {J : It} {F0 : Hp} {vx : List V} {xs : List PyData} (hx : RpAll K F0 vx xs)
    (go : ∀ (F H : Hp) (i : Nat), Same F0 F → Same F H → i < vx.length → J.go i H) (stop : ∀ (F H : Hp) (i : Nat), Same F0 F → Same F H → vx.length ≤ i → J.stop i H)
    (yld : ∀ (F H : Hp) (i : Nat) (v : V) (H' : Hp), Same F0 F → Same F H → J.yld i H v H' → ∃ T x, v = .ref T ∧ H T = none ∧ H' = upd H T (.tup [.int (i : Nat), x]) ∧ vx[i]? = some x) : GoodIt K B J F0 (enD xs) := by
  intro F H env σ i R s
  have l1 := hx.length
  refine ⟨fun hi => ?_, fun hi => ?_⟩
  · rw [enD_len] at hi
    refine ⟨go F H i s R.sub (by omega), fun v H' yl => ?_⟩
    obtain ⟨T, x, rfl, hT, rfl, e1⟩ := yld F H i v H' s R.sub yl
    obtain ⟨dx, g1, r1⟩ := hx.get2 e1
    have hF : F T = none := R.freeF hT
    have sm : Same F (upd F T (.tup [.int (i : Nat), x])) := fun b o e => by
      rw [upd_ne (ne_of_none e hF)]
      exact e
    exact ⟨upd F T (.tup [.int (i : Nat), x]), .tuple [.int i, dx], R.layF hT, R.fmLayF hT, enD_at g1, .tup upd_same (.cons (.int _) (.cons (Rp.mono (s.trans sm) _ _ r1) .nil))⟩
  · rw [enD_len] at hi
    exact stop F H i s R.sub (by omega)
theorem di_enum {B : Bs} {W : WX} {X : Cx} {e : Expr} {wf : WF} {p pos tpos : Pos} {elts : List Expr} {kk : Nat} (h : DF B W X [e] wf) (hg : Gl X "enumerate") (hm : X.mg "enumerate" = none)
    (hs : starEach [e] X.env = [(false, eval e X.env)] := by rfl) : DI B W X (.Tuple elts kk tpos) (.Call (.Name "enumerate" p) [e] [] pos) (wIEnum wf) := by
  refine ⟨⟨fun pins s σ H R I ⟨F, env, Ki, Kx, R0, hw, hx, q⟩ => ?_⟩⟩
  refine (pi_enum (p := p) (pos := pos) (tpos := tpos) (elts := elts) (kk := kk) hg hm h.pa hs).run pins s σ H R I ⟨F, env, _, Kx, R0, hw, hx, fun vs env' ds F' H' R' f' r' ⟨xs, e1, k'⟩ => ?_⟩
  subst e1
  cases r' with
  | cons a1 t1 =>
    cases t1
    cases a1 with
    | @lst ad vx _ h1 h2 =>
      refine ⟨ad, vx, rfl, R'.sub.seq h1, q _ env' F' H' _ R' f' (good_enum h2 (fun F H i s1 s2 i1 => ?_) (fun F H i s1 s2 hi => ?_) (fun F H i v H' s1 s2 yl => ?_)) k'⟩
      · exact ⟨vx, vx[i], (s1.trans s2).seq h1, List.getElem?_eq_getElem i1⟩
      · exact ⟨vx, (s1.trans s2).seq h1, hi⟩
      · obtain ⟨T, x, e1, e2, e3, e4⟩ := yl
        exact ⟨T, x, e1, e2, e3, e4 _ ((s1.trans s2).seq h1)⟩
end Dl
end L2

/-! The D layer, 23: loops, unpacking and pairs while an exception is handled. -/
namespace L2
namespace Dl
open PySem PySem.Spec PyProof.Rows L2H HotX

section
variable {prog : Program} {w : World} {A : Around} {E : Value → Shared → Prop} {s : Shared}
end

section
variable {X : Cx}
theorem HotC.pin {pins : List (Addr × Obj)} {σ : St} {H : Hp} {s : Shared} (c : HotC X) (I : Inv X pins σ H s) : ∃ p ∈ X.pn, HotAt X.A p.1 s.heap := by
  obtain ⟨p, ⟨hh, v1, e1, c1⟩, hp⟩ := c
  exact ⟨p, hp, hh, p.2, v1, (I.pin p (List.mem_append_left _ hp)).1, e1, c1⟩
end

/-! ### what is walked there -/
def seqOf : PyData → Option (List PyData)
  | .list ds => some ds
  | .tuple ds => some ds
  | _ => none
def wISq (w : WE) : WI := fun env Ki Kx => wFz w env (fun e d => ∃ ds, seqOf d = some ds ∧ Ki e ds) Kx
structure DIH (B : Bs) (W : WX) (X : Cx) (tg iter : Expr) (w : WI) : Prop where
  pi : PIH X tg iter (fun σ H R => ∃ F env Ki Kx, Rl X.K B F H env σ ∧ w env Ki Kx ∧ XC X.K B W Kx ∧ ∀ J env' F' H' ds, Rl X.K B F' H' env' σ → Fm env σ F H env' F' H' → GoodIt X.K B J F' ds → Ki env' ds → R J H')
section
variable {B : Bs} {W : WX} {X : Cx} {tg e : Expr} {w : WE} {pos : Pos}
/-! ### (a, b) = pair; a, b = x, y -/
end
section
variable {P : Program} {w : World} {K : PySem.W.Frag} {mg : Str → Option Value} {base : Heap}
/-- a def that is not called -/
theorem cal_never {x : Str} {st : Stmt} {qual : Str} {f : Addr} {fd : FuncData} {ps : List Str} {k : Nat} (F : Fun K x qual st f fd) (hm : mg x = some (.ref f)) (hb : Binds K fd ps []) : Cal P w K mg base k x ps.length (fun _ _ _ => False) :=
  ⟨f, fd, ps, rfl, hm, F.kp, hb, ⟨fun _ _ _ _ h => by obtain ⟨_, _, _, _, _, _, _, _, h, _⟩ := h; exact h.elim, fun _ _ _ _ _ _ _ _ _ _ _ _ _ h => by obtain ⟨_, _, _, _, _, _, _, _, h, _⟩ := h; exact h.elim⟩⟩
end
/-! ### x[i] += e of a list of one's own -/
section
variable {B : Bs} {W : WX} {X : Cx} {x : Str} {a e : Expr} {wi w : WE} {p pos spos : Pos}
end
/-! ### an expression that only looks: one's own lists are put away, one is lent to it -/
section
variable {K : PySem.W.Frag} {B : Bs} {F H : Hp} {env : Ev} {σ : St}
end
section
variable {B : Bs} {W : WX} {X : Cx} {e : Expr} {w : WE}
end
end Dl
end L2

/-! The D layer, 24: a list comprehension while an exception is handled. -/
namespace L2
namespace Dl
open PySem PySem.Spec PyProof.Rows L2H HotX

/-- a block's context that keeps what is handled -/
abbrev hotB (X : Cx) (s : Shared) (H : Hp) (scope : Scope) (cenv : Env) (fp : List Addr) : Cx := { X.blk s H scope cenv fp with pn := X.pn }
section
variable {X : Cx} {s : Shared} {H : Hp} {σ : St} {pins : List (Addr × Obj)}
end
section
variable {B : Bs} {W : WX} {X : Cx} {tg iter elt : Expr} {is : List Nat} {wi : WI} {g : WG} {ct : WT} {we : WE} {pos : Pos}
end
end Dl
end L2

/-! The D layer, 25: enumerate of a tuple. -/
namespace L2
namespace Dl
open PySem PySem.Spec PyProof.Rows Builtin

section
open AutoSeq1 (wpAny_loadPart')
variable {prog : Program} {w : World} {A : Around} {E : Value → Shared → Prop} {s : Shared}
end
/-- for i, x in enumerate(a tuple) -/
def wIEnumT (wf : WF) : WI := fun env Ki Kx => wf env (fun e ds => ∃ xs, ds = [.tuple xs] ∧ Ki e (enD xs)) Kx
end Dl
end L2

/-! The D layer, 26: f(xs, ..) that answers with no list: xs stays its holder's. -/
namespace L2
namespace Dl
open PySem PySem.Spec PyProof.Rows L2H

mutual
def tupD : PyData → Bool
  | .none | .bool _ | .int _ | .str _ => true
  | .tuple ds => tupDs ds
  | .list _ => false
  | .dict _ => false
def tupDs : List PyData → Bool
  | [] => true
  | d :: ds => tupD d && tupDs ds
end
def wCallT (n : Nat) (S : Spc) (wm : WM) : WE := fun env Ke Kx => wm env (fun e as => ∃ avs, avsB e as = some avs ∧ avs.length = n ∧ S avs (fun _ r => ∃ d, r = .val d ∧ tupD d = true ∧ Ke e (.val d)) (fun _ x => (∀ p ∈ x.fs, tupD p.2 = true) ∧ Kx e x)) Kx
section
variable {K : PySem.W.Frag} {B : Bs} {F F1 F2 H H' : Hp} {env : Ev} {σ : St}
end
section
variable {B : Bs} {W : WX} {X : Cx} {k n : Nat} {x : Str} {S : Spc} {e : Expr} {es : List Expr} {wm : WM} {p pos : Pos}
end
end Dl
end L2

/-! The D layer, 27: range with a step. -/
namespace L2
namespace Dl
open PySem PySem.Spec PyProof.Rows L2H

def rg3 (i c : Int) (n : Nat) : List PyData := (List.range n).map fun (m : Nat) => PyData.int (i + (m : Int) * c)
def wIRng3 (wf : WF) : WI := fun env Ki Kx => wf env (fun e ds => ∃ i j c n, ds = [.int i, .int j, .int c] ∧ RgC i j c n ∧ Ki e (rg3 i c n)) Kx
section
variable {B : Bs} {W : WX} {X : Cx} {tg a b c : Expr} {wf : WF} {p pos : Pos}
end
end Dl
end L2

/-! The D layer, 28: (..) * k. -/
namespace L2
namespace Dl
open PySem PySem.Spec PyProof.Rows L2H
def wRepT (wa wb : WE) : WE := fun env Ke Kx => wa env (fun e1 r1 => ∃ ds, r1 = .val (.tuple ds) ∧ wb e1 (fun e2 r2 => ∃ k, r2 = .val (.int k) ∧ ds ≠ [] ∧ 2 ≤ k ∧ k ≤ 1000 ∧ ds.length ≤ 1000 ∧ Ke e2 (.val (.tuple (List.replicate k.toNat ds).flatten))) Kx) Kx
section
variable {B : Bs} {W : WX} {X : Cx} {a b : Expr} {wa wb : WE} {pos : Pos}
end
end Dl
end L2

/-! The D layer, 29: dicts of one's own, their keys tuples of ints. -/
namespace L2
namespace Dl
open PySem PySem.Spec PyProof.Rows

def isDct (env : Ev) (i : Nat) : Prop := ∃ kvs, env[i]? = some (Sl.dct kvs)
def putD (kvs : List (List Int × PyData)) (k : List Int) (d : PyData) : List (List Int × PyData) :=
  if (kvs.any fun p => decide (p.1 = k)) = true then kvs.map (fun p => if p.1 = k then (p.1, d) else p) else kvs ++ [(k, d)]
/-- what a dict's value may be -/
def scD : PyData → Prop
  | .int _ => True
  | .bool _ => True
  | .str _ => True
  | .none => True
  | _ => False
section
variable {K : PySem.W.Frag} {B : Bs} {F H : Hp} {env : Ev} {σ : St}
theorem Rp.scD {v : V} {d : PyData} (h : Rp K F v d) (s : scD d) : v = vOf d := by
  cases h with
  | non => rfl
  | bl b => rfl
  | int i => rfl
  | str x => rfl
  | lst _ _ => exact s.elim
  | tup _ _ => exact s.elim
  | dct _ => exact s.elim
theorem ints_key (ks : List Int) : (ks.map (Sum.inl : Int → Key)).map kV = ks.map V.int := by
  rw [List.map_map]
  rfl
/-- F takes in tuples of ints that stand in H -/
theorem Rl.keys : ∀ (kvs : List (List Int × PyData)) (bs : List Addr) (F : Hp), Rl K B F H env σ → IsKeys H (kvO kvs) bs → ∃ F2, Rl K B F2 H env σ ∧ Fm env σ F H env F2 H ∧ RpAll K F2 (bs.map V.ref) (kvs.map fun p => .tuple (p.1.map .int))
  | [], _, F, R, h => by
    cases h
    exact ⟨F, R, Fm.refl, .nil⟩
  | p :: kvs, _, F, R, h => by
    unfold IsKeys kvO at h
    rw [List.map_cons] at h
    cases h with
    | @cons _ b _ bs h1 h2 =>
      obtain ⟨F2, R2, f2, r2⟩ := Rl.keys kvs bs F R h2
      replace h1 : H b = some (.tup (p.1.map V.int)) := by
        rw [← ints_key]
        exact h1
      cases q : F2 b with
      | some x =>
        have q2 := R2.sub b x q
        rw [h1] at q2
        cases q2
        exact ⟨F2, R2, f2, .cons (.tup q (RpAll.of_ints _)) r2⟩
      | none =>
        have nb : ¬ ownAt env σ b := fun z => by
          obtain ⟨ob, z1, _, z3⟩ := R.ownH z
          rw [h1] at z1
          cases z1
          rcases z3 with ⟨_, z3⟩ | ⟨_, z3⟩ <;> cases z3
        have s1 : Same F2 (upd F2 b (.tup (p.1.map V.int))) := fun c x e => by rw [upd_ne (ne_of_none e q)]; exact e
        refine ⟨upd F2 b (.tup (p.1.map V.int)), ?_, ⟨f2.keep, f2.sub.trans s1, fun c x e => ?_, f2.own, f2.dom, f2.od⟩, .cons (.tup upd_same (RpAll.of_ints _)) (RpAll.mono s1 _ _ r2)⟩
        · refine ⟨R2.len, fun c x e => ?_, fun i => ?_, R2.dist, R2.sub0.trans s1, fun c x e => ?_, R2.frm, R2.dom, R2.own0, R2.own1, R2.lsl, R2.dd, R2.d0⟩
          · by_cases hc : c = b
            · subst hc
              rw [upd_same] at e
              cases e
              exact h1
            · rw [upd_ne hc] at e
              exact R2.sub c x e
          · have s := R2.sl i
            cases qi : env[i]? with
            | none => trivial
            | some z =>
              rw [qi] at s
              cases z with
              | un => trivial
              | val d =>
                obtain ⟨v, g1, g2⟩ := s
                exact ⟨v, g1, Rp.mono s1 _ _ g2⟩
              | own l ds =>
                obtain ⟨a, vs, g1, g2, g3, g4⟩ := s
                refine ⟨a, vs, g1, g2, ?_, RpAll.mono s1 _ _ g4⟩
                rw [upd_ne (fun z => nb (.inl ⟨i, l, ds, qi, by rw [← z]; exact g1⟩))]
                exact g3
              | dct kv =>
                obtain ⟨a, g1, g2, g3⟩ := s
                refine ⟨a, g1, g2, ?_⟩
                rw [upd_ne (fun z => nb (.inr ⟨i, kv, qi, by rw [← z]; exact g1⟩))]
                exact g3
          · by_cases hc : c = b
            · subst hc
              rw [upd_same] at e
              cases e
              exact .inr (.inr ⟨_, rfl⟩)
            · rw [upd_ne hc] at e
              exact R2.new c x e
        · by_cases hc : c = b
          · subst hc
            rw [upd_same] at e
            cases e
            exact .inr (.inl (.inr ⟨h1, _, rfl⟩))
          · rw [upd_ne hc] at e
            exact f2.new c x e
end

section
variable {B : Bs} {W : WX} {X : Cx} {x : Str} {a e : Expr} {wi w : WE} {p p2 pos pos' spos : Pos}
/-- x = {} -/
def wNewD (i : Nat) : WS := fun env k => k.nx (env.set i (.dct []))
/-- x[k] = e -/
def wPutD (i : Nat) (wi w : WE) : WS := fun env k => w env (fun env1 r => ∃ d, r = .val d ∧ scD d ∧ isDct env1 i ∧ wi env1 (fun env2 r2 => ∃ ks kvs, r2 = .val (.tuple (ks.map .int)) ∧ env2[i]? = some (Sl.dct kvs) ∧ kvs.length < sizeLine ∧ k.nx (env2.set i (.dct (putD kvs ks d)))) k.ex) k.ex
/-- len(x) -/
def wLenD (i : Nat) : WE := fun env Ke _ => ∃ kvs, env[i]? = some (Sl.dct kvs) ∧ Ke env (.val (.int kvs.length))
/-- list(x): the keys, as they came -/
def wListD (i : Nat) : WE := fun env Ke _ => ∃ kvs, env[i]? = some (Sl.dct kvs) ∧ Ke env (.tmp (kvs.map fun p => .tuple (p.1.map .int)))
end
end Dl
end L2

/-! The D layer, 30: sorted(set(t)), t a tuple of ints. -/
namespace L2
namespace Dl
open PySem PySem.Spec PyProof.Rows
def oSortSetI (xs : List PyData) (K : Rs → Prop) : Prop := ∃ zs : List Int, xs = zs.map .int ∧ zs.length < 64 ∧ ∀ ns : List Int, ns.Pairwise (· < ·) → (∀ k, k ∈ ns ↔ k ∈ zs) → K (.tmp (ns.map .int))
def wSortSetI (w : WE) : WE := fun env Ke Kx => w env (fun env1 r => ∃ xs, r = .val (.tuple xs) ∧ oSortSetI xs (Ke env1)) Kx
section
variable {B : Bs} {W : WX} {X : Cx} {e : Expr} {w : WE} {p p2 q pos : Pos}
end
end Dl
end L2

/-! The D layer, 31: min of a list of things that can be compared. -/
namespace L2
namespace Dl
open PySem PySem.Spec PyProof.Rows
def oMinL : OpN := fun ds K => match ds with
  | [.list (x :: xs)] => PySem.W.AlikeAll (x :: xs) ∧ (∀ d ∈ x :: xs, SeqAt.shaped d = true) ∧ K (.val (PySem.W.minD x xs))
  | _ => False
section
variable {X : Cx}
theorem vals_back : ∀ {xs : List V} {us : List Value} {i : Nat} {u : Value}, Vals xs us → us[i]? = some u → ∃ x, xs[i]? = some x ∧ RelV x u
  | _, _, _, _, .nil, e => by simp at e
  | _, _, 0, _, .cons r _, e => by simp at e; subst e; exact ⟨_, rfl, r⟩
  | _, _, i + 1, _, .cons _ t, e => by
    obtain ⟨x, h1, h2⟩ := vals_back (i := i) t (by simpa using e)
    exact ⟨x, by simpa using h1, h2⟩
end
end Dl
end L2

/-! The D layer, 32: len(set(xs)), xs tuples of ints. -/
namespace L2
namespace Dl
open PySem PySem.Spec PyProof.Rows
def oLenSet (xs : List PyData) (K : Rs → Prop) : Prop := ∃ (L : List (List Int)), xs = L.map tupI ∧ L.length < 64 ∧ ∀ M : List (List Int), M.Nodup → (∀ l, l ∈ M ↔ l ∈ L) → K (.val (.int M.length))
def wLenSet (w : WE) : WE := fun env Ke Kx => w env (fun env1 r => ∃ xs, (rd env1 r = some (.list xs) ∨ rd env1 r = some (.tuple xs)) ∧ oLenSet xs (Ke env1)) Kx
section
variable {B : Bs} {W : WX} {X : Cx} {e : Expr} {w : WE} {p p2 q pos : Pos}
end
end Dl
end L2

/-! The D layer, 33: list(zip(xs, t)), xs a list, t a tuple. -/
namespace L2
namespace Dl
open PySem PySem.Spec PyProof.Rows RZ PySem.Calls
open PySem.Sem (wp)
section
variable {prog : Program} {w : World} {A : Around} {E : Value → Shared → Prop} {s : Shared}
theorem zipN_next_item {z TI TO T i1 i2 l1 l2 : Addr} {f : Bool} {oT : Obj} {k1 k2 : Nat} {xs ys : Array Value} {x y : Value} {Q : Value → Shared → Prop} (D : ZipApart z TI TO i1 i2 l1 l2)
    (hz : IsZipHeld s.heap z TI TO T f) (hT : s.heap.get? T = some oT) (hTI : IsPair s.heap TI (.ref i1) (.ref i2))
    (g1 : s.heap.IsListIter i1 l1 k1) (g2 : s.heap.IsTupleIter i2 l2 k2) (m1 : s.heap.IsList l1 xs) (m2 : s.heap.IsTuple l2 ys) (hx : xs[k1]? = some x) (hy : ys[k2]? = some y)
    (hQ : ∀ h', IsZipHeld h' z TI TO T true → h'.IsListIter i1 l1 (k1 + 1) → h'.IsTupleIter i2 l2 (k2 + 1) → IsPair h' s.heap.objs.size x y → h'.objs.size = s.heap.objs.size + 1 →
      (∀ c o, c ≠ z → c ≠ i1 → c ≠ i2 → s.heap.get? c = some o → h'.get? c = some o) → Q (.ref s.heap.objs.size) { s with heap := h' }) :
    wpAny (model prog w) A (Builtin.«zip.__next__» ⟨[.ref z], []⟩) (fun fin s' => ∃ v, fin = .done (.ret v) ∧ Q v s') E s := by
  show wpAny _ _ (field (.ref z) 2 >>= _) _ _ _
  refine wpAny_bind (wpAny_field hz rfl (x := .bool false) rfl ?_)
  show wpAny _ _ (field (.ref z) 3 >>= _) _ _ _
  refine wpAny_bind (wpAny_field hz rfl (x := .ref TI) rfl ?_)
  refine wpAny_bind (wpAny_seqItems hTI rfl ?_)
  show wpAny _ _ (Builtin.SmallTypes.ownedTupleIsFree (.ref z) >>= _) _ _ _
  refine wpAny_bind (wpAny_tupleHeld_zip hz hT fun h₁ hz₁ hs₁ => ?_)
  simp only [Bool.false_eq_true, if_false]
  refine wpAny_bind ?_
  rw [← Array.forIn_toList]
  simp only [List.forIn_cons, List.forIn_nil]
  refine wpAny_bind (wpAny_bind (wpAny_holding ?_))
  show wpAny _ _ (Builtin.SmallTypes.nextOf (.ref i1) >>= _) _ _ _
  refine wpAny_bind (wpAny_nextOf_list_item (s := { s with heap := h₁ }) (g1.extBut hs₁.extBut D.i1z) (m1.extBut hs₁.extBut D.l1z) hx fun h₂ h1₂ hs₂ => wpAny_pure ?_)
  refine wpAny_pure ?_
  refine wpAny_bind (wpAny_bind (wpAny_holding ?_))
  show wpAny _ _ (Builtin.SmallTypes.nextOf (.ref i2) >>= _) _ _ _
  refine wpAny_bind (nextOf_tuple_item (s := { s with heap := h₂ }) ((g2.extBut hs₁.extBut D.i2z).extBut hs₂.extBut D.i12.symm) ((m2.extBut hs₁.extBut D.l2z).extBut hs₂.extBut D.l2i1) hy fun h₃ h2₃ hs₃ => wpAny_pure ?_)
  refine wpAny_pure (wpAny_pure ?_)
  show wpAny _ _ (newTuple [x, y] >>= _) _ _ _
  refine wpAny_bind (wpAny_newTuple ?_)
  have hsz : h₃.objs.size = s.heap.objs.size := by rw [hs₃.1, hs₂.1, hs₁.1]
  have hz₃ : IsZipHeld h₃ z TI TO T true := hs₃.extBut _ _ D.i2z.symm (hs₂.extBut _ _ D.i1z.symm hz₁)
  have hk : ∀ c o, c ≠ z → c ≠ i1 → c ≠ i2 → s.heap.get? c = some o → h₃.get? c = some o := fun c o c1 c2 c3 e => hs₃.extBut _ _ c3 (hs₂.extBut _ _ c2 (hs₁.extBut _ _ c1 e))
  have h1₃ : h₃.IsListIter i1 l1 (k1 + 1) := h1₂.extBut hs₃.extBut D.i12
  refine wpAny_pure ⟨_, rfl, ?_⟩
  show Q (.ref h₃.objs.size) _
  have hp : IsPair (h₃.push { cls := .type "tuple", data := .seq #[x, y] }) h₃.objs.size x y := Heap.get?_push_size _ rfl
  have hz4 : (h₃.push { cls := .type "tuple", data := .seq #[x, y] }).objs.size = h₃.objs.size + 1 := Heap.size_push ..
  rw [hsz] at hp hz4 ⊢
  exact hQ _ (Heap.get?_push_of_some _ hz₃) (h1₃.at fun o e => Heap.get?_push_of_some _ e) (h2₃.at fun o e => Heap.get?_push_of_some _ e) hp hz4 fun c o c1 c2 c3 e => Heap.get?_push_of_some _ (hk c o c1 c2 c3 e)
theorem zipN_next_end {z TI TO T i1 i2 l1 l2 : Addr} {f : Bool} {oT : Obj} {k1 k2 : Nat} {xs ys : Array Value} {Q : Fin → Shared → Prop} (hh : A.handled = none) (D : ZipApart z TI TO i1 i2 l1 l2)
    (hz : IsZipHeld s.heap z TI TO T f) (hT : s.heap.get? T = some oT) (hTI : IsPair s.heap TI (.ref i1) (.ref i2))
    (g1 : s.heap.IsListIter i1 l1 k1) (g2 : s.heap.IsTupleIter i2 l2 k2) (m1 : s.heap.IsList l1 xs) (m2 : s.heap.IsTuple l2 ys) (hend : xs[k1]? = none ∨ ys[k2]? = none)
    (hE : ∀ h' e, (∀ c o, c ≠ z → c ≠ i1 → c ≠ i2 → s.heap.get? c = some o → h'.get? c = some o) → (∃ o, h'.get? e = some o ∧ o.cls = .type "StopIteration") → E (.ref e) { s with heap := h' }) :
    wpAny (model prog w) A (Builtin.«zip.__next__» ⟨[.ref z], []⟩) Q E s := by
  show wpAny _ _ (field (.ref z) 2 >>= _) _ _ _
  refine wpAny_bind (wpAny_field hz rfl (x := .bool false) rfl ?_)
  show wpAny _ _ (field (.ref z) 3 >>= _) _ _ _
  refine wpAny_bind (wpAny_field hz rfl (x := .ref TI) rfl ?_)
  refine wpAny_bind (wpAny_seqItems hTI rfl ?_)
  show wpAny _ _ (Builtin.SmallTypes.ownedTupleIsFree (.ref z) >>= _) _ _ _
  refine wpAny_bind (wpAny_tupleHeld_zip hz hT fun h₁ hz₁ hs₁ => ?_)
  simp only [Bool.false_eq_true, if_false]
  refine wpAny_bind ?_
  rw [← Array.forIn_toList]
  simp only [List.forIn_cons, List.forIn_nil]
  refine wpAny_bind (wpAny_bind (wpAny_holding ?_))
  show wpAny _ _ (Builtin.SmallTypes.nextOf (.ref i1) >>= _) _ _ _
  cases hx : xs[k1]? with
  | none =>
    refine wpAny_bind (wpAny_nextOf_list_end (s := { s with heap := h₁ }) hh (g1.extBut hs₁.extBut D.i1z) (m1.extBut hs₁.extBut D.l1z) hx fun h₂ e hs₂ he => ?_)
    exact hE h₂ e (fun c o c1 c2 _ x => hs₂ _ _ c2 (hs₁.extBut _ _ c1 x)) he
  | some x =>
    have hy : ys[k2]? = none := by rcases hend with h | h; rw [hx] at h; cases h; exact h
    refine wpAny_bind (wpAny_nextOf_list_item (s := { s with heap := h₁ }) (g1.extBut hs₁.extBut D.i1z) (m1.extBut hs₁.extBut D.l1z) hx fun h₂ h1₂ hs₂ => wpAny_pure ?_)
    refine wpAny_pure ?_
    refine wpAny_bind (wpAny_bind (wpAny_holding ?_))
    show wpAny _ _ (Builtin.SmallTypes.nextOf (.ref i2) >>= _) _ _ _
    refine wpAny_bind (nextOf_tuple_end (s := { s with heap := h₂ }) hh ((g2.extBut hs₁.extBut D.i2z).extBut hs₂.extBut D.i12.symm) ((m2.extBut hs₁.extBut D.l2z).extBut hs₂.extBut D.l2i1) hy fun h₃ e hs₃ he => ?_)
    exact hE h₃ e (fun c o c1 c2 c3 x => hs₃ _ _ c3 (hs₂.extBut _ _ c2 (hs₁.extBut _ _ c1 x))) he
/-- the zip at its k-th turn, its first tuple out or none yet -/
def ZSt (h : Heap) (S z TI TO i1 i2 l1 l2 : Addr) (k : Nat) : Prop := IsPair h TI (.ref i1) (.ref i2) ∧ h.IsListIter i1 l1 k ∧ h.IsTupleIter i2 l2 k ∧
  ((IsZip h z TI TO .none ∧ ∃ a b, IsPair h TO a b) ∨ ∃ T f oT, IsZipHeld h z TI TO T f ∧ h.get? T = some oT ∧ T ≠ z ∧ T ≠ i1 ∧ T ≠ i2 ∧ T ≠ S)
theorem zipS_next {S z TI TO i1 i2 l1 l2 : Addr} {k : Nat} {xs ys : Array Value} {x y : Value} {Q : Option Value → Shared → Prop} (D : ZipApart z TI TO i1 i2 l1 l2)
    (hS : S < s.heap.objs.size) (hz : ZSt s.heap S z TI TO i1 i2 l1 l2 k) (m1 : s.heap.IsList l1 xs) (m2 : s.heap.IsTuple l2 ys) (hx : xs[k]? = some x) (hy : ys[k]? = some y)
    (hQ : ∀ h', ZSt h' S z TI TO i1 i2 l1 l2 (k + 1) → IsPair h' s.heap.objs.size x y → h'.objs.size = s.heap.objs.size + 1 →
      (∀ c o, c ≠ z → c ≠ TO → c ≠ i1 → c ≠ i2 → s.heap.get? c = some o → h'.get? c = some o) → Q (some (.ref s.heap.objs.size)) { s with heap := h' }) :
    wpAny (model prog w) A (pyNext (.ref z)) Q E s := by
  obtain ⟨hTI, g1, g2, ⟨hz, a, b, hTO⟩ | ⟨T, f, oT, hz, hT, tz, t1, t2, t3⟩⟩ := hz
  · refine pyNext_zipM_item D hz hTI hTO g1 g2 m1 m2 hx hy fun h' z' TO' h1' h2' hp hsz hk => hQ h' ⟨?_, h1', h2', .inr ⟨_, false, _, z', hp, ?_, ?_, ?_, Nat.ne_of_gt hS⟩⟩ hp hsz hk
    · exact hk _ _ D.TIz D.TITO D.TIi1 D.TIi2 hTI
    · exact Nat.ne_of_gt (Heap.lt_size hz)
    · obtain ⟨_, e, _⟩ := g1; exact Nat.ne_of_gt (Heap.lt_size e)
    · obtain ⟨_, e, _⟩ := g2; exact Nat.ne_of_gt (Heap.lt_size e)
  · have hTy : s.TypeIs (.ref z) "zip" := ⟨_, hz, rfl⟩
    unfold pyNext
    refine wpAny_bind (wpAny_attempt (wpAny_callSpecial?_slot (name := Str.ofString "__next__") hTy F.slot_zip_next
      (wpAny_call_entry F.slot_zip_next hTy F.entry_zip_next
        (zipN_next_item D hz hT hTI g1 g2 m1 m2 hx hy fun h' a1 a3 a4 a5 a6 a7 => wpAny_pure (hQ h' ⟨?_, a3, a4, .inr ⟨T, true, oT, a1, a7 _ _ tz t1 t2 hT, tz, t1, t2, t3⟩⟩ a5 a6 fun c o c1 c2 c3 c4 e => a7 c o c1 c3 c4 e)) (F.args_zip_next_1 _))))
    exact a7 _ _ D.TIz D.TIi1 D.TIi2 hTI
theorem zipS_end {S z TI TO i1 i2 l1 l2 : Addr} {k : Nat} {xs ys : Array Value} {Q : Option Value → Shared → Prop} (hh : A.handled = none) (D : ZipApart z TI TO i1 i2 l1 l2)
    (hz : ZSt s.heap S z TI TO i1 i2 l1 l2 k) (m1 : s.heap.IsList l1 xs) (m2 : s.heap.IsTuple l2 ys) (hend : xs[k]? = none ∨ ys[k]? = none)
    (hQ : ∀ h', (∀ c o, c ≠ z → c ≠ TO → c ≠ i1 → c ≠ i2 → s.heap.get? c = some o → h'.get? c = some o) → Q none { s with heap := h' }) : wpAny (model prog w) A (pyNext (.ref z)) Q E s := by
  obtain ⟨hTI, g1, g2, ⟨hz, a, b, hTO⟩ | ⟨T, f, oT, hz, hT, tz, t1, t2, t3⟩⟩ := hz
  · exact pyNext_zipM_end hh D hz hTI hTO g1 g2 m1 m2 hend hQ
  · have hTy : s.TypeIs (.ref z) "zip" := ⟨_, hz, rfl⟩
    unfold pyNext
    refine wpAny_bind (wpAny_attempt (wpAny_callSpecial?_slot (name := Str.ofString "__next__") hTy F.slot_zip_next
      (wpAny_call_entry F.slot_zip_next hTy F.entry_zip_next (zipN_next_end hh D hz hT hTI g1 g2 m1 m2 hend fun h' e hk he => ?_) (F.args_zip_next_1 _))))
    obtain ⟨o, ho, hc⟩ := he
    refine wpAny_bind (wpAny_isInstance (T := "StopIteration") (b := true) ⟨o, ho, hc⟩ isSubtype_stop ?_)
    exact wpAny_pure (hQ _ fun c o c1 c2 c3 c4 e => hk c o c1 c3 c4 e)
theorem len_zip : typeLookup (.type "zip") "__len__" = pure none := by rw [typeLookup_type, builtinLookup_eq_fast]; kernel_rfl
theorem hint_zip : typeLookup (.type "zip") "__length_hint__" = pure none := by rw [typeLookup_type, builtinLookup_eq_fast]; kernel_rfl
theorem zip_hint {z : Addr} {Q : Bool → Shared → Prop} (hT : s.TypeIs (.ref z) "zip") (h : Q true s) : wpAny (model prog w) A (Builtin.List.listLengthHint (.ref z)) Q E s := by
  unfold Builtin.List.listLengthHint
  refine wpAny_bind (wpAny_specialOf hT len_zip ?_)
  refine wpAny_bind (wpAny_specialOf hT hint_zip ?_)
  exact wpAny_pure h
end
theorem ZSt.keep {h h' : Heap} {S z TI TO i1 i2 l1 l2 : Addr} {k : Nat} (x : ZSt h S z TI TO i1 i2 l1 l2 k) (up : ∀ b o, b ≠ S → h.get? b = some o → h'.get? b = some o) (nz : z ≠ S) (nTI : TI ≠ S) (nTO : TO ≠ S) (n1 : i1 ≠ S) (n2 : i2 ≠ S) : ZSt h' S z TI TO i1 i2 l1 l2 k := by
  obtain ⟨hTI, g1, g2, q⟩ := x
  refine ⟨up _ _ nTI hTI, g1.at fun o e => up _ o n1 e, g2.at fun o e => up _ o n2 e, ?_⟩
  rcases q with ⟨hz, a, b, hTO⟩ | ⟨T, f, oT, hz, hT, tz, t1, t2, t3⟩
  · exact .inl ⟨up _ _ nz hz, a, b, up _ _ nTO hTO⟩
  · exact .inr ⟨T, f, oT, up _ _ nz hz, up _ _ t3 hT, tz, t1, t2, t3⟩
/-- the pairs that were made -/
structure MadeZ (xs ys : Array Value) (lo : Addr) (h : Heap) (as : List Addr) : Prop where
  rise : as.Pairwise (· < ·)
  above : ∀ a ∈ as, lo < a
  pairs : ∀ (j : Nat) (a : Addr), as[j]? = some a → ∃ x y, xs[j]? = some x ∧ ys[j]? = some y ∧ IsPair h a x y
theorem MadeZ.there {xs ys : Array Value} {lo : Addr} {h : Heap} {as : List Addr} (g : MadeZ xs ys lo h as) {a : Addr} (ha : a ∈ as) : a < h.objs.size := by
  obtain ⟨j, hj⟩ := List.mem_iff_getElem?.mp ha
  obtain ⟨_, _, _, _, e⟩ := g.pairs j a hj
  exact Heap.lt_size e
section
variable {prog : Program} {w : World} {A : Around} {s : Shared} {R : Result → Shared → Prop} {xs ys : Array Value}
theorem zipLoop {S z TI TO i1 i2 l1 l2 : Addr} (hh : A.handled = none) (D : ZipApart z TI TO i1 i2 l1 l2) (nz : z < S) (nTI : TI < S) (nTO : TO < S) (n1 : i1 < S) (n2 : i2 < S) (m1 : l1 < S) (m2 : l2 < S) (hn : xs.size ≤ sizeLine) (res : Value) {h₁ : Heap}
    (hR : ∀ h' tk acc c as, (∀ b o, b ≠ S → b ≠ z → b ≠ TO → b ≠ i1 → b ≠ i2 → h₁.get? b = some o → h'.get? b = some o) → h'.get? S = some { cls := .type "list", dict := none, data := .seq acc c, slots := #[] } → as.length = min xs.size ys.size → MadeZ xs ys S h' as →
      acc.toList = as.map Value.ref → R (.ok (.ret res)) { s with heap := h', toks := tk }) :
    ∀ (k i : Nat) (h : Heap) (tk c : Nat) (acc : Array Value) (as : List Addr), min xs.size ys.size - i = k → i ≤ min xs.size ys.size → ZSt h S z TI TO i1 i2 l1 l2 i → h.IsList l1 xs → h.IsTuple l2 ys → (∀ b o, b ≠ S → b ≠ z → b ≠ TO → b ≠ i1 → b ≠ i2 → h₁.get? b = some o → h.get? b = some o) →
      h.get? S = some { cls := .type "list", dict := none, data := .seq acc c, slots := #[] } → acc.toList = as.map Value.ref → as.length = i → MadeZ xs ys S h as →
      codeAny (model prog w) A (.builtin "list.extend.loop" ⟨[.ref S, .ref z, res], []⟩) R { s with heap := h, toks := tk } := by
  have neS : ∀ {b : Addr}, b < S → b ≠ S := fun h => Nat.ne_of_lt h
  intro k
  induction k with
  | zero =>
    intro i h tk c acc as hk hi hst L1 L2 hkeep hS hacc hal hG
    refine codeAny_builtin PySem.F.entry_extend_loop ?_
    rw [Around.under_plainId PySem.F.plain_extend_loop _]
    show wpAny _ A.in1 (pyNext (.ref z) >>= _) _ _ _
    have hend : xs[i]? = none ∨ ys[i]? = none := by
      by_cases q : xs.size ≤ i
      · exact .inl (Array.getElem?_eq_none q)
      · exact .inr (Array.getElem?_eq_none (by omega))
    refine wpAny_bind (zipS_end (s := { s with heap := h, toks := tk }) (A := A.in1) hh D hst L1 L2 hend fun h' hk' => ?_)
    refine wpAny_pure (hR h' tk acc c as (fun b o b1 b2 b3 b4 b5 e => hk' b o b2 b3 b4 b5 (hkeep b o b1 b2 b3 b4 b5 e)) (hk' S _ (Ne.symm (neS nz)) (Ne.symm (neS nTO)) (Ne.symm (neS n1)) (Ne.symm (neS n2)) hS) (by omega) ⟨hG.rise, hG.above, fun j a hj => ?_⟩ hacc)
    obtain ⟨x, y, e1, e2, e3⟩ := hG.pairs j a hj
    have ha := hG.above a (List.mem_of_getElem? hj)
    exact ⟨x, y, e1, e2, hk' a _ (Nat.ne_of_gt (Nat.lt_trans nz ha)) (Nat.ne_of_gt (Nat.lt_trans nTO ha)) (Nat.ne_of_gt (Nat.lt_trans n1 ha)) (Nat.ne_of_gt (Nat.lt_trans n2 ha)) e3⟩
  | succ k ih =>
    intro i h tk c acc as hk hi hst L1 L2 hkeep hS hacc hal hG
    have hi1 : i < xs.size := by omega
    have hi2 : i < ys.size := by omega
    have hsz : acc.size = i := by rw [← Array.length_toList, hacc, List.length_map, hal]
    have hSl : S < h.objs.size := Heap.lt_size hS
    refine codeAny_builtin PySem.F.entry_extend_loop ?_
    rw [Around.under_plainId PySem.F.plain_extend_loop _]
    show wpAny _ A.in1 (pyNext (.ref z) >>= _) _ _ _
    refine wpAny_bind (zipS_next (s := { s with heap := h, toks := tk }) (A := A.in1) (S := S) D hSl hst L1 L2 (Array.getElem?_eq_getElem hi1) (Array.getElem?_eq_getElem hi2) fun h' hst' hp hz hkp => ?_)
    dsimp only at hp hz hkp ⊢
    have hS' := hkp S _ (Ne.symm (neS nz)) (Ne.symm (neS nTO)) (Ne.symm (neS n1)) (Ne.symm (neS n2)) hS
    have up : ∀ b o, b ≠ S → h'.get? b = some o → (h'.update S (Obj.mapSeq (·.push (Value.ref h.objs.size)))).get? b = some o := fun b o hb e => (Heap.get?_update_other _ _ (Ne.symm hb)).trans e
    have L1' : h'.IsList l1 xs := let ⟨o, ho, r⟩ := L1; ⟨o, hkp _ _ D.l1z D.l1TO D.l1i1 D.l1i2 ho, r⟩
    have L2' : h'.IsTuple l2 ys := let ⟨o, ho, r⟩ := L2; ⟨o, hkp _ _ D.l2z D.l2TO D.l2i1 D.l2i2 ho, r⟩
    show wpAny _ A.in1 (updateSeq S (·.push (Value.ref h.objs.size)) >>= _) _ _ _
    refine wpAny_bind ?_
    refine wpAny_updateSeq hS' rfl (wpAny_pure ⟨plainId_quiet PySem.F.plain_extend_loop _, ih (i + 1) _ tk _ (acc.push (Value.ref h.objs.size)) (as ++ [h.objs.size]) (by omega) (by omega) (hst'.keep up (neS nz) (neS nTI) (neS nTO) (neS n1) (neS n2))
      (let ⟨o, ho, r⟩ := L1'; ⟨o, up _ _ (neS m1) ho, r⟩) (let ⟨o, ho, r⟩ := L2'; ⟨o, up _ _ (neS m2) ho, r⟩) (fun b o b1 b2 b3 b4 b5 e => up b o b1 (hkp b o b2 b3 b4 b5 (hkeep b o b1 b2 b3 b4 b5 e))) (Heap.get?_update_self _ hS' rfl) (by rw [Array.toList_push, hacc, List.map_append]; rfl) (by rw [List.length_append, hal]; rfl) ⟨?_, ?_, ?_⟩⟩) (by rw [hsz]; omega) (by show (acc.push (Value.ref h.objs.size)).size ≤ sizeLine + 1; rw [Array.size_push, hsz]; omega)
    · refine List.pairwise_append.mpr ⟨hG.rise, List.pairwise_singleton _ _, fun a ha b hb => ?_⟩
      rw [List.mem_singleton.mp hb]
      exact hG.there ha
    · intro a ha
      rcases List.mem_append.mp ha with ha | ha
      · exact hG.above a ha
      · rw [List.mem_singleton.mp ha]; exact hSl
    · intro j b hj
      rcases Nat.lt_trichotomy j as.length with h1 | h1 | h1
      · rw [List.getElem?_append_left h1] at hj
        obtain ⟨x, y, e1, e2, e3⟩ := hG.pairs j b hj
        have hb := hG.above b (List.mem_of_getElem? hj)
        exact ⟨x, y, e1, e2, up b _ (Nat.ne_of_gt hb) (hkp b _ (Nat.ne_of_gt (Nat.lt_trans nz hb)) (Nat.ne_of_gt (Nat.lt_trans nTO hb)) (Nat.ne_of_gt (Nat.lt_trans n1 hb)) (Nat.ne_of_gt (Nat.lt_trans n2 hb)) e3)⟩
      · subst h1
        have hb : h.objs.size = b := by simpa using hj
        subst hb
        subst hal
        exact ⟨_, _, Array.getElem?_eq_getElem hi1, Array.getElem?_eq_getElem hi2, up _ _ (Nat.ne_of_gt hSl) hp⟩
      · have hnone : (as ++ [h.objs.size])[j]? = none := List.getElem?_eq_none (by rw [List.length_append, List.length_singleton]; omega)
        rw [hnone] at hj; cases hj
end
section
variable {prog : Program} {w : World} {A : Around} {E : Value → Shared → Prop} {s : Shared} {xs ys : Array Value}
theorem zipExt {R : Result → Shared → Prop} {S z TI TO i1 i2 l1 l2 : Addr} (hh : A.handled = none) (D : ZipApart z TI TO i1 i2 l1 l2) (nz : z < S) (nTI : TI < S) (nTO : TO < S) (n1 : i1 < S) (n2 : i2 < S) (m1 : l1 < S) (m2 : l2 < S) (hn : xs.size ≤ sizeLine) (res : Value)
    (hst : ZSt s.heap S z TI TO i1 i2 l1 l2 0) (hz : IsZip s.heap z TI TO .none) (L1 : s.heap.IsList l1 xs) (L2 : s.heap.IsTuple l2 ys) (c₀ : Nat) (hS : s.heap.get? S = some { cls := .type "list", data := .seq #[] c₀ })
    (hR : ∀ h' tk acc c as, (∀ b o, b ≠ S → b ≠ z → b ≠ TO → b ≠ i1 → b ≠ i2 → s.heap.get? b = some o → h'.get? b = some o) → h'.get? S = some { cls := .type "list", dict := none, data := .seq acc c, slots := #[] } → as.length = min xs.size ys.size → MadeZ xs ys S h' as →
      acc.toList = as.map Value.ref → R (.ok (.ret res)) { s with heap := h', toks := tk }) :
    wpAny (model prog w) A.in1 (Builtin.List.listExtendWith (.ref S) (.ref z) res)
      (fun fin s' => match fin with | .done f => R (.ok f) s' | .again c' => c'.quiet = true ∧ codeAny (model prog w) A c' R s') (fun e s' => R (.error e) s') s := by
  have neS : ∀ {b : Addr}, b < S → b ≠ S := fun h => Nat.ne_of_lt h
  have hT : s.TypeIs (.ref z) "zip" := ⟨_, hz, rfl⟩
  have key : ∀ (h : Heap) (c₁ tk : Nat), (∀ b o, b ≠ S → s.heap.get? b = some o → h.get? b = some o) →
      h.get? S = some { cls := .type "list", data := .seq #[] c₁ } → codeAny (model prog w) A (.builtin "list.extend.loop" ⟨[.ref S, .ref z, res], []⟩) R { s with heap := h, toks := tk } := by
    intro h c₁ tk hk hS₁
    exact zipLoop (xs := xs) (ys := ys) (s := s) (h₁ := s.heap) hh D nz nTI nTO n1 n2 m1 m2 hn res hR
      (min xs.size ys.size) 0 h tk c₁ #[] [] (Nat.sub_zero _) (Nat.zero_le _) (hst.keep hk (neS nz) (neS nTI) (neS nTO) (neS n1) (neS n2)) (let ⟨o, ho, r⟩ := L1; ⟨o, hk _ _ (neS m1) ho, r⟩) (let ⟨o, ho, r⟩ := L2; ⟨o, hk _ _ (neS m2) ho, r⟩) (fun b o b1 _ _ _ _ e => hk b o b1 e) hS₁ rfl rfl
      ⟨List.Pairwise.nil, (fun _ ha => nomatch ha), (fun j a hj => by simp at hj)⟩
  unfold Builtin.List.listExtendWith
  refine wpAny_bind (wpAny_typeOf (T := "zip") hT ?_)
  have h1 : Builtin.List.listSameRef (.ref S) (.ref z) = false := by simp [Builtin.List.listSameRef, Ne.symm (neS nz)]
  have h2 : (Value.type "zip" == Value.type "list") = false := by decide
  have h3 : (Value.type "zip" == Value.type "tuple") = false := by decide
  simp only [h1, h2, h3, Bool.or_false, Bool.false_eq_true, if_false]
  refine wpAny_bind (wpAny_pyIter_zip hz ?_)
  refine wpAny_bind (wpAny_holding (zip_hint hT ?_))
  refine wpAny_ite_split (fun _ => ?_) (fun _ => wpAny_pure ⟨plainId_quiet PySem.F.plain_extend_loop _, key _ c₀ _ (fun b o _ e => e) hS⟩)
  refine wpAny_bind (wpAny_rule ?_)
  refine wpAny_bind ?_
  show wpAny _ _ (updateSeq S (·.push .none) >>= fun _ => updateSeq S (·.pop)) _ _ _
  refine wpAny_bind (wpAny_updateSeq hS rfl ?_)
  have hS₂ := Heap.get?_update_self (Obj.mapSeq (·.push Value.none)) hS rfl
  refine wpAny_updateSeq (hz := by seq_fits) hS₂ rfl ?_
  have hS₃ := Heap.get?_update_self (Obj.mapSeq (·.pop)) hS₂ rfl
  refine wpAny_pure ⟨plainId_quiet PySem.F.plain_extend_loop _, key _ _ _ (fun b o hb e => ?_) hS₃⟩
  exact (Heap.get?_update_other _ _ (Ne.symm hb)).trans ((Heap.get?_update_other _ _ (Ne.symm hb)).trans e)
theorem zipList {Q : Value → Shared → Prop} {z TI TO i1 i2 l1 l2 : Addr} (hh : A.handled = none) (D : ZipApart z TI TO i1 i2 l1 l2) (hz : IsZip s.heap z TI TO .none) (hTI : IsPair s.heap TI (.ref i1) (.ref i2)) (hTO : ∃ a b, IsPair s.heap TO a b)
    (g1 : s.heap.IsListIter i1 l1 0) (g2 : s.heap.IsTupleIter i2 l2 0) (L1 : s.heap.IsList l1 xs) (L2 : s.heap.IsTuple l2 ys) (hn : xs.size ≤ sizeLine)
    (hQ : ∀ h' tk c as, (∀ b o, b ≠ z → b ≠ TO → b ≠ i1 → b ≠ i2 → s.heap.get? b = some o → h'.get? b = some o) → h'.get? s.heap.objs.size = some { cls := .type "list", dict := none, data := .seq (as.map Value.ref).toArray c, slots := #[] } → as.length = min xs.size ys.size → MadeZ xs ys s.heap.objs.size h' as → Q (.ref s.heap.objs.size) { s with heap := h', toks := tk }) :
    wpAny (model prog w) A (call (.type "list") [.ref z]) Q E s := by
  refine callType_codes (Q₁ := fun obj s₁ => obj = .ref s.heap.objs.size ∧ s₁ = { s with heap := s.heap.push { cls := .type "list", data := .seq #[] } }) PySem.F.called_list (PySem.F.typeCall_list_1 _) PySem.F.entry_list_init
    (code_list_new _ ⟨rfl, rfl⟩) fun obj s₁ h₁ => ?_
  obtain ⟨rfl, rfl⟩ := h₁
  obtain ⟨ta, tb, hTO⟩ := hTO
  have hS : (s.heap.push { cls := .type "list", data := .seq #[] }).get? s.heap.objs.size = some { cls := .type "list", data := .seq #[] } := Heap.get?_push_size _ rfl
  have nz : z < s.heap.objs.size := Heap.lt_size hz
  have nTI : TI < s.heap.objs.size := Heap.lt_size hTI
  have nTO : TO < s.heap.objs.size := Heap.lt_size hTO
  have n1 : i1 < s.heap.objs.size := by obtain ⟨_, e, _⟩ := g1; exact Heap.lt_size e
  have n2 : i2 < s.heap.objs.size := by obtain ⟨_, e, _⟩ := g2; exact Heap.lt_size e
  have m1 : l1 < s.heap.objs.size := by obtain ⟨_, e, _⟩ := L1; exact Heap.lt_size e
  have m2 : l2 < s.heap.objs.size := by obtain ⟨_, e, _⟩ := L2; exact Heap.lt_size e
  have pu : ∀ b o, s.heap.get? b = some o → (s.heap.push { cls := .type "list", data := .seq #[] }).get? b = some o := fun b o e => Heap.get?_push_of_some _ e
  refine ⟨⟨_, hS, rfl⟩, PySem.F.args_list_init_2 _ _, ?_⟩
  show wpAny _ _ (do let old ← Builtin.List.listItems (.ref s.heap.objs.size); Builtin.List.listUpdate (.ref s.heap.objs.size) (fun _ => #[]); letGo old.toList.reverse; Builtin.List.listExtendWith (.ref s.heap.objs.size) (.ref z) .none) _ _ _
  refine wpAny_bind ?_
  unfold Builtin.List.listItems
  refine wpAny_bind (wpAny_seqItems hS rfl (wpAny_pure ?_))
  show wpAny _ _ (updateSeq s.heap.objs.size (fun _ => #[]) >>= fun _ => letGo (#[] : Array Value).toList.reverse >>= fun _ => Builtin.List.listExtendWith (.ref s.heap.objs.size) (.ref z) .none) _ _ _
  refine wpAny_bind (wpAny_updateSeq hS rfl ?_)
  have hS₂ := Heap.get?_update_self (Obj.mapSeq (fun _ => (#[] : Array Value))) hS rfl
  have oth : ∀ b o, b ≠ s.heap.objs.size → s.heap.get? b = some o → ((s.heap.push { cls := .type "list", data := .seq #[] }).update s.heap.objs.size (Obj.mapSeq (fun _ => (#[] : Array Value)))).get? b = some o :=
    fun b o hb e => (Heap.get?_update_other _ _ (Ne.symm hb)).trans (pu b o e)
  refine wpAny_bind (wpAny_letGo ?_)
  refine zipExt (A := A.in1) hh D nz nTI nTO n1 n2 m1 m2 hn .none ⟨oth _ _ (Nat.ne_of_lt nTI) hTI, g1.at fun o e => oth _ o (Nat.ne_of_lt n1) e, g2.at fun o e => oth _ o (Nat.ne_of_lt n2) e, .inl ⟨oth _ _ (Nat.ne_of_lt nz) hz, ta, tb, oth _ _ (Nat.ne_of_lt nTO) hTO⟩⟩
    (oth _ _ (Nat.ne_of_lt nz) hz) (let ⟨o, ho, r⟩ := L1; ⟨o, oth _ _ (Nat.ne_of_lt m1) ho, r⟩) (let ⟨o, ho, r⟩ := L2; ⟨o, oth _ _ (Nat.ne_of_lt m2) ho, r⟩) _ hS₂ fun h' tk acc c as hk hS' hl hG hacc => ⟨rfl, hQ h' tk c as (fun b o b1 b2 b3 b4 e => hk b o (Nat.ne_of_lt (Heap.lt_size e)) b1 b2 b3 b4 (oth b o (Nat.ne_of_lt (Heap.lt_size e)) e)) ?_ hl hG⟩
  rw [hS', ← hacc]
end
end Dl
end L2

/-! The D layer, 34: list(zip(xs, t)) by value. -/
namespace L2
namespace Dl
open PySem PySem.Spec PyProof.Rows RZ
theorem rpAll_ix {K : PySem.W.Frag} {F : Hp} : ∀ {vs : List V} {ds : List PyData}, vs.length = ds.length → (∀ (j : Nat) (v : V) (d : PyData), vs[j]? = some v → ds[j]? = some d → Rp K F v d) → RpAll K F vs ds
  | [], [], _, _ => .nil
  | v :: vs, d :: ds, hl, h => .cons (h 0 v d rfl rfl) (rpAll_ix (by simpa using hl) fun j v d h1 h2 => h (j + 1) v d (by simpa using h1) (by simpa using h2))
section
variable {K : PySem.W.Frag} {B : Bs} {H : Hp} {env : Ev} {σ : St}
/-- F takes in tuples that stand in H -/
theorem Rl.tups : ∀ (L : List (Addr × List V)) (F : Hp), Rl K B F H env σ → (∀ p ∈ L, H p.1 = some (.tup p.2)) → ∃ F2, Rl K B F2 H env σ ∧ Fm env σ F H env F2 H ∧ ∀ p ∈ L, F2 p.1 = some (.tup p.2)
  | [], F, R, h => ⟨F, R, Fm.refl, fun _ z => nomatch z⟩
  | (b, vs) :: L, F, R, h => by
    obtain ⟨F2, R2, f2, r2⟩ := Rl.tups L F R fun p hp => h p (List.mem_cons_of_mem _ hp)
    have h1 : H b = some (.tup vs) := h _ List.mem_cons_self
    cases q : F2 b with
    | some x =>
      have q2 := R2.sub b x q
      rw [h1] at q2
      cases q2
      refine ⟨F2, R2, f2, fun p hp => ?_⟩
      rcases List.mem_cons.mp hp with rfl | hp
      · exact q
      · exact r2 p hp
    | none =>
      have nb : ¬ ownAt env σ b := fun z => by
        obtain ⟨ob, z1, _, z3⟩ := R.ownH z
        rw [h1] at z1
        cases z1
        rcases z3 with ⟨_, z3⟩ | ⟨_, z3⟩ <;> cases z3
      have s1 : Same F2 (upd F2 b (.tup vs)) := fun c x e => by rw [upd_ne (ne_of_none e q)]; exact e
      refine ⟨upd F2 b (.tup vs), ?_, ⟨f2.keep, f2.sub.trans s1, fun c x e => ?_, f2.own, f2.dom, f2.od⟩, fun p hp => ?_⟩
      · refine ⟨R2.len, fun c x e => ?_, fun i => ?_, R2.dist, R2.sub0.trans s1, fun c x e => ?_, R2.frm, R2.dom, R2.own0, R2.own1, R2.lsl, R2.dd, R2.d0⟩
        · by_cases hc : c = b
          · subst hc
            rw [upd_same] at e
            cases e
            exact h1
          · rw [upd_ne hc] at e
            exact R2.sub c x e
        · have s := R2.sl i
          cases qi : env[i]? with
          | none => trivial
          | some z =>
            rw [qi] at s
            cases z with
            | un => trivial
            | val d =>
              obtain ⟨v, g1, g2⟩ := s
              exact ⟨v, g1, Rp.mono s1 _ _ g2⟩
            | own l ds =>
              obtain ⟨a, ws, g1, g2, g3, g4⟩ := s
              refine ⟨a, ws, g1, g2, ?_, RpAll.mono s1 _ _ g4⟩
              rw [upd_ne (fun z => nb (.inl ⟨i, l, ds, qi, by rw [← z]; exact g1⟩))]
              exact g3
            | dct kv =>
              obtain ⟨a, g1, g2, g3⟩ := s
              refine ⟨a, g1, g2, ?_⟩
              rw [upd_ne (fun z => nb (.inr ⟨i, kv, qi, by rw [← z]; exact g1⟩))]
              exact g3
        · by_cases hc : c = b
          · subst hc
            rw [upd_same] at e
            cases e
            exact .inr (.inr ⟨_, rfl⟩)
          · rw [upd_ne hc] at e
            exact R2.new c x e
      · by_cases hc : c = b
        · subst hc
          rw [upd_same] at e
          cases e
          exact .inr (.inl (.inr ⟨h1, _, rfl⟩))
        · rw [upd_ne hc] at e
          exact f2.new c x e
      · rcases List.mem_cons.mp hp with rfl | hp
        · exact upd_same
        · exact s1 _ _ (r2 p hp)
end
def wLstZ (wf : WF) : WE := fun env Ke Kx => wf env (fun env' ds => ∃ xs ys, ds = [.list xs, .tuple ys] ∧ xs.length ≤ sizeLine ∧ Ke env' (.tmp (zipD xs ys))) Kx
section
variable {B : Bs} {W : WX} {X : Cx} {e e2 : Expr} {wf : WF} {p p2 q pos : Pos}
theorem de_lstZip (hc : X.calm = true) (hg : Gl X "list") (hm : X.mg "list" = none) (hg2 : Gl X "zip") (hm2 : X.mg "zip" = none) (ha : DF B W X [e, e2] wf)
    (hs : starEach [e, e2] X.env = (false, eval e X.env) :: starEach [e2] X.env := by rfl) (hpl : (backTo q (starEach [e2] X.env)).any (·.1) = false := by rfl) :
    DE B W X (.Call (.Name "list" p) [.Call (.Name "zip" p2) [e, e2] [] q] [] pos) (wLstZ wf) := by
  refine ⟨fun pins s σ F H env Ke Kx I R h hx => ?_⟩
  refine Call_ (ld_blt I hg hm bt_list ?_)
  refine PyProof.Rows.callWith_type1 (PyProof.Rows.args_cons ?_ rfl) rfl rfl
  refine Call_ (ld_blt I hg2 hm2 bt_zip ?_)
  refine PyProof.Rows.callWith_type1 (thn (ha.run q pins s σ F H env _ Kx I R h hx) fun us s1 ⟨vs, env1, ds, F1, H1, I1, rv, R1, f1, rp, xs, ys, eds, hz, k⟩ => ?_) hs hpl
  subst eds
  cases rp with
  | @cons v1 _ _ _ rp1 rp' =>
    cases rp' with
    | @cons v2 _ _ _ rp2 rp'' =>
      cases rp''
      cases rp1 with
      | @lst a vxs _ q1 a1 =>
        cases rp2 with
        | @tup b vys _ q2 a2 =>
          cases rv with
          | cons r1 rr =>
            cases rr with
            | cons r2 rr =>
              cases rr
              cases r1
              cases r2
              have hqx : SqL X.K H1 a vxs := R1.sub.seq q1
              have hqy : SqT X.K H1 b vys := .inl (.inl (R1.sub _ _ q2))
              obtain ⟨its, rx, pl1, _⟩ := I1.list hqx
              obtain ⟨its2, ry, pl2, _⟩ := I1.tuple hqy
              obtain ⟨o2, ho2, _⟩ := id pl2
              refine call_zipM pl1.isList (show s1.heap.IsTuple b its2.toArray from pl2) fun h' iz hTI hTO h1 h2 hsz hk => PyProof.Rows.args_nil ?_
              have L1 : h'.IsList a its.toArray := let ⟨o, ho, r⟩ := pl1.isList; ⟨o, hk _ _ ho, r⟩
              have L2 : h'.IsTuple b its2.toArray := let ⟨o, ho, r⟩ := pl2; ⟨o, hk _ _ ho, r⟩
              refine zipList (s := { s1 with heap := h' }) (I1.ok.hd hc) (PySem.W.ktu_apart s1.heap.objs.size a b pl1.lt (Heap.lt_size ho2)) iz hTI ⟨_, _, hTO⟩ h1 h2 L1 L2 (by rw [List.size_toArray, ← rx.length, a1.length]; exact hz) fun h'' tk c as hk2 hS hl hG => ?_
              dsimp only at hk2 hS hG ⊢
              rw [hsz] at hS hG ⊢
              have keep : ∀ c o, s1.heap.get? c = some o → h''.get? c = some o := fun c o eo => by
                have hlt := Heap.lt_size eo
                have ne : ∀ n, c ≠ s1.heap.objs.size + n := fun n => Nat.ne_of_lt (Nat.lt_of_lt_of_le hlt (Nat.le_add_right _ _))
                exact hk2 c o (ne 4) (ne 3) (ne 0) (ne 1) (hk c o eo)
              have ll : as.length = min vxs.length vys.length := by rw [hl, List.size_toArray, List.size_toArray, ← rx.length, ← ry.length]
              have nS : H1 (s1.heap.objs.size + 5) = none := I1.hok.fresh (Nat.le_add_right _ _)
              -- the list, then the pairs
              have I2 : Inv X pins σ (upd H1 (s1.heap.objs.size + 5) (.lst (as.map V.ref))) { s1 with heap := h'', toks := tk } :=
                I1.laid (t' := tk) keep (Nat.le_add_right _ _) ⟨by rw [List.length_map, ll]; have := a1.length; rw [sizeLine_eq] at *; omega, as.map Value.ref, c, vals_refs as, hS⟩
              obtain ⟨H3, I3, up, tp⟩ := DX.takeT (P := fun a vs => ∃ (j : Nat) (x y : V), as[j]? = some a ∧ vs = [x, y] ∧ vxs[j]? = some x ∧ vys[j]? = some y) I1 as _ I2 (hG.rise.imp fun h => Nat.ne_of_lt h) fun a' ha' => by
                have hab := hG.above a' ha'
                obtain ⟨j, hj⟩ := List.mem_iff_getElem?.mp ha'
                obtain ⟨x, y, e1, e2', e3⟩ := hG.pairs j a' hj
                obtain ⟨x', hx', rx'⟩ := vals_back rx (by simpa using e1)
                obtain ⟨y', hy', ry'⟩ := vals_back ry (by simpa using e2')
                refine ⟨Nat.le_trans (Nat.le_add_right _ 5) (Nat.le_of_lt hab), ?_, [x', y'], ⟨j, x', y', hj, rfl, hx', hy'⟩, fun H2 => ⟨by show 2 ≤ sizeLine; decide, [x, y], .cons rx' (.cons ry' .nil), ⟨_, e3, rfl, _, rfl⟩⟩⟩
                rw [upd_ne (Nat.ne_of_gt hab)]
                exact I1.hok.fresh (Nat.le_trans (Nat.le_add_right _ 5) (Nat.le_of_lt hab))
              have upH : ∀ b o, H1 b = some o → H3 b = some o := fun b o e => up b o (by rw [upd_ne (ne_of_none e nS)]; exact e)
              obtain ⟨R3, f3⟩ := R1.later upH
              have hS3 : H3 (s1.heap.objs.size + 5) = some (.lst (as.map V.ref)) := up _ _ upd_same
              have ex : ∀ a' ∈ as, ∃ vs, H3 a' = some (.tup vs) := fun a' ha' => let ⟨vs, _, e⟩ := tp a' ha'; ⟨vs, e⟩
              obtain ⟨F4, R4, f4, r4⟩ := Rl.tups (as.map fun a' => (a', match H3 a' with | some (.tup vs) => vs | _ => [])) F1 R3 fun p hp => by
                obtain ⟨a', ha', rfl⟩ := List.mem_map.mp hp
                obtain ⟨vs, ev⟩ := ex a' ha'
                simp only [ev]
              have zl : (zipD xs ys).length = min xs.length ys.length := by unfold zipD; rw [List.length_map, List.length_zip]
              have items : RpAll X.K F4 (as.map V.ref) (zipD xs ys) := by
                refine rpAll_ix (by rw [List.length_map, ll, zl, a1.length, a2.length]) fun j v d hv hd => ?_
                rw [List.getElem?_map] at hv
                obtain ⟨a', ha', rfl⟩ := Option.map_eq_some_iff.mp hv
                have am := List.mem_of_getElem? ha'
                obtain ⟨vs, ⟨j', x, y, hj', rfl, hx', hy'⟩, ev⟩ := tp a' am
                have ej : j' = j := by
                  have nd : as.Nodup := hG.rise.imp fun h => Nat.ne_of_lt h
                  exact (List.getElem?_inj (List.getElem?_eq_some_iff.mp hj').1 nd).mp (hj'.trans ha'.symm)
                subst ej
                have fa : F4 a' = some (.tup [x, y]) := by
                  have := r4 (a', match H3 a' with | some (.tup vs) => vs | _ => []) (List.mem_map.mpr ⟨a', am, rfl⟩)
                  simp only [ev] at this
                  exact this
                obtain ⟨dx, hdx, rx'⟩ := a1.get2 hx'
                obtain ⟨dy, hdy, ry'⟩ := a2.get2 hy'
                unfold zipD at hd
                rw [List.getElem?_map, show (xs.zip ys)[j']? = some (dx, dy) from List.getElem?_zip_eq_some.mpr ⟨hdx, hdy⟩] at hd
                cases hd
                exact .tup fa (.cons (Rp.mono f4.sub _ _ rx') (.cons (Rp.mono f4.sub _ _ ry') .nil))
              refine ⟨.ref (s1.heap.objs.size + 5), env1, .tmp (zipD xs ys), F4, H3, I3, rfl, R4, (f1.trans f3).trans f4, ⟨_, _, rfl, hS3, ?_, R1.free0 nS, R1.notOwn nS, items⟩, (fun z ez => ?_), k⟩
              · cases qf : F4 (s1.heap.objs.size + 5) with
                | none => rfl
                | some x =>
                  have hf := f4.new _ _ qf
                  rcases hf with hf | hf | hf
                  · have := R1.sub _ _ hf
                    rw [nS] at this
                    cases this
                  · exact (hf.lst hS3).elim
                  · exact absurd hf (R1.notOwn nS)
              · cases ez
                cases qh : H (s1.heap.objs.size + 5) with
                | none => rfl
                | some x => exact absurd nS (f1.dom _ (by rw [qh]; simp))
end
end Dl
end L2

/-! The D layer, 35: xs.insert(i, y) of a list of one's own. -/
namespace L2
namespace Dl
open PySem PySem.Spec PyProof.Rows
def wIns (i : Nat) (w1 w2 : WE) : WE := fun env Ke Kx => isOwn env i ∧ w1 env (fun env1 r1 => ∃ n, r1 = .val (.int n) ∧ 0 ≤ n ∧ n < 2 ^ 63 ∧ wFz w2 env1 (fun env2 d => ∃ l ds, env2[i]? = some (Sl.own l ds) ∧ ds.length < sizeLine ∧ Ke (env2.set i (.own l (ds.take n.toNat ++ [d] ++ ds.drop n.toNat))) (.val .none)) Kx) Kx
section
variable {B : Bs} {W : WX} {X : Cx} {x : Str} {e e2 : Expr} {w1 w2 : WE} {p apos cpos : Pos}
end
end Dl
end L2

/-! The plain half, 0: w terms are evaluated from the outside, slot by slot. -/
namespace L2
namespace Dl
open PySem PySem.Spec PyProof.Rows
def getS : Ev → Nat → (Sl → Prop) → Prop
  | s :: _, 0, K => K s
  | _ :: e, n + 1, K => getS e n K
  | [], _, _ => False
theorem getS_0 (s : Sl) (e : Ev) (K : Sl → Prop) : getS (s :: e) 0 K = K s := rfl
theorem getS_s (s : Sl) (e : Ev) (n : Nat) (K : Sl → Prop) : getS (s :: e) (n + 1) K = getS e n K := rfl
theorem getS_ex : ∀ (e : Ev) (i : Nat) (K : Sl → Prop), getS e i K = ∃ s, e[i]? = some s ∧ K s
  | [], i, K => by simp [getS]
  | s :: e, 0, K => by simp [getS]
  | s :: e, n + 1, K => by rw [getS_s, getS_ex e n K]; simp
theorem getS_at {e : Ev} {i : Nat} {s : Sl} (h : e[i]? = some s) (K : Sl → Prop) : getS e i K = K s := by
  rw [getS_ex, h]; simp
def setS : Ev → Nat → Sl → (Ev → Prop) → Prop
  | _ :: e, 0, x, K => K (x :: e)
  | s :: e, n + 1, x, K => setS e n x fun e' => K (s :: e')
  | [], _, _, K => K []
theorem setS_0 (s x : Sl) (e : Ev) (K : Ev → Prop) : setS (s :: e) 0 x K = K (x :: e) := rfl
theorem setS_s (s x : Sl) (e : Ev) (n : Nat) (K : Ev → Prop) : setS (s :: e) (n + 1) x K = setS e n x fun e' => K (s :: e') := rfl
theorem setS_eq : ∀ (e : Ev) (i : Nat) (x : Sl) (K : Ev → Prop), setS e i x K = K (e.set i x)
  | [], _, _, _ => rfl
  | _ :: _, 0, _, _ => rfl
  | s :: e, n + 1, x, K => by rw [setS_s, setS_eq e n x]; rfl
/-! names, results -/
def varK (i : Nat) (env : Ev) (Ke : KE) : Sl → Prop
  | .val d => Ke env (.val d)
  | .own _ _ => Ke env (.slot i)
  | _ => False
theorem varK_v (i : Nat) (env : Ev) (Ke : KE) (d : PyData) : varK i env Ke (.val d) = Ke env (.val d) := rfl
theorem varK_o (i : Nat) (env : Ev) (Ke : KE) (l : Bool) (ds : List PyData) : varK i env Ke (.own l ds) = Ke env (.slot i) := rfl
theorem varK_u (i : Nat) (env : Ev) (Ke : KE) : varK i env Ke .un = False := rfl
theorem e_var (i : Nat) (env : Ev) (Ke : KE) (Kx : KXc) : wVar i env Ke Kx = getS env i (varK i env Ke) := by
  rw [getS_ex]
  unfold wVar
  cases h : env[i]? with
  | none => simp
  | some s => cases s <;> simp [varK]
def rdS (k : PyData → Prop) : Sl → Prop
  | .val d => k d
  | .own _ ds => k (.list ds)
  | _ => False
theorem rdS_v (k : PyData → Prop) (d : PyData) : rdS k (.val d) = k d := rfl
theorem rdS_o (k : PyData → Prop) (l : Bool) (ds : List PyData) : rdS k (.own l ds) = k (.list ds) := rfl
theorem rdS_u (k : PyData → Prop) : rdS k .un = False := rfl
theorem rdK_v (env : Ev) (d : PyData) (k : PyData → Prop) : rdK env (.val d) k = k d := by simp [rdK, rd]
theorem rdK_t (env : Ev) (ds : List PyData) (k : PyData → Prop) : rdK env (.tmp ds) k = k (.list ds) := by simp [rdK, rd]
theorem rdK_s (env : Ev) (i : Nat) (k : PyData → Prop) : rdK env (.slot i) k = getS env i (rdS k) := by
  rw [getS_ex]
  unfold rdK rd
  cases h : env[i]? with
  | none => simp [h]
  | some s => cases s <;> simp [rdS, h]
def fzS (i : Nat) (env : Ev) (Kd : Ev → PyData → Prop) : Sl → Prop
  | .val d => Kd env d
  | .own false ds => setS env i (.val (.list ds)) fun e => Kd e (.list ds)
  | _ => False
theorem fzS_v (i : Nat) (env : Ev) (Kd : Ev → PyData → Prop) (d : PyData) : fzS i env Kd (.val d) = Kd env d := rfl
theorem fzS_o (i : Nat) (env : Ev) (Kd : Ev → PyData → Prop) (ds : List PyData) : fzS i env Kd (.own false ds) = setS env i (.val (.list ds)) fun e => Kd e (.list ds) := rfl
theorem fzS_l (i : Nat) (env : Ev) (Kd : Ev → PyData → Prop) (ds : List PyData) : fzS i env Kd (.own true ds) = False := rfl
theorem fzS_u (i : Nat) (env : Ev) (Kd : Ev → PyData → Prop) : fzS i env Kd .un = False := rfl
def fzK (env : Ev) (r : Rs) (Kd : Ev → PyData → Prop) : Prop := ∃ p, fz env r = some p ∧ Kd p.1 p.2
theorem fzK_v (env : Ev) (d : PyData) (Kd : Ev → PyData → Prop) : fzK env (.val d) Kd = Kd env d := by simp [fzK, fz]
theorem fzK_t (env : Ev) (ds : List PyData) (Kd : Ev → PyData → Prop) : fzK env (.tmp ds) Kd = Kd env (.list ds) := by simp [fzK, fz]
theorem fzK_s (env : Ev) (i : Nat) (Kd : Ev → PyData → Prop) : fzK env (.slot i) Kd = getS env i (fzS i env Kd) := by
  rw [getS_ex]
  unfold fzK fz
  cases h : env[i]? with
  | none => simp [h]
  | some s =>
    cases s with
    | un => simp [fzS, h]
    | val d => simp [fzS, h]
    | own l ds => cases l <;> simp [fzS, setS_eq, h]
    | dct kv => simp [fzS, h]
theorem e_fz (w : WE) (env : Ev) (Kd : Ev → PyData → Prop) (Kx : KXc) : wFz w env Kd Kx = w env (fun e r => fzK e r Kd) Kx := rfl
theorem asg_v (i : Nat) (env : Ev) (d : PyData) (K : Ev → Prop) : asg i env (.val d) K = setS env i (.val d) K := (setS_eq _ _ _ _).symm
theorem asg_t (i : Nat) (env : Ev) (ds : List PyData) (K : Ev → Prop) : asg i env (.tmp ds) K = setS env i (.own false ds) K := (setS_eq _ _ _ _).symm
theorem asg_s (i j : Nat) (env : Ev) (K : Ev → Prop) : asg i env (.slot j) K = fzK env (.slot j) fun e d => setS e i (.val d) K := by
  unfold asg fzK
  simp only [setS_eq]
def tbK (r : Rs) (K : Bool → Prop) : Prop := ∃ b, r = .val (.bool b) ∧ K b
theorem tbK_b (b : Bool) (K : Bool → Prop) : tbK (.val (.bool b)) K = K b := by simp [tbK]
theorem e_tb (w : WE) (env : Ev) (Kt : KT) (Kx : KXc) : wTB w env Kt Kx = w env (fun e r => tbK r (Kt e)) Kx := rfl
theorem e_notV (w : WE) (env : Ev) (Ke : KE) (Kx : KXc) : wNotV w env Ke Kx = w env (fun e r => tbK r fun c => Ke e (.val (.bool (!c)))) Kx := rfl
theorem e_andV (wa wb : WE) (env : Ev) (Ke : KE) (Kx : KXc) : wAndV wa wb env Ke Kx = wa env (fun e r => tbK r fun c => if c = true then wb e Ke Kx else Ke e (.val (.bool false))) Kx := rfl
theorem e_orV (wa wb : WE) (env : Ev) (Ke : KE) (Kx : KXc) : wOrV wa wb env Ke Kx = wa env (fun e r => tbK r fun c => if c = true then Ke e (.val (.bool true)) else wb e Ke Kx) Kx := rfl
def intK (r : Rs) (K : Int → Prop) : Prop := ∃ i, r = .val (.int i) ∧ K i
theorem intK_i (i : Int) (K : Int → Prop) : intK (.val (.int i)) K = K i := by simp [intK]
theorem e_neg (w : WE) (env : Ev) (Ke : KE) (Kx : KXc) : wNeg w env Ke Kx = w env (fun e r => intK r fun i => Ke e (.val (.int (-i)))) Kx := rfl
theorem e_oso (w : WE) (env : Ev) (Ko : Ev → Option Int → Prop) (Kx : KXc) : wOSo w env Ko Kx = w env (fun e r => intK r fun i => Ko e (some i)) Kx := rfl
theorem e_rng1 (w : WE) (env : Ev) (Ki : Ev → List PyData → Prop) (Kx : KXc) : wIRng1 w env Ki Kx = w env (fun e r => intK r fun j => -(2 ^ 62) ≤ j ∧ j < 2 ^ 62 ∧ Ki e ((List.range j.toNat).map fun (i : Nat) => PyData.int (i : Int))) Kx := rfl
theorem e_rng2 (wa wb : WE) (env : Ev) (Ki : Ev → List PyData → Prop) (Kx : KXc) : wIRng2 wa wb env Ki Kx = wa env (fun e1 r1 => wb e1 (fun e2 r2 => intK r1 fun i => intK r2 fun j => (-(2 ^ 62) ≤ i ∧ i < 2 ^ 62 ∧ -(2 ^ 62) ≤ j ∧ j < 2 ^ 62) ∧ Ki e2 ((List.range (j - i).toNat).map fun (m : Nat) => PyData.int (i + m))) Kx) Kx := by
  have : (fun (e2 : Ev) (r1 r2 : Rs) => intK r1 fun i => intK r2 fun j => (-(2 ^ 62) ≤ i ∧ i < 2 ^ 62 ∧ -(2 ^ 62) ≤ j ∧ j < 2 ^ 62) ∧ Ki e2 ((List.range (j - i).toNat).map fun (m : Nat) => PyData.int (i + m))) =
      fun e2 r1 r2 => ∃ i j, r1 = .val (.int i) ∧ r2 = .val (.int j) ∧ (-(2 ^ 62) ≤ i ∧ i < 2 ^ 62 ∧ -(2 ^ 62) ≤ j ∧ j < 2 ^ 62) ∧ Ki e2 ((List.range (j - i).toNat).map fun (m : Nat) => PyData.int (i + m)) := by
    funext e2 r1 r2
    unfold intK
    apply propext
    constructor
    · rintro ⟨i, h1, j, h2, h3⟩; exact ⟨i, j, h1, h2, h3⟩
    · rintro ⟨i, j, h1, h2, h3⟩; exact ⟨i, h1, j, h2, h3⟩
  unfold wIRng2
  congr 1
  funext e1 r1
  congr 1
  funext e2 r2
  exact (congrFun (congrFun (congrFun this e2) r1) r2).symm
/-! calls -/
def rdAllK (env : Ev) : List Rs → (List PyData → Prop) → Prop
  | [], K => K []
  | r :: rs, K => rdK env r fun d => rdAllK env rs fun ds => K (d :: ds)
theorem rdAllK_n (env : Ev) (K : List PyData → Prop) : rdAllK env [] K = K [] := rfl
theorem rdAllK_c (env : Ev) (r : Rs) (rs : List Rs) (K : List PyData → Prop) : rdAllK env (r :: rs) K = rdK env r fun d => rdAllK env rs fun ds => K (d :: ds) := rfl
theorem rdAllK_ex (env : Ev) : ∀ (rs : List Rs) (K : List PyData → Prop), rdAllK env rs K = ∃ ds, rdAll env rs = some ds ∧ K ds
  | [], K => by simp [rdAllK, rdAll]
  | r :: rs, K => by
    rw [rdAllK_c]
    unfold rdK rdAll
    cases h1 : rd env r with
    | none => simp
    | some d =>
      cases h2 : rdAll env rs with
      | none => simp [rdAllK_ex env rs, h2]
      | some ds => simp [rdAllK_ex env rs, h2]
theorem e_callB (o : OpN) (wa : WA) (env : Ev) (Ke : KE) (Kx : KXc) : wCallB o wa env Ke Kx = wa env (fun e rs => rdAllK e rs fun ds => o ds (Ke e)) Kx := by
  simp only [rdAllK_ex]
  rfl
def lnS (K : List PyData → Prop) : Sl → Prop
  | .own _ ds => K ds
  | _ => False
theorem lnS_o (K : List PyData → Prop) (l : Bool) (ds : List PyData) : lnS K (.own l ds) = K ds := rfl
theorem lnS_v (K : List PyData → Prop) (d : PyData) : lnS K (.val d) = False := rfl
theorem lnS_u (K : List PyData → Prop) : lnS K .un = False := rfl
def avsK (env : Ev) : List Ar → (List AV → Prop) → Prop
  | [], K => K []
  | .fz d :: as, K => avsK env as fun a => K (.val d :: a)
  | .ln i :: as, K => getS env i (lnS fun ds => avsK env as fun a => K (.own ds :: a))
theorem avsK_n (env : Ev) (K : List AV → Prop) : avsK env [] K = K [] := rfl
theorem avsK_f (env : Ev) (d : PyData) (as : List Ar) (K : List AV → Prop) : avsK env (.fz d :: as) K = avsK env as fun a => K (.val d :: a) := rfl
theorem avsK_l (env : Ev) (i : Nat) (as : List Ar) (K : List AV → Prop) : avsK env (.ln i :: as) K = getS env i (lnS fun ds => avsK env as fun a => K (.own ds :: a)) := rfl
theorem avsK_ex (env : Ev) : ∀ (as : List Ar) (K : List AV → Prop), avsK env as K = ∃ a, avsOf env as = some a ∧ K a
  | [], K => by simp [avsK, avsOf]
  | .fz d :: as, K => by
    rw [avsK_f, avsK_ex env as, show avsOf env (.fz d :: as) = (avsOf env as).map (.val d :: ·) from rfl]
    simp only [Option.map_eq_some_iff]
    apply propext
    constructor
    · rintro ⟨a, h1, h2⟩; exact ⟨_, ⟨a, h1, rfl⟩, h2⟩
    · rintro ⟨_, ⟨a, h1, rfl⟩, h2⟩; exact ⟨a, h1, h2⟩
  | .ln i :: as, K => by
    rw [avsK_l, getS_ex]
    unfold avsOf
    cases h : env[i]? with
    | none => simp
    | some s =>
      cases s with
      | un => simp [lnS]
      | dct kv => simp [lnS]
      | val d => simp [lnS]
      | own l ds =>
        simp only [Option.some.injEq, exists_eq_left', lnS_o, avsK_ex env as, Option.map_eq_some_iff]
        apply propext
        constructor
        · rintro ⟨a, h1, h2⟩; exact ⟨_, ⟨a, h1, rfl⟩, h2⟩
        · rintro ⟨_, ⟨a, h1, rfl⟩, h2⟩; exact ⟨a, h1, h2⟩
def poS (i : Nat) (env : Ev) (ds : List PyData) (K : Ev → Prop) : Sl → Prop
  | .own l _ => setS env i (.own l ds) K
  | _ => K env
theorem poS_o (i : Nat) (env : Ev) (ds es : List PyData) (l : Bool) (K : Ev → Prop) : poS i env ds K (.own l es) = setS env i (.own l ds) K := rfl
def poK (env : Ev) : List Nat → List (List PyData) → (Ev → Prop) → Prop
  | i :: is, ds :: outs, K => match env[i]? with
    | some s => poS i env ds (fun e => poK e is outs K) s
    | none => poK env is outs K
  | _, _, K => K env
theorem poK_n (env : Ev) (outs : List (List PyData)) (K : Ev → Prop) : poK env [] outs K = K env := rfl
theorem poK_eq : ∀ (is : List Nat) (outs : List (List PyData)) (env : Ev) (K : Ev → Prop), poK env is outs K = K (putOuts env is outs)
  | [], _, _, _ => rfl
  | _ :: _, [], _, _ => rfl
  | i :: is, ds :: outs, env, K => by
    unfold poK putOuts
    cases h : env[i]? with
    | none => exact poK_eq is outs env K
    | some s =>
      cases s with
      | un => exact poK_eq is outs env K
      | dct kv => exact poK_eq is outs env K
      | val d => exact poK_eq is outs env K
      | own l es =>
        show setS env i (.own l ds) (fun e => poK e is outs K) = _
        rw [setS_eq, poK_eq is outs]
theorem poK_c (i : Nat) (is : List Nat) (env : Ev) (ds : List PyData) (outs : List (List PyData)) (K : Ev → Prop) (h : ∃ s, env[i]? = some s) : poK env (i :: is) (ds :: outs) K = getS env i (poS i env ds fun e => poK e is outs K) := by
  obtain ⟨s, h⟩ := h
  rw [getS_at h]
  show (match env[i]? with
    | some s => poS i env ds (fun e => poK e is outs K) s
    | none => poK env is outs K) = _
  rw [h]
theorem inS_0 (s : Sl) (e : Ev) : (∃ t, (s :: e)[0]? = some t) = True := by simp
theorem inS_s (s : Sl) (e : Ev) (n : Nat) : (∃ t, (s :: e)[n + 1]? = some t) = (∃ t, e[n]? = some t) := by simp
def rsK (r : Rv) (K : Rs → Prop) : Prop := K (rsOf r)
theorem rsK_v (d : PyData) (K : Rs → Prop) : rsK (.val d) K = K (.val d) := rfl
theorem rsK_o (ds : List PyData) (K : Rs → Prop) : rsK (.own ds) K = K (.tmp ds) := rfl
theorem e_call (n : Nat) (S : Spc) (wm : WM) (env : Ev) (Ke : KE) (Kx : KXc) : wCall n S wm env Ke Kx = wm env (fun e as => (lnsOf as).Nodup ∧ avsK e as fun avs => avs.length = n ∧ S avs (fun outs r => poK e (lnsOf as) outs fun e' => rsK r (Ke e')) (fun outs x => poK e (lnsOf as) outs fun e' => Kx e' x)) Kx := by
  simp only [avsK_ex, poK_eq, rsK]
  rfl
/-! own lists -/
def ownB : Sl → Prop
  | .own _ _ => True
  | _ => False
theorem ownB_o (l : Bool) (ds : List PyData) : ownB (.own l ds) = True := rfl
theorem e_isOwn (env : Ev) (i : Nat) : isOwn env i = getS env i ownB := by
  rw [getS_ex]
  unfold isOwn
  apply propext
  constructor
  · rintro ⟨l, ds, h⟩; exact ⟨_, h, trivial⟩
  · rintro ⟨s, h, z⟩
    cases s with
    | own l ds => exact ⟨l, ds, h⟩
    | un => exact z.elim
    | dct kv => exact z.elim
    | val d => exact z.elim
theorem e_ld (i : Nat) (wm : WM) (env : Ev) (Ka : Ev → List Ar → Prop) (Kx : KXc) : wLd i wm env Ka Kx = (getS env i ownB ∧ wm env (fun e as => Ka e (.ln i :: as)) Kx) := by
  rw [← e_isOwn]
  unfold wLd isOwn wMLend
  apply propext
  constructor
  · rintro ⟨⟨ds, l, h⟩, z⟩; exact ⟨⟨l, ds, h⟩, z⟩
  · rintro ⟨⟨l, ds, h⟩, z⟩; exact ⟨⟨ds, l, h⟩, z⟩
def oS (K : Bool → List PyData → Prop) : Sl → Prop
  | .own l ds => K l ds
  | _ => False
theorem oS_o (K : Bool → List PyData → Prop) (l : Bool) (ds : List PyData) : oS K (.own l ds) = K l ds := rfl
theorem oS_v (K : Bool → List PyData → Prop) (d : PyData) : oS K (.val d) = False := rfl
theorem oS_u (K : Bool → List PyData → Prop) : oS K .un = False := rfl
theorem own_ex (env : Ev) (i : Nat) (K : Bool → List PyData → Prop) : getS env i (oS K) = ∃ l ds, env[i]? = some (Sl.own l ds) ∧ K l ds := by
  rw [getS_ex]
  apply propext
  constructor
  · rintro ⟨s, h, z⟩
    cases s with
    | own l ds => exact ⟨l, ds, h, z⟩
    | un => exact z.elim
    | dct kv => exact z.elim
    | val d => exact z.elim
  · rintro ⟨l, ds, h, z⟩; exact ⟨_, h, z⟩
theorem e_ownF (i : Nat) (w : WE) (m : Mu) (env : Ev) (Ke : KE) (Kx : KXc) : wOwnF i w m env Ke Kx = (getS env i ownB ∧ wFz w env (fun e d => getS e i (oS fun l ds => m ds d fun ds' d' => setS e i (.own l ds') fun e' => Ke e' (.val d'))) Kx) := by
  simp only [own_ex, setS_eq, ← e_isOwn]
  rfl
theorem e_own0 (i : Nat) (m : List PyData → (List PyData → PyData → Prop) → Prop) (env : Ev) (Ke : KE) (Kx : KXc) : wOwn0 i m env Ke Kx = getS env i (oS fun l ds => m ds fun ds' d' => setS env i (.own l ds') fun e' => Ke e' (.val d')) := by
  simp only [own_ex, setS_eq]
  rfl
theorem e_setIx (i : Nat) (wi w : WE) (env : Ev) (k : Ken) : wSetIx i wi w env k = wFz w env (fun e d => getS e i ownB ∧ wi e (fun e2 r => intK r fun j => getS e2 i (oS fun l ds => ∃ n, ixN ds.length j = some n ∧ setS e2 i (.own l (ds.set n d)) k.nx)) k.ex) k.ex := by
  have : ∀ (e2 : Ev) (r : Rs) (d : PyData), (intK r fun j => getS e2 i (oS fun l ds => ∃ n, ixN ds.length j = some n ∧ setS e2 i (.own l (ds.set n d)) k.nx)) = ∃ j l ds n, r = .val (.int j) ∧ e2[i]? = some (Sl.own l ds) ∧ ixN ds.length j = some n ∧ k.nx (e2.set i (.own l (ds.set n d))) := by
    intro e2 r d
    simp only [own_ex, setS_eq, intK]
    apply propext
    constructor
    · rintro ⟨j, h1, l, ds, h2, n, h3, h4⟩; exact ⟨j, l, ds, n, h1, h2, h3, h4⟩
    · rintro ⟨j, l, ds, n, h1, h2, h3, h4⟩; exact ⟨j, h1, l, ds, h2, n, h3, h4⟩
  simp only [this, ← e_isOwn]
  rfl
def agS (f : Int → Prop) : Sl → Prop
  | .val (.int n) => f n
  | _ => False
theorem agS_i (f : Int → Prop) (n : Int) : agS f (.val (.int n)) = f n := rfl
theorem e_aug (i : Nat) (f : Int → Int → Int) (w : WE) (env : Ev) (k : Ken) : wAug i f w env k = getS env i (agS fun n => w env (fun e r => intK r fun m => setS e i (.val (.int (f n m))) k.nx) k.ex) := by
  rw [getS_ex]
  simp only [setS_eq]
  unfold wAug intK
  apply propext
  constructor
  · rintro ⟨n, h, z⟩; exact ⟨_, h, z⟩
  · rintro ⟨s, h, z⟩
    cases s with
    | own l ds => exact z.elim
    | un => exact z.elim
    | dct kv => exact z.elim
    | val d =>
      cases d with
      | int n => exact ⟨n, h, z⟩
      | none => exact z.elim
      | bool _ => exact z.elim
      | str _ => exact z.elim
      | list _ => exact z.elim
      | tuple _ => exact z.elim
      | dict _ => exact z.elim
theorem e_par (i j : Nat) (wf : WF) (env : Ev) (k : Ken) : wPar i j wf env k = wf env (fun e ds => match ds with
  | [d1, d2] => setS e i (.val d1) fun e1 => setS e1 j (.val d2) k.nx
  | _ => False) k.ex := by
  simp only [setS_eq]
  rfl
theorem e_gN (i : Nat) (d : PyData) (env : Ev) (K : Ev → Prop) : gN i d env K = setS env i (.val d) K := (setS_eq _ _ _ _).symm
/-! the ends -/
def otS (K : List PyData → Prop) : Sl → Prop
  | .own true ds => K ds
  | _ => False
theorem otS_o (K : List PyData → Prop) (ds : List PyData) : otS K (.own true ds) = K ds := rfl
def outK (env : Ev) : List Nat → (List (List PyData) → Prop) → Prop
  | [], K => K []
  | i :: is, K => getS env i (otS fun ds => outK env is fun o => K (ds :: o))
theorem outK_n (env : Ev) (K : List (List PyData) → Prop) : outK env [] K = K [] := rfl
theorem outK_c (env : Ev) (i : Nat) (is : List Nat) (K : List (List PyData) → Prop) : outK env (i :: is) K = getS env i (otS fun ds => outK env is fun o => K (ds :: o)) := rfl
theorem outK_ex (env : Ev) : ∀ (is : List Nat) (K : List (List PyData) → Prop), outK env is K = ∃ o, outsOf env is = some o ∧ K o
  | [], K => by simp [outK, outsOf]
  | i :: is, K => by
    rw [outK_c, getS_ex]
    unfold outsOf
    cases h : env[i]? with
    | none => simp
    | some s =>
      cases s with
      | un => simp [otS]
      | dct kv => simp [otS]
      | val d => simp [otS]
      | own l ds =>
        cases l with
        | false => simp [otS]
        | true =>
          simp only [Option.some.injEq, exists_eq_left', otS_o, outK_ex env is, Option.map_eq_some_iff]
          apply propext
          constructor
          · rintro ⟨a, h1, h2⟩; exact ⟨_, ⟨a, h1, rfl⟩, h2⟩
          · rintro ⟨_, ⟨a, h1, rfl⟩, h2⟩; exact ⟨a, h1, h2⟩
def rvS (K : Rv → Prop) : Sl → Prop
  | .val d => K (.val d)
  | .own false ds => K (.own ds)
  | _ => False
theorem rvS_v (K : Rv → Prop) (d : PyData) : rvS K (.val d) = K (.val d) := rfl
theorem rvS_o (K : Rv → Prop) (ds : List PyData) : rvS K (.own false ds) = K (.own ds) := rfl
def rvK (env : Ev) (r : Rs) (K : Rv → Prop) : Prop := ∃ v, retV env r = some v ∧ K v
theorem rvK_v (env : Ev) (d : PyData) (K : Rv → Prop) : rvK env (.val d) K = K (.val d) := by simp [rvK, retV]
theorem rvK_t (env : Ev) (ds : List PyData) (K : Rv → Prop) : rvK env (.tmp ds) K = K (.own ds) := by simp [rvK, retV]
theorem rvK_s (env : Ev) (i : Nat) (K : Rv → Prop) : rvK env (.slot i) K = getS env i (rvS K) := by
  rw [getS_ex]
  unfold rvK retV
  cases h : env[i]? with
  | none => simp [h]
  | some s =>
    cases s with
    | un => simp [rvS, h]
    | val d => simp [rvS, h]
    | own l ds => cases l <;> simp [rvS, h]
    | dct kv => simp [rvS, h]
theorem kenD_nx {ls : List Nat} {Kr : List (List PyData) → Rv → Prop} {Kx : List (List PyData) → XD → Prop} {env : Ev} : (kenD ls Kr Kx).nx env = outK env ls fun o => Kr o (.val .none) := by rw [outK_ex]; rfl
theorem kenD_rt {ls : List Nat} {Kr : List (List PyData) → Rv → Prop} {Kx : List (List PyData) → XD → Prop} {env : Ev} {r : Rs} : (kenD ls Kr Kx).rt env r = outK env ls fun o => rvK env r (Kr o) := by
  rw [outK_ex]
  unfold rvK kenD
  apply propext
  constructor
  · rintro ⟨o, v, h1, h2, h3⟩; exact ⟨o, h1, v, h2, h3⟩
  · rintro ⟨o, h1, v, h2, h3⟩; exact ⟨o, v, h1, h2, h3⟩
theorem kenD_bk {ls : List Nat} {Kr : List (List PyData) → Rv → Prop} {Kx : List (List PyData) → XD → Prop} {env : Ev} : (kenD ls Kr Kx).bk env = False := rfl
theorem kenD_ct {ls : List Nat} {Kr : List (List PyData) → Rv → Prop} {Kx : List (List PyData) → XD → Prop} {env : Ev} : (kenD ls Kr Kx).ct env = False := rfl
theorem kenD_ex {ls : List Nat} {Kr : List (List PyData) → Rv → Prop} {Kx : List (List PyData) → XD → Prop} {env : Ev} {x : XD} : (kenD ls Kr Kx).ex env x = outK env ls fun o => Kx o x := by rw [outK_ex]; rfl
/-! operators on known data -/
section
variable (K : Rs → Prop) (i j : Int) (xs ys : List PyData)
theorem oAdd_i : oAdd (.int i) (.int j) K = K (.val (.int (i + j))) := rfl
theorem oAdd_l : oAdd (.list xs) (.list ys) K = (xs.length + ys.length ≤ sizeLine ∧ K (.tmp (xs ++ ys))) := rfl
theorem oAdd_t : oAdd (.tuple xs) (.tuple ys) K = (xs.length + ys.length ≤ sizeLine ∧ K (.val (.tuple (xs ++ ys)))) := rfl
theorem oAdd_s (x y : Str) : oAdd (.str x) (.str y) K = (x.length + y.length ≤ sizeLine ∧ K (.val (.str (x ++ y)))) := rfl
theorem oSub_i : oSub (.int i) (.int j) K = K (.val (.int (i - j))) := rfl
theorem oMul_i : oMul (.int i) (.int j) K = (CMulX i j ∧ K (.val (.int (i * j)))) := rfl
theorem oFdiv_i : oFdiv (.int i) (.int j) K = ((0 < j ∧ j.natAbs.log2 < 9000) ∧ K (.val (.int (i / j)))) := rfl
theorem oMod_i : oMod (.int i) (.int j) K = (0 < j ∧ K (.val (.int (i % j)))) := rfl
theorem oPow_i : oPow (.int i) (.int j) K = (CPow i j ∧ K (.val (.int (i ^ j.toNat)))) := rfl
theorem oShl_i : oShl (.int i) (.int j) K = (CShl i j ∧ K (.val (.int (i * 2 ^ j.toNat)))) := rfl
theorem oShr_i : oShr (.int i) (.int j) K = (0 ≤ j ∧ K (.val (.int (i / 2 ^ j.toNat)))) := rfl
theorem oOr_i : oOr (.int i) (.int j) K = (True ∧ K (.val (.int (Builtin.bitOr i j)))) := rfl
theorem oAndB_i : oAndB (.int i) (.int j) K = (True ∧ K (.val (.int (Builtin.bitAnd i j)))) := rfl
theorem oLt_i : oLt (.int i) (.int j) K = K (.val (.bool (decide (i < j)))) := rfl
theorem oLe_i : oLe (.int i) (.int j) K = K (.val (.bool (decide (i ≤ j)))) := rfl
theorem oGt_i : oGt (.int i) (.int j) K = K (.val (.bool (decide (j < i)))) := rfl
theorem oGe_i : oGe (.int i) (.int j) K = K (.val (.bool (decide (j ≤ i)))) := rfl
theorem oEq_i : oEq (.int i) (.int j) K = K (.val (.bool (decide (i = j)))) := by
  apply propext
  exact ⟨fun h => h.2.2, fun h => ⟨rfl, rfl, h⟩⟩
theorem oNe_i : oNe (.int i) (.int j) K = K (.val (.bool (!decide (i = j)))) := by
  apply propext
  exact ⟨fun h => h.2.2, fun h => ⟨rfl, rfl, h⟩⟩
theorem oIx_l : oIx (.list xs) (.int i) K = ∃ x, atI xs i = some x ∧ K (.val x) := rfl
theorem oIx_t : oIx (.tuple xs) (.int i) K = ∃ x, atI xs i = some x ∧ K (.val x) := rfl
theorem oLen_l : oLen [.list xs] K = K (.val (.int xs.length)) := rfl
theorem oLen_t : oLen [.tuple xs] K = K (.val (.int xs.length)) := rfl
theorem oInt_i : oInt [.int i] K = K (.val (.int i)) := rfl
theorem oInt_b (b : Bool) : oInt [.bool b] K = K (.val (.int (if b then 1 else 0))) := rfl
theorem oMax_i : oMax [.int i, .int j] K = K (.val (.int (if j > i then j else i))) := rfl
theorem oMin_i : oMin [.int i, .int j] K = K (.val (.int (if j < i then j else i))) := rfl
theorem oList_l : oList [.list xs] K = K (.tmp xs) := rfl
theorem oList_t : oList [.tuple xs] K = K (.tmp xs) := rfl
theorem oTuple_l : oTuple [.list xs] K = K (.val (.tuple xs)) := rfl
theorem oTuple_t : oTuple [.tuple xs] K = K (.val (.tuple xs)) := rfl
theorem oSorted_l : oSorted [.list xs] K = (Srts xs ∧ K (.tmp (xs.mergeSort dLe))) := rfl
theorem oSorted_t : oSorted [.tuple xs] K = (Srts xs ∧ K (.tmp (xs.mergeSort dLe))) := rfl
theorem oIs_n (d : PyData) : oIs d .none K = K (.val (.bool (isNone d))) := by cases d <;> rfl
theorem oIsN_n (d : PyData) : oIsNot d .none K = K (.val (.bool (!isNone d))) := by cases d <;> rfl
theorem oIs_b (a b : Bool) : oIs (.bool a) (.bool b) K = K (.val (.bool (decide (a = b)))) := rfl
theorem oIsN_b (a b : Bool) : oIsNot (.bool a) (.bool b) K = K (.val (.bool (!decide (a = b)))) := rfl
theorem isNone_n : isNone .none = true := rfl
theorem isNone_t : isNone (.tuple xs) = false := rfl
theorem isNone_l : isNone (.list xs) = false := rfl
theorem isNone_i : isNone (.int i) = false := rfl
theorem isNone_s (x : Str) : isNone (.str x) = false := rfl
theorem isNone_b (x : Bool) : isNone (.bool x) = false := rfl
theorem oSl_l (lo hi : Option Int) : oSl (.list xs) lo hi K = K (.tmp (cutD xs lo hi)) := rfl
theorem oSl_t (lo hi : Option Int) : oSl (.tuple xs) lo hi K = K (.val (.tuple (cutD xs lo hi))) := rfl
end
theorem gT_t (n : Nat) (gs : WGs) (ds : List PyData) (env : Ev) (K : Ev → Prop) : gT n gs (.tuple ds) env K = (ds.length = n ∧ gs ds env K) := rfl
theorem gC_c (g : WG) (gs : WGs) (d : PyData) (r : List PyData) (env : Ev) (K : Ev → Prop) : gCons' g gs (d :: r) env K = g d env fun e => gs r e K := rfl
def sqK (d : PyData) (K : List PyData → Prop) : Prop := ∃ ds, itemsOf d = some ds ∧ K ds
theorem sqK_l (ds : List PyData) (K : List PyData → Prop) : sqK (.list ds) K = K ds := by simp [sqK, itemsOf]
theorem sqK_t (ds : List PyData) (K : List PyData → Prop) : sqK (.tuple ds) K = K ds := by simp [sqK, itemsOf]
theorem sqK2_l (ds : List PyData) (K : List PyData → Prop) : (∃ es, seqOf (.list ds) = some es ∧ K es) = K ds := by simp [seqOf]
theorem sqK2_t (ds : List PyData) (K : List PyData → Prop) : (∃ es, seqOf (.tuple ds) = some es ∧ K es) = K ds := by simp [seqOf]
def sq2K (d : PyData) (K : List PyData → Prop) : Prop := ∃ ds, seqOf d = some ds ∧ K ds
theorem sq2K_l (ds : List PyData) (K : List PyData → Prop) : sq2K (.list ds) K = K ds := sqK2_l ds K
theorem sq2K_t (ds : List PyData) (K : List PyData → Prop) : sq2K (.tuple ds) K = K ds := sqK2_t ds K
theorem e_isq (w : WE) (env : Ev) (Ki : Ev → List PyData → Prop) (Kx : KXc) : wISq w env Ki Kx = wFz w env (fun e d => sq2K d (Ki e)) Kx := rfl
theorem e_iseq (w : WE) (env : Ev) (Ki : Ev → List PyData → Prop) (Kx : KXc) : wISeq w env Ki Kx = wFz w env (fun e d => sqK d (Ki e)) Kx := rfl
def ssK (d : PyData) (K : List PyData → Prop) : Prop := ∃ xs, (d = .list xs ∨ d = .tuple xs) ∧ K xs
theorem ssK_l (ds : List PyData) (K : List PyData → Prop) : ssK (.list ds) K = K ds := by simp [ssK]
theorem ssK_t (ds : List PyData) (K : List PyData → Prop) : ssK (.tuple ds) K = K ds := by simp [ssK]
theorem e_sset (w : WE) (env : Ev) (Ke : KE) (Kx : KXc) : wSortSet w env Ke Kx = w env (fun e r => rdK e r fun d => ssK d fun xs => oSortSet xs (Ke e)) Kx := by
  unfold wSortSet
  congr 1
  funext e r
  unfold rdK ssK
  apply propext
  constructor
  · rintro ⟨xs, h1 | h1, h2⟩
    · exact ⟨_, h1, xs, .inl rfl, h2⟩
    · exact ⟨_, h1, xs, .inr rfl, h2⟩
  · rintro ⟨d, h1, xs, rfl | rfl, h2⟩
    · exact ⟨xs, .inl h1, h2⟩
    · exact ⟨xs, .inr h1, h2⟩
theorem e_chain (o o' : Op2) (wa wb wc : WE) (env : Ev) (Ke : KE) (Kx : KXc) : wChain o o' wa wb wc env Ke Kx = wa env (fun e1 r1 => wb e1 (fun e2 r2 => rdK e2 r1 fun d1 => rdK e2 r2 fun d2 => o d1 d2 fun r3 => tbK r3 fun k =>
  if k = true then wc e2 (fun e4 r4 => rdK e4 r2 fun d3 => rdK e4 r4 fun d4 => o' d3 d4 (Ke e4)) Kx else Ke e2 (.val (.bool false))) Kx) Kx := rfl
theorem e_lr1 (b : Bool) (w : WE) (env : Ev) (Ke : KE) (Kx : KXc) : wLR1 b w env Ke Kx = w env (fun e r => intK r fun j => rgK 0 j fun ds => Ke e (if b = true then .val (.tuple ds) else .tmp ds)) Kx := rfl
theorem e_lr2 (b : Bool) (wa wb : WE) (env : Ev) (Ke : KE) (Kx : KXc) : wLR2 b wa wb env Ke Kx = wa env (fun e1 r1 => wb e1 (fun e2 r2 => intK r1 fun i => intK r2 fun j => rgK i j fun ds => Ke e2 (if b = true then .val (.tuple ds) else .tmp ds)) Kx) Kx := by
  unfold wLR2 intK
  rfl
theorem rvD_l (ds : List PyData) (K : Rs → Prop) : rvD (.list ds) K = K (.tmp ds.reverse) := rfl
theorem rvD_t (ds : List PyData) (K : Rs → Prop) : rvD (.tuple ds) K = K (.val (.tuple ds.reverse)) := rfl
theorem e_in1 (neg : Bool) (wa wb : WE) (env : Ev) (Ke : KE) (Kx : KXc) : wIn1 neg wa wb env Ke Kx = wa env (fun e1 r1 => wb e1 (fun e2 r2 => intK r1 fun i => intK r2 fun j => Ke e2 (.val (.bool (negB neg (decide (0 ≤ i ∧ i < j)))))) Kx) Kx := by
  unfold wIn1 intK
  rfl
theorem e_in2 (neg : Bool) (wa wb wc : WE) (env : Ev) (Ke : KE) (Kx : KXc) : wIn2 neg wa wb wc env Ke Kx = wa env (fun e1 r1 => wb e1 (fun e2 r2 => wc e2 (fun e3 r3 => intK r1 fun i => intK r2 fun j => intK r3 fun k => Ke e3 (.val (.bool (negB neg (decide (j ≤ i ∧ i < k)))))) Kx) Kx) Kx := by
  unfold wIn2 intK
  rfl
theorem negB_f (b : Bool) : negB false b = b := rfl
theorem negB_t (b : Bool) : negB true b = !b := rfl
theorem zpK_l (xs ys : List PyData) (K : List PyData → Prop) : zpK [.list xs, .list ys] K = K (zipD xs ys) := rfl
theorem zpK_m (xs ys : List PyData) (K : List PyData → Prop) : zpK [.list xs, .tuple ys] K = K (zipD xs ys) := rfl
theorem zpK_t (xs ys : List PyData) (K : List PyData → Prop) : zpK [.tuple xs, .tuple ys] K = K (zipD xs ys) := rfl
def extR (env : Ev) (i : Nat) (r : Rs) (K : List PyData → Prop) : Prop := ∃ es, (r = .tmp es ∨ ∃ j, j ≠ i ∧ r = .slot j ∧ ∃ m, env[j]? = some (Sl.own m es)) ∧ K es
theorem extR_t (env : Ev) (i : Nat) (es : List PyData) (K : List PyData → Prop) : extR env i (.tmp es) K = K es := by
  unfold extR
  apply propext
  constructor
  · rintro ⟨es', h | ⟨_, _, h, _⟩, k⟩
    · cases h; exact k
    · cases h
  · exact fun k => ⟨es, .inl rfl, k⟩
theorem e_extend (i : Nat) (w : WE) (env : Ev) (Ke : KE) (Kx : KXc) : wExtend i w env Ke Kx = (getS env i ownB ∧ w env (fun e r => getS e i (oS fun l ds => extR e i r fun es => ds.length + es.length ≤ sizeLine ∧ setS e i (.own l (ds ++ es)) fun e' => Ke e' (.val .none))) Kx) := by
  have : ∀ (e : Ev) (r : Rs), (getS e i (oS fun l ds => extR e i r fun es => ds.length + es.length ≤ sizeLine ∧ setS e i (.own l (ds ++ es)) fun e' => Ke e' (.val .none))) =
      ∃ l ds es, e[i]? = some (Sl.own l ds) ∧ (r = .tmp es ∨ ∃ j, j ≠ i ∧ r = .slot j ∧ ∃ m, e[j]? = some (Sl.own m es)) ∧ ds.length + es.length ≤ sizeLine ∧ Ke (e.set i (.own l (ds ++ es))) (.val .none) := by
    intro e r
    simp only [own_ex, setS_eq, extR]
    apply propext
    constructor
    · rintro ⟨l, ds, h1, es, h2, h3⟩; exact ⟨l, ds, es, h1, h2, h3⟩
    · rintro ⟨l, ds, es, h1, h2, h3⟩; exact ⟨l, ds, h1, es, h2, h3⟩
  simp only [this, ← e_isOwn]
  rfl
theorem eqv_ss (x y : Str) : PyData.eqv (.str x) (.str y) = decide (x = y) := by
  rw [PyData.eqv]
  by_cases h : x = y
  · subst h; simp
  · simp [h]
/-! exceptions -/
abbrev xGreat (a b : Int) : XD := ⟨"TooGreat", [("most", .int b), ("many", .int a)]⟩
abbrev xClocks (a : Int) : XD := ⟨"NoClocks", [("number", .int a)]⟩
abbrev xText (a : Int) : XD := ⟨"NoText", [("row", .int a)]⟩
abbrev xBare (n : Str) : XD := ⟨n, []⟩
def grK (ds : List PyData) (K : XD → Prop) : Prop := match ds with
  | [.int a, .int b] => K (xGreat a b)
  | _ => ds.length = 2 ∧ K ⟨"TooGreat", ((["many", "most"] : List Str).zip ds).reverse⟩
theorem grK_i (a b : Int) (K : XD → Prop) : grK [.int a, .int b] K = K (xGreat a b) := rfl
theorem e_raiseG (wf : WF) (env : Ev) (k : Ken) : wRaise "TooGreat" ["many", "most"] wf env k = wf env (fun e ds => grK ds (k.ex e)) k.ex := by
  have : ∀ (e : Ev) (ds : List PyData), grK ds (k.ex e) = (ds.length = (["many", "most"] : List Str).length ∧ k.ex e ⟨"TooGreat", ((["many", "most"] : List Str).zip ds).reverse⟩) := by
    intro e ds
    unfold grK
    split
    · rename_i a b
      apply propext
      exact ⟨fun h => ⟨rfl, h⟩, fun h => h.2⟩
    · rfl
  simp only [this]
  rfl
def onK (ds : List PyData) (f n : Str) (K : XD → Prop) : Prop := match ds with
  | [.int a] => K ⟨n, [(f, .int a)]⟩
  | _ => ds.length = 1 ∧ K ⟨n, (([f] : List Str).zip ds).reverse⟩
theorem onK_i (a : Int) (f n : Str) (K : XD → Prop) : onK [.int a] f n K = K ⟨n, [(f, .int a)]⟩ := rfl
theorem e_raise1 (f n : Str) (wf : WF) (env : Ev) (k : Ken) : wRaise n [f] wf env k = wf env (fun e ds => onK ds f n (k.ex e)) k.ex := by
  have : ∀ (e : Ev) (ds : List PyData), onK ds f n (k.ex e) = (ds.length = ([f] : List Str).length ∧ k.ex e ⟨n, (([f] : List Str).zip ds).reverse⟩) := by
    intro e ds
    unfold onK
    split
    · rename_i a
      apply propext
      exact ⟨fun h => ⟨rfl, h⟩, fun h => h.2⟩
    · rfl
  simp only [this]
  rfl
theorem e_callX (S : SpcE) (x : XD) (env : Ev) (Ke : KE) (Kx : KXc) : wCallX S x env Ke Kx = S x fun r => rsK r (Ke env) := rfl
theorem xa_1 : (("NoClock" : Str) ∈ xall) = True := eq_true (by decide +kernel)
theorem xa_2 : (("NoNumber" : Str) ∈ xall) = True := eq_true (by decide +kernel)
theorem xa_3 : (("NoPlace" : Str) ∈ xall) = True := eq_true (by decide +kernel)
theorem xa_4 : (("NoRow" : Str) ∈ xall) = True := eq_true (by decide +kernel)
theorem xa_5 : (("NoClocks" : Str) ∈ xall) = True := eq_true (by decide +kernel)
theorem xa_6 : (("NoText" : Str) ∈ xall) = True := eq_true (by decide +kernel)
theorem xa_7 : (("TooGreat" : Str) ∈ xall) = True := eq_true (by decide +kernel)
theorem e_many (a b : Int) (env : Ev) (Ke : KE) (Kx : KXc) : wXf ["TooGreat"] (xGreat a b) "many" env Ke Kx = Ke env (.val (.int a)) := by
  have : (xGreat a b).fs.lookup ("many" : Str) = some (.int a) := by rfl
  unfold wXf
  rw [this]
  simp
theorem e_most (a b : Int) (env : Ev) (Ke : KE) (Kx : KXc) : wXf ["TooGreat"] (xGreat a b) "most" env Ke Kx = Ke env (.val (.int b)) := by
  have : (xGreat a b).fs.lookup ("most" : Str) = some (.int b) := by rfl
  unfold wXf
  rw [this]
  simp
theorem e_number (a : Int) (env : Ev) (Ke : KE) (Kx : KXc) : wXf ["NoClocks"] (xClocks a) "number" env Ke Kx = Ke env (.val (.int a)) := by
  have : (xClocks a).fs.lookup ("number" : Str) = some (.int a) := by rfl
  unfold wXf
  rw [this]
  simp
theorem e_row (a : Int) (env : Ev) (Ke : KE) (Kx : KXc) : wXf ["NoText"] (xText a) "row" env Ke Kx = Ke env (.val (.int a)) := by
  have : (xText a).fs.lookup ("row" : Str) = some (.int a) := by rfl
  unfold wXf
  rw [this]
  simp
/-! reading methods, looking calls, repeated lists, enumerate -/
theorem isLst_l (ds : List PyData) : isLst (.list ds) = True := rfl
def lsK (d : PyData) (K : List PyData → Prop) : Prop := ∃ ds, d = .list ds ∧ K ds
theorem lsK_l (ds : List PyData) (K : List PyData → Prop) : lsK (.list ds) K = K ds := by simp [lsK]
theorem e_rd (w wa : WE) (m : Rd) (env : Ev) (Ke : KE) (Kx : KXc) : wRd w wa m env Ke Kx = w env (fun e1 r1 => rdK e1 r1 isLst ∧ wa e1 (fun e2 r2 => rdK e2 r1 fun d1 => rdK e2 r2 fun d2 => lsK d1 fun ds => m ds d2 fun d => Ke e2 (.val d)) Kx) Kx := rfl
def brS (f : Sl → Prop) : Sl → Prop
  | .own l ds => f (.own l ds)
  | .val d => f (.val d)
  | _ => False
theorem brS_o (f : Sl → Prop) (l : Bool) (ds : List PyData) : brS f (.own l ds) = f (.own l ds) := rfl
theorem brS_v (f : Sl → Prop) (d : PyData) : brS f (.val d) = f (.val d) := rfl
def arS (i : Nat) : Sl → Ar
  | .val d => .fz d
  | _ => .ln i
theorem arS_o (i : Nat) (l : Bool) (ds : List PyData) : arS i (.own l ds) = .ln i := rfl
theorem arS_v (i : Nat) (d : PyData) : arS i (.val d) = .fz d := rfl
theorem e_br (i : Nat) (wm : WM) (env : Ev) (Ka : Ev → List Ar → Prop) (Kx : KXc) : wBr i wm env Ka Kx = getS env i (brS fun s => wm env (fun e as => Ka e (arS i s :: as)) Kx) := by
  rw [getS_ex]
  unfold wBr
  apply propext
  constructor
  · rintro (⟨l, ds, h, z⟩ | ⟨d, h, z⟩)
    · exact ⟨_, h, z⟩
    · exact ⟨_, h, z⟩
  · rintro ⟨s, h, z⟩
    cases s with
    | un => exact z.elim
    | dct kv => exact z.elim
    | val d => exact .inr ⟨d, h, z⟩
    | own l ds => exact .inl ⟨l, ds, h, z⟩
def avbK (env : Ev) : List Ar → (List AV → Prop) → Prop
  | [], K => K []
  | .fz d :: as, K => avbK env as fun a => K (.val d :: a)
  | .ln i :: as, K => getS env i (lnS fun ds => avbK env as fun a => K (.val (.list ds) :: a))
theorem avbK_n (env : Ev) (K : List AV → Prop) : avbK env [] K = K [] := rfl
theorem avbK_f (env : Ev) (d : PyData) (as : List Ar) (K : List AV → Prop) : avbK env (.fz d :: as) K = avbK env as fun a => K (.val d :: a) := rfl
theorem avbK_l (env : Ev) (i : Nat) (as : List Ar) (K : List AV → Prop) : avbK env (.ln i :: as) K = getS env i (lnS fun ds => avbK env as fun a => K (.val (.list ds) :: a)) := rfl
theorem avbK_ex (env : Ev) : ∀ (as : List Ar) (K : List AV → Prop), avbK env as K = ∃ a, avsB env as = some a ∧ K a
  | [], K => by simp [avbK, avsB]
  | .fz d :: as, K => by
    rw [avbK_f, avbK_ex env as, show avsB env (.fz d :: as) = (avsB env as).map (.val d :: ·) from rfl]
    simp only [Option.map_eq_some_iff]
    apply propext
    constructor
    · rintro ⟨a, h1, h2⟩; exact ⟨_, ⟨a, h1, rfl⟩, h2⟩
    · rintro ⟨_, ⟨a, h1, rfl⟩, h2⟩; exact ⟨a, h1, h2⟩
  | .ln i :: as, K => by
    rw [avbK_l, getS_ex]
    unfold avsB
    cases h : env[i]? with
    | none => simp
    | some s =>
      cases s with
      | un => simp [lnS]
      | dct kv => simp [lnS]
      | val d => simp [lnS]
      | own l ds =>
        simp only [Option.some.injEq, exists_eq_left', lnS_o, avbK_ex env as, Option.map_eq_some_iff]
        apply propext
        constructor
        · rintro ⟨a, h1, h2⟩; exact ⟨_, ⟨a, h1, rfl⟩, h2⟩
        · rintro ⟨_, ⟨a, h1, rfl⟩, h2⟩; exact ⟨a, h1, h2⟩
def scK (r : Rv) (K : PyData → Prop) : Prop := ∃ d, r = .val d ∧ scal d = true ∧ K d
theorem scK_b (b : Bool) (K : PyData → Prop) : scK (.val (.bool b)) K = K (.bool b) := by simp [scK, scal]
theorem scK_i (b : Int) (K : PyData → Prop) : scK (.val (.int b)) K = K (.int b) := by simp [scK, scal]
theorem scK_n (K : PyData → Prop) : scK (.val .none) K = K .none := by simp [scK, scal]
theorem scK_s (b : Str) (K : PyData → Prop) : scK (.val (.str b)) K = K (.str b) := by simp [scK, scal]
theorem e_callS (n : Nat) (S : Spc) (wm : WM) (env : Ev) (Ke : KE) (Kx : KXc) : wCallS n S wm env Ke Kx = wm env (fun e as => avbK e as fun avs => avs.length = n ∧ S avs (fun _ r => scK r fun d => Ke e (.val d)) (fun _ _ => False)) Kx := by
  simp only [avbK_ex]
  rfl
def tmK (r : Rs) (K : List PyData → Prop) : Prop := ∃ ds, r = .tmp ds ∧ K ds
theorem tmK_t (ds : List PyData) (K : List PyData → Prop) : tmK (.tmp ds) K = K ds := by simp [tmK]
def tutK (r : Rs) (K : List PyData → Prop) : Prop := ∃ ds, r = .val (.tuple ds) ∧ K ds
theorem tutK_t (ds : List PyData) (K : List PyData → Prop) : tutK (.val (.tuple ds)) K = K ds := by simp [tutK]
theorem e_repT (wa wb : WE) (env : Ev) (Ke : KE) (Kx : KXc) : wRepT wa wb env Ke Kx = wa env (fun e1 r1 => tutK r1 fun ds => wb e1 (fun e2 r2 => intK r2 fun k => ds ≠ [] ∧ 2 ≤ k ∧ k ≤ 1000 ∧ ds.length ≤ 1000 ∧ Ke e2 (.val (.tuple (List.replicate k.toNat ds).flatten))) Kx) Kx := rfl
theorem e_rep (wa wb : WE) (env : Ev) (Ke : KE) (Kx : KXc) : wRep wa wb env Ke Kx = wa env (fun e1 r1 => tmK r1 fun ds => wb e1 (fun e2 r2 => intK r2 fun k => ds.length * k.toNat ≤ sizeLine ∧ k ≤ 16777216 ∧ -16777216 ≤ k ∧ Ke e2 (.tmp (List.replicate k.toNat ds).flatten)) Kx) Kx := rfl
def enK (ds : List PyData) (K : List PyData → Prop) : Prop := ∃ xs, ds = [.list xs] ∧ K (enD xs)
theorem enK_l (xs : List PyData) (K : List PyData → Prop) : enK [.list xs] K = K (enD xs) := by simp [enK]
theorem e_ienum (wf : WF) (env : Ev) (Ki : Ev → List PyData → Prop) (Kx : KXc) : wIEnum wf env Ki Kx = wf env (fun e ds => enK ds (Ki e)) Kx := rfl
/-! calls that look at lists and answer with tuples; enumerate of a tuple; range with a step -/
def tpK (r : Rv) (K : PyData → Prop) : Prop := ∃ d, r = .val d ∧ tupD d = true ∧ K d
theorem tpK_v (d : PyData) (K : PyData → Prop) : tpK (.val d) K = (tupD d = true ∧ K d) := by simp [tpK]
def txK (x : XD) (p : Prop) : Prop := (∀ q ∈ x.fs, tupD q.2 = true) ∧ p
theorem txK_1 (n f : Str) (a : Int) (p : Prop) : txK ⟨n, [(f, .int a)]⟩ p = p := by
  unfold txK
  apply propext
  constructor
  · exact fun h => h.2
  · intro h
    refine ⟨fun q hq => ?_, h⟩
    have e : q = (f, .int a) := by simpa using hq
    subst e
    rfl
theorem e_callT (n : Nat) (S : Spc) (wm : WM) (env : Ev) (Ke : KE) (Kx : KXc) : wCallT n S wm env Ke Kx = wm env (fun e as => avbK e as fun avs => avs.length = n ∧ S avs (fun _ r => tpK r fun d => Ke e (.val d)) (fun _ x => txK x (Kx e x))) Kx := by
  simp only [avbK_ex]
  rfl
def enTK (ds : List PyData) (K : List PyData → Prop) : Prop := ∃ xs, ds = [.tuple xs] ∧ K (enD xs)
theorem enTK_t (xs : List PyData) (K : List PyData → Prop) : enTK [.tuple xs] K = K (enD xs) := by simp [enTK]
theorem e_ienumT (wf : WF) (env : Ev) (Ki : Ev → List PyData → Prop) (Kx : KXc) : wIEnumT wf env Ki Kx = wf env (fun e ds => enTK ds (Ki e)) Kx := rfl
def r3K (ds : List PyData) (K : List PyData → Prop) : Prop := ∃ i j c n, ds = [.int i, .int j, .int c] ∧ RgC i j c n ∧ K (rg3 i c n)
theorem r3K_i (i j c : Int) (K : List PyData → Prop) : r3K [.int i, .int j, .int c] K = ∃ n, RgC i j c n ∧ K (rg3 i c n) := by
  unfold r3K
  apply propext
  constructor
  · rintro ⟨i', j', c', n, e, h⟩
    cases e
    exact ⟨n, h⟩
  · rintro ⟨n, h⟩
    exact ⟨i, j, c, n, rfl, h⟩
theorem e_rng3 (wf : WF) (env : Ev) (Ki : Ev → List PyData → Prop) (Kx : KXc) : wIRng3 wf env Ki Kx = wf env (fun e ds => r3K ds (Ki e)) Kx := rfl
/-! dicts -/
def dcS (K : List (List Int × PyData) → Prop) : Sl → Prop
  | .dct kv => K kv
  | _ => False
theorem dcS_d (K : List (List Int × PyData) → Prop) (kv : List (List Int × PyData)) : dcS K (.dct kv) = K kv := rfl
def dcB : Sl → Prop
  | .dct _ => True
  | _ => False
theorem dcB_d (kv : List (List Int × PyData)) : dcB (.dct kv) = True := rfl
theorem dct_ex (env : Ev) (i : Nat) (K : List (List Int × PyData) → Prop) : getS env i (dcS K) = ∃ kv, env[i]? = some (Sl.dct kv) ∧ K kv := by
  rw [getS_ex]
  apply propext
  constructor
  · rintro ⟨s, h, z⟩
    cases s with
    | dct kv => exact ⟨kv, h, z⟩
    | _ => exact z.elim
  · rintro ⟨kv, h, z⟩; exact ⟨_, h, z⟩
theorem e_isDct (env : Ev) (i : Nat) : isDct env i = getS env i dcB := by
  rw [getS_ex]
  unfold isDct
  apply propext
  constructor
  · rintro ⟨kv, h⟩; exact ⟨_, h, trivial⟩
  · rintro ⟨s, h, z⟩
    cases s with
    | dct kv => exact ⟨kv, h⟩
    | _ => exact z.elim
theorem e_newD (i : Nat) (env : Ev) (k : Ken) : wNewD i env k = setS env i (.dct []) k.nx := (setS_eq _ _ _ _).symm
def pvK (r : Rs) (K : PyData → Prop) : Prop := ∃ d, r = .val d ∧ scD d ∧ K d
theorem pvK_b (b : Bool) (K : PyData → Prop) : pvK (.val (.bool b)) K = K (.bool b) := by simp [pvK, scD]
theorem pvK_i (b : Int) (K : PyData → Prop) : pvK (.val (.int b)) K = K (.int b) := by simp [pvK, scD]
def tkK (r : Rs) (K : List Int → Prop) : Prop := ∃ ks : List Int, r = .val (.tuple (ks.map .int)) ∧ K ks
theorem tkK_m (ks : List Int) (K : List Int → Prop) : tkK (.val (.tuple (ks.map .int))) K = K ks := by
  unfold tkK
  apply propext
  constructor
  · rintro ⟨k2, e, h⟩
    rw [Rs.val.injEq, PyData.tuple.injEq] at e
    rw [(List.map_inj_right fun x y e => by cases e; rfl).mp e]
    exact h
  · exact fun h => ⟨ks, rfl, h⟩
theorem tkK_2 (a b : Int) (K : List Int → Prop) : tkK (.val (.tuple [.int a, .int b])) K = K [a, b] := tkK_m [a, b] K
theorem e_putD (i : Nat) (wi w : WE) (env : Ev) (k : Ken) : wPutD i wi w env k = w env (fun e r => pvK r fun d => getS e i dcB ∧ wi e (fun e2 r2 => tkK r2 fun ks => getS e2 i (dcS fun kvs => kvs.length < sizeLine ∧ setS e2 i (.dct (putD kvs ks d)) k.nx)) k.ex) k.ex := by
  have : ∀ (e2 : Ev) (r2 : Rs) (d : PyData), (tkK r2 fun ks => getS e2 i (dcS fun kvs => kvs.length < sizeLine ∧ setS e2 i (.dct (putD kvs ks d)) k.nx)) = ∃ ks kvs, r2 = .val (.tuple (ks.map .int)) ∧ e2[i]? = some (Sl.dct kvs) ∧ kvs.length < sizeLine ∧ k.nx (e2.set i (.dct (putD kvs ks d))) := by
    intro e2 r2 d
    simp only [dct_ex, setS_eq, tkK]
    apply propext
    constructor
    · rintro ⟨ks, h1, kvs, h2, h3⟩; exact ⟨ks, kvs, h1, h2, h3⟩
    · rintro ⟨ks, kvs, h1, h2, h3⟩; exact ⟨ks, h1, kvs, h2, h3⟩
  simp only [this, ← e_isDct]
  rfl
theorem e_lenD (i : Nat) (env : Ev) (Ke : KE) (Kx : KXc) : wLenD i env Ke Kx = getS env i (dcS fun kv => Ke env (.val (.int kv.length))) := by
  rw [dct_ex]
  rfl
theorem e_listD (i : Nat) (env : Ev) (Ke : KE) (Kx : KXc) : wListD i env Ke Kx = getS env i (dcS fun kv => Ke env (.tmp (kv.map fun p => .tuple (p.1.map .int)))) := by
  rw [dct_ex]
  rfl
theorem e_ssetI (w : WE) (env : Ev) (Ke : KE) (Kx : KXc) : wSortSetI w env Ke Kx = w env (fun e r => tutK r fun xs => oSortSetI xs (Ke e)) Kx := rfl
theorem oMinL_c (x : PyData) (xs : List PyData) (K : Rs → Prop) : oMinL [.list (x :: xs)] K = (PySem.W.AlikeAll (x :: xs) ∧ (∀ d ∈ x :: xs, SeqAt.shaped d = true) ∧ K (.val (PySem.W.minD x xs))) := rfl
theorem e_lset (w : WE) (env : Ev) (Ke : KE) (Kx : KXc) : wLenSet w env Ke Kx = w env (fun e r => rdK e r fun d => ssK d fun xs => oLenSet xs (Ke e)) Kx := by
  unfold wLenSet
  congr 1
  funext e r
  unfold rdK ssK
  apply propext
  constructor
  · rintro ⟨xs, h1 | h1, h2⟩
    · exact ⟨_, h1, xs, .inl rfl, h2⟩
    · exact ⟨_, h1, xs, .inr rfl, h2⟩
  · rintro ⟨d, h1, xs, rfl | rfl, h2⟩
    · exact ⟨xs, .inl h1, h2⟩
    · exact ⟨xs, .inr h1, h2⟩
def zlK (ds : List PyData) (K : List PyData → List PyData → Prop) : Prop := ∃ xs ys, ds = [.list xs, .tuple ys] ∧ K xs ys
theorem zlK_c (xs ys : List PyData) (K : List PyData → List PyData → Prop) : zlK [.list xs, .tuple ys] K = K xs ys := propext ⟨fun ⟨_, _, e, h⟩ => by cases e; exact h, fun h => ⟨xs, ys, rfl, h⟩⟩
theorem e_lstZ (wf : WF) (env : Ev) (Ke : KE) (Kx : KXc) : wLstZ wf env Ke Kx = wf env (fun e ds => zlK ds fun xs ys => xs.length ≤ sizeLine ∧ Ke e (.tmp (zipD xs ys))) Kx := rfl
theorem e_ins (i : Nat) (w1 w2 : WE) (env : Ev) (Ke : KE) (Kx : KXc) : wIns i w1 w2 env Ke Kx = (getS env i ownB ∧ w1 env (fun e1 r1 => intK r1 fun n => 0 ≤ n ∧ n < 2 ^ 63 ∧ wFz w2 e1 (fun e2 d => getS e2 i (oS fun l ds => ds.length < sizeLine ∧ setS e2 i (.own l (ds.take n.toNat ++ [d] ++ ds.drop n.toNat)) fun e' => Ke e' (.val .none))) Kx) Kx) := by
  simp only [own_ex, setS_eq, ← e_isOwn]
  rfl
end Dl
end L2

/-! The plain half, 1: evaluation of w terms; loops. -/
namespace L2
namespace Dl
open PySem PySem.Spec PyProof.Rows
@[simp] theorem isTy_int_int (i : Int) : isTy "int" (.int i) = true := rfl
@[simp] theorem isTy_bool_int (i : Int) : isTy "bool" (.int i) = false := rfl
@[simp] theorem isTy_int_bool (i : Bool) : isTy "int" (.bool i) = true := rfl
@[simp] theorem isTy_bool_bool (i : Bool) : isTy "bool" (.bool i) = true := rfl
@[simp] theorem isTy_int_tup (i : List PyData) : isTy "int" (.tuple i) = false := rfl
@[simp] theorem isTy_int_lst (i : List PyData) : isTy "int" (.list i) = false := rfl
@[simp] theorem isTy_int_non : isTy "int" .none = false := rfl
@[simp] theorem isTy_int_str (s : Str) : isTy "int" (.str s) = false := rfl
@[simp] theorem isTy_tup_tup (i : List PyData) : isTy "tuple" (.tuple i) = true := rfl
@[simp] theorem isTy_tup_lst (i : List PyData) : isTy "tuple" (.list i) = false := rfl
@[simp] theorem isTy_tup_int (i : Int) : isTy "tuple" (.int i) = false := rfl
@[simp] theorem isTy_tup_bool (i : Bool) : isTy "tuple" (.bool i) = false := rfl
@[simp] theorem isTy_tup_non : isTy "tuple" .none = false := rfl
@[simp] theorem isTy_tup_str (s : Str) : isTy "tuple" (.str s) = false := rfl
@[simp] theorem isTy_lst_lst (i : List PyData) : isTy "list" (.list i) = true := rfl
@[simp] theorem isTy_lst_tup (i : List PyData) : isTy "list" (.tuple i) = false := rfl
@[simp] theorem isTy_lst_int (i : Int) : isTy "list" (.int i) = false := rfl
theorem atI_0 {α : Type} (x0 : α) (l : List α) : atI (x0 :: l) 0 = some x0 := atI_nat (j := 0) rfl
theorem atI_1 {α : Type} (x0 x1 : α) (l : List α) : atI (x0 :: x1 :: l) 1 = some x1 := atI_nat (j := 1) rfl
theorem atI_2 {α : Type} (x0 x1 x2 : α) (l : List α) : atI (x0 :: x1 :: x2 :: l) 2 = some x2 := atI_nat (j := 2) rfl
theorem atI_3 {α : Type} (x0 x1 x2 x3 : α) (l : List α) : atI (x0 :: x1 :: x2 :: x3 :: l) 3 = some x3 := atI_nat (j := 3) rfl
theorem atI_4 {α : Type} (x0 x1 x2 x3 x4 : α) (l : List α) : atI (x0 :: x1 :: x2 :: x3 :: x4 :: l) 4 = some x4 := atI_nat (j := 4) rfl
theorem atI_5 {α : Type} (x0 x1 x2 x3 x4 x5 : α) (l : List α) : atI (x0 :: x1 :: x2 :: x3 :: x4 :: x5 :: l) 5 = some x5 := atI_nat (j := 5) rfl
theorem atI_6 {α : Type} (x0 x1 x2 x3 x4 x5 x6 : α) (l : List α) : atI (x0 :: x1 :: x2 :: x3 :: x4 :: x5 :: x6 :: l) 6 = some x6 := atI_nat (j := 6) rfl
theorem atI_7 {α : Type} (x0 x1 x2 x3 x4 x5 x6 x7 : α) (l : List α) : atI (x0 :: x1 :: x2 :: x3 :: x4 :: x5 :: x6 :: x7 :: l) 7 = some x7 := atI_nat (j := 7) rfl
theorem atI_8 {α : Type} (x0 x1 x2 x3 x4 x5 x6 x7 x8 : α) (l : List α) : atI (x0 :: x1 :: x2 :: x3 :: x4 :: x5 :: x6 :: x7 :: x8 :: l) 8 = some x8 := atI_nat (j := 8) rfl
theorem atI_9 {α : Type} (x0 x1 x2 x3 x4 x5 x6 x7 x8 x9 : α) (l : List α) : atI (x0 :: x1 :: x2 :: x3 :: x4 :: x5 :: x6 :: x7 :: x8 :: x9 :: l) 9 = some x9 := atI_nat (j := 9) rfl
theorem atI_10 {α : Type} (x0 x1 x2 x3 x4 x5 x6 x7 x8 x9 x10 : α) (l : List α) : atI (x0 :: x1 :: x2 :: x3 :: x4 :: x5 :: x6 :: x7 :: x8 :: x9 :: x10 :: l) 10 = some x10 := atI_nat (j := 10) rfl
theorem atI_11 {α : Type} (x0 x1 x2 x3 x4 x5 x6 x7 x8 x9 x10 x11 : α) (l : List α) : atI (x0 :: x1 :: x2 :: x3 :: x4 :: x5 :: x6 :: x7 :: x8 :: x9 :: x10 :: x11 :: l) 11 = some x11 := atI_nat (j := 11) rfl
theorem ixN_3_0 : ixN 3 0 = some 0 := rfl
theorem ixN_3_1 : ixN 3 1 = some 1 := rfl
theorem ixN_3_2 : ixN 3 2 = some 2 := rfl
theorem sh_int (i : Int) : SeqAt.shaped (.int i) = true := rfl
theorem sh_bool (i : Bool) : SeqAt.shaped (.bool i) = true := rfl
theorem nd_true {p : Prop} [Decidable p] : ((!decide p) = true) = ¬ p := by simp
theorem nd1 (i : Nat) : ([i] : List Nat).Nodup = True := by simp
theorem sh_non : SeqAt.shaped .none = true := rfl
theorem eqv_ii (i j : Int) : PyData.eqv (.int i) (.int j) = decide (i = j) := by by_cases h : i = j <;> rfl
theorem eqv_bb (i j : Bool) : PyData.eqv (.bool i) (.bool j) = (i == j) := by cases i <;> cases j <;> rfl
local macro_rules | `(tactic| dsimp? [$xs,*] $[$l]?) => `(tactic| simp only [wSeq, wNext, wBreak, wCont, wDrop, wRet, wRetN, wIfS, wSet, wAsgT, e_aug, e_setIx, e_par, e_gN, getS_0, getS_s, setS_0, setS_s, e_var, varK_v, varK_o, varK_u, wC, wBin, rdK_v, rdK_t, rdK_s, rdS_v, rdS_o, rdS_u, fzK_v, fzK_t, fzK_s, fzS_v, fzS_o, fzS_l, fzS_u, e_fz, asg_v, asg_t, asg_s, e_tb, tbK_b, wAnd, wOr, wNot, e_notV, e_andV, e_orV, wBV, wIf, e_neg, intK_i, e_oso, wONo, e_rng1, e_rng2, wFNil, wFCons, wANil, wACons, wTup, wLst, e_callB, rdAllK_n, rdAllK_c, wIsi, e_call, wMNil, wMCons, e_ld, lnsOf, avsK_n, avsK_f, avsK_l, lnS_o, lnS_v, lnS_u, poK_n, poK_c, poS_o, inS_0, inS_s, rsK_v, rsK_o, wSl, e_ownF, e_own0, ownB_o, oS_o, oS_v, oS_u, agS_i, muApp, oAdd_i, oAdd_l, oAdd_t, oAdd_s, oSub_i, oMul_i, oFdiv_i, oMod_i, oPow_i, oShl_i, oShr_i, oOr_i, oAndB_i, oLt_i, oLe_i, oGt_i, oGe_i, oEq_i, oNe_i, oEq, oNe, oIx_l, oIx_t, oLen_l, oLen_t, oInt_i, oInt_b, oMax_i, oMin_i, oList_l, oList_t, oTuple_l, oTuple_t, oSorted_l, oSorted_t, oIs_n, oIsN_n, oIs_b, oIsN_b, isNone_n, isNone_t, isNone_l, isNone_i, isNone_s, isNone_b, oSl_l, oSl_t, oIn, gT_t, gC_c, gNil', e_iseq, sqK_l, sqK_t, e_isq, sq2K_l, sq2K_t, e_sset, ssK_l, ssK_t, e_chain, e_lr1, e_lr2, wRev, rvD_l, rvD_t, e_in1, e_in2, negB_f, negB_t, wIZip, zpK_l, zpK_t, zpK_m, e_extend, extR_t, wYes, startEv, kenD_nx, kenD_rt, kenD_bk, kenD_ct, kenD_ex, outK_n, outK_c, otS_o, rvK_v, rvK_t, rvK_s, rvS_v, rvS_o, slOf, lsFrom, wipeE, restE, List.map_cons, List.map_nil, List.length_cons, List.length_nil, List.replicate, List.append_nil, List.cons_append, List.nil_append, List.getElem?_cons_zero, List.getElem?_cons_succ, List.getElem?_nil, List.set_cons_zero, List.set_cons_succ, List.set_nil, Option.getD_some, Option.getD_none, Option.map_some, Option.map_none, Option.some.injEq, Rs.val.injEq, Rs.tmp.injEq, Rs.slot.injEq, Sl.own.injEq, Sl.val.injEq, PyData.int.injEq, PyData.bool.injEq, PyData.str.injEq, PyData.list.injEq, PyData.tuple.injEq, Prod.mk.injEq, Nat.sub_self, Nat.zero_add, Nat.reduceAdd, Nat.reduceSub, Nat.add_zero, isTy_int_int, isTy_bool_int, isTy_int_bool, isTy_bool_bool, isTy_int_tup, isTy_int_lst, isTy_int_non, isTy_int_str, isTy_tup_tup, isTy_tup_lst, isTy_tup_int, isTy_tup_bool, isTy_tup_non, isTy_tup_str, isTy_lst_lst, isTy_lst_tup, isTy_lst_int, exists_eq_left', exists_eq_left, exists_and_left, exists_eq_right, exists_eq, exists_eq', exists_const, true_and, and_true, and_self, Bool.not_true, Bool.not_false, if_true, if_false, Bool.false_eq_true, reduceIte, reduceCtorEq, List.nodup_nil, decide_eq_true_eq, atI_0, atI_1, atI_2, atI_3, atI_4, atI_5, atI_6, atI_7, atI_8, atI_9, atI_10, atI_11, ixN_3_0, ixN_3_1, ixN_3_2, sh_int, sh_bool, sh_non, and_assoc, nd1, nd_true, eq_self, decide_true, decide_false, Int.cast_ofNat_Int, not_true_eq_false, not_false_eq_true, eqv_ii, eqv_bb, wRaise0, e_raiseG, grK_i, e_raise1, onK_i, e_callX, xa_1, xa_2, xa_3, xa_4, xa_5, xa_6, xa_7, e_many, e_most, e_number, e_row, isLst_l, lsK_l, e_rd, e_br, brS_o, brS_v, arS_o, arS_v, avbK_n, avbK_f, avbK_l, scK_b, scK_i, scK_n, scK_s, e_callS, tmK_t, e_rep, enK_l, e_ienum, wTry, eqv_ss, tpK_v, txK_1, tutK_t, e_repT, e_callT, enTK_t, e_ienumT, r3K_i, e_rng3, e_newD, e_putD, e_lenD, e_listD, dcS_d, dcB_d, pvK_b, pvK_i, tkK_m, tkK_2, e_ssetI, oMinL_c, e_lset, e_lstZ, zlK_c, e_ins, $xs,*] $[$l]?)
/-- one statement at a time -/
theorem seq_cut {t u : WS} {env : Ev} {k : Ken} (h : ∀ R : Ev → Prop, (∀ e, u e k → R e) → t env { k with nx := R }) : wSeq t u env k := h _ fun _ h => h
/-- a for, by an invariant over what is left -/
theorem wEach_ind {g : WG} {t : WS} {k : Ken} (Wi : List PyData → Ev → Prop) (h0 : ∀ e, Wi [] e → k.nx e)
    (hs : ∀ d r e, Wi (d :: r) e → (∀ e2, Wi r e2 → wEach g t r e2 k) → g d e (fun e1 => t e1 { k with nx := fun e2 => wEach g t r e2 k, ct := fun e2 => wEach g t r e2 k, bk := k.nx })) : ∀ ds e, Wi ds e → wEach g t ds e k
  | [], e, h => h0 e h
  | d :: r, e, h => hs d r e h fun e2 h2 => wEach_ind Wi h0 hs r e2 h2
/-! ### the common defs -/
def sp_divisor_of : Spc := fun avs Kr _ => match avs with
  | [.val (.int a), .val (.int b)] => 0 ≤ a ∧ 0 ≤ b ∧ Kr [] (.val (.int (Int.gcd a b : Nat)))
  | _ => False
def w_divisor_of_T1 : WT :=
  (wTB (wBin oGt (wVar 1) (wC (.int 0))))
def w_divisor_of_B1 : WS :=
  (wPar 0 1 (wFCons (wVar 1) (wFCons (wBin oMod (wVar 0) (wVar 1)) wFNil)))
def w_divisor_of_L1 : WS :=
  wWhile w_divisor_of_T1 w_divisor_of_B1
def w_divisor_of_R1 : WS :=
  (wRet (wVar 0))
/-- divisor_of: 0 one, 1 other -/
def w_divisor_of : WS :=
  (wSeq w_divisor_of_L1
    w_divisor_of_R1)

theorem gcd_mod (x y : Int) : Int.gcd y (x % y) = Int.gcd x y := by
  rw [Int.emod_def, Int.gcd_sub_mul_left_right, Int.gcd_comm]
theorem vc_divisor_of : ∀ avs Kr Kx, avs.length = 2 → sp_divisor_of avs Kr Kx → lsFrom 0 avs = [] ∧ w_divisor_of (startEv 2 avs) (kenD [] Kr Kx) := by
  intro avs Kr Kx hl h
  unfold sp_divisor_of at h
  split at h
  · rename_i a b
    obtain ⟨ha, hb, k⟩ := h
    refine ⟨rfl, ?_⟩
    dsimp? [w_divisor_of]
    refine ⟨fun m e => ∃ x y : Int, e = [.val (.int x), .val (.int y)] ∧ 0 ≤ x ∧ 0 ≤ y ∧ m = y.toNat ∧ Int.gcd x y = Int.gcd a b, ⟨_, a, b, rfl, ha, hb, rfl, rfl⟩, ?_⟩
    rintro m e ⟨x, y, rfl, hx, hy, rfl, hg⟩
    dsimp? [w_divisor_of_T1, w_divisor_of_B1]
    split
    · rename_i hp
      have h1 := Int.emod_nonneg x (Int.ne_of_gt hp)
      have h2 := Int.emod_lt_of_pos x hp
      exact ⟨hp, _, by omega, _, _, rfl, hy, h1, rfl, by rw [gcd_mod]; exact hg⟩
    · have : y = 0 := by omega
      subst this
      have e : (x : Int) = (Int.gcd x 0 : Nat) := by rw [Int.gcd_zero_right]; omega
      dsimp? [w_divisor_of_R1]
      rw [e, hg]
      exact k
  · exact h.elim

/-! #### the pen -/
/-- three ints -/
def pen3 (ds : List PyData) : Prop := ∃ l f s : Int, ds = [.int l, .int f, .int s]
def sp__law_cell_at : Spc := fun avs Kr _ => match avs with
  | [.val (.list xs), .val (.int k)] => (∃ ns : List Int, xs = ns.map .int) ∧ 0 ≤ k ∧ ∀ n, Kr [] (.val (.int n))
  | _ => False
/-- _law_cell_at: 0 script, 1 k -/
def w__law_cell_at : WS :=
  (wSeq (wIfS (wTB (wBin oLt (wVar 1) (wCallB oLen (wACons (wVar 0) wANil)))) (wRet (wBin oIx (wVar 0) (wVar 1))) wNext)
    (wRet (wC (.int 0))))

theorem atI_ints {ns : List Int} {k : Int} (h0 : 0 ≤ k) (h1 : k < ns.length) : ∃ n, atI (ns.map PyData.int) k = some (.int n) := by
  obtain ⟨j, rfl⟩ := Int.eq_ofNat_of_zero_le h0
  have hj : j < ns.length := by omega
  exact ⟨ns[j], atI_nat (by rw [List.getElem?_map, List.getElem?_eq_getElem hj]; rfl)⟩
theorem atI_mem {ns : List Int} {k : Int} (h0 : 0 ≤ k) (h1 : k < ns.length) : ∃ n, n ∈ ns ∧ atI (ns.map PyData.int) k = some (.int n) := by
  obtain ⟨j, rfl⟩ := Int.eq_ofNat_of_zero_le h0
  have hj : j < ns.length := by omega
  exact ⟨ns[j], List.getElem_mem hj, atI_nat (by rw [List.getElem?_map, List.getElem?_eq_getElem hj]; rfl)⟩
theorem vc__law_cell_at : ∀ avs Kr Kx, avs.length = 2 → sp__law_cell_at avs Kr Kx → lsFrom 0 avs = [] ∧ w__law_cell_at (startEv 2 avs) (kenD [] Kr Kx) := by
  intro avs Kr Kx hl h
  unfold sp__law_cell_at at h
  split at h
  · rename_i xs k
    obtain ⟨⟨ns, rfl⟩, hk, q⟩ := h
    refine ⟨rfl, ?_⟩
    dsimp? [w__law_cell_at]
    split
    · rename_i hp
      obtain ⟨n, e⟩ := atI_ints (ns := ns) hk (by simpa using hp)
      dsimp? [e]
      exact q n
    · exact q 0
  · exact h.elim
def sp__law_next : Spc := fun avs Kr _ => match avs with
  | [.val (.int k)] => ∀ n : Int, 0 ≤ n → n < 2147483647 → Kr [] (.val (.int n))
  | _ => False
/-- _law_next: 0 seed -/
def w__law_next : WS :=
  (wSeq (wSet 0 (wBin oMod (wBin oAdd (wVar 0) (wC (.int 7919))) (wC (.int 2147483647))))
    (wRet (wBin oMod (wBin oAdd (wBin oAdd (wBin oMul (wVar 0) (wVar 0)) (wBin oMul (wC (.int 48271)) (wVar 0))) (wC (.int 12345))) (wC (.int 2147483629)))))

theorem vc__law_next : ∀ avs Kr Kx, avs.length = 1 → sp__law_next avs Kr Kx → lsFrom 0 avs = [] ∧ w__law_next (startEv 1 avs) (kenD [] Kr Kx) := by
  intro avs Kr Kx hl h
  unfold sp__law_next at h
  split at h
  · rename_i k
    refine ⟨rfl, ?_⟩
    dsimp? [w__law_next]
    have h1 := Int.emod_nonneg (k + 7919) (show (2147483647 : Int) ≠ 0 by decide)
    have h2 := Int.emod_lt_of_pos (k + 7919) (show (0 : Int) < 2147483647 by decide)
    have hb : ((k + 7919) % 2147483647).natAbs < 2 ^ 31 := by omega
    refine ⟨by decide, mulx_ok hb hb (by decide), mulx_ok (a := 31) (by decide) hb (by decide), by decide, h _ (Int.emod_nonneg _ (by decide)) ?_⟩
    exact Int.lt_trans (Int.emod_lt_of_pos _ (by decide)) (by decide)
  · exact h.elim
def sp__law_pen_of : Spc := fun avs Kr _ => match avs with
  | [.val (.int k)] => ∀ ds, pen3 ds → Kr [] (.own ds)
  | _ => False
/-- _law_pen_of: 0 cell, 1 left -/
def w__law_pen_of : WS :=
  (wSeq (wSet 1 (wCallB oMax (wACons (wVar 0) (wACons (wBin oSub (wC (.int 0)) (wVar 0)) wANil))))
    (wRet (wLst (wFCons (wVar 1) (wFCons (wCallB oInt (wACons (wBin oGe (wVar 1) (wBin oPow (wC (.int 10)) (wC (.int 18)))) wANil)) (wFCons (wBin oMod (wVar 1) (wC (.int 1000003))) wFNil))))))

theorem vc__law_pen_of : ∀ avs Kr Kx, avs.length = 1 → sp__law_pen_of avs Kr Kx → lsFrom 0 avs = [] ∧ w__law_pen_of (startEv 2 avs) (kenD [] Kr Kx) := by
  intro avs Kr Kx hl h
  unfold sp__law_pen_of at h
  split at h
  · rename_i k
    refine ⟨rfl, ?_⟩
    dsimp? [w__law_pen_of]
    exact ⟨⟨by decide, by decide, by decide⟩, by decide, by decide, h _ ⟨_, _, _, rfl⟩⟩
  · exact h.elim
def sp__law_draw : Spc := fun avs Kr _ => match avs with
  | [.own ds, .val (.int m)] => pen3 ds ∧ 0 < m ∧ m.natAbs.log2 < 9000 ∧ ∀ ds' r, pen3 ds' → 0 ≤ r → r < m → Kr [ds'] (.val (.int r))
  | _ => False
/-- _law_draw: 0 pen, 1 many, 2 found -/
def w__law_draw : WS :=
  (wSeq (wIfS (wTB (wBin oEq (wBin oIx (wVar 0) (wC (.int 1))) (wC (.int 1)))) (wSeq (wSet 2 (wBin oMod (wBin oIx (wVar 0) (wC (.int 0))) (wVar 1)))
    (wSeq (wSetIx 0 (wC (.int 0)) (wBin oFdiv (wBin oIx (wVar 0) (wC (.int 0))) (wVar 1)))
    (wRet (wVar 2)))) wNext)
    (wSeq (wSetIx 0 (wC (.int 2)) (wCall 1 sp__law_next (wMCons (wBin oAdd (wCall 1 sp__law_next (wMCons (wBin oIx (wVar 0) (wC (.int 2))) wMNil)) (wC (.int 7))) wMNil)))
    (wRet (wBin oMod (wBin oFdiv (wBin oIx (wVar 0) (wC (.int 2))) (wC (.int 64))) (wVar 1)))))

theorem vc__law_draw : ∀ avs Kr Kx, avs.length = 2 → sp__law_draw avs Kr Kx → lsFrom 0 avs = [0] ∧ w__law_draw (startEv 3 avs) (kenD [0] Kr Kx) := by
  intro avs Kr Kx hl h
  unfold sp__law_draw at h
  split at h
  · rename_i ds m
    obtain ⟨⟨l, f, s, rfl⟩, hm, hm2, q⟩ := h
    refine ⟨rfl, ?_⟩
    dsimp? [w__law_draw, sp__law_next]
    split
    · exact ⟨hm, hm, hm2, q _ _ ⟨_, _, _, rfl⟩ (Int.emod_nonneg _ (Int.ne_of_gt hm)) (Int.emod_lt_of_pos _ hm)⟩
    · intro n1 _ _ n2 _ _
      exact ⟨by decide, by decide, hm, q _ _ ⟨_, _, _, rfl⟩ (Int.emod_nonneg _ (Int.ne_of_gt hm)) (Int.emod_lt_of_pos _ hm)⟩
  · exact h.elim
def ck (c : Int × Int) : PyData := .tuple [.int c.1, .int c.2]
abbrev cks (cs : List (Int × Int)) : List PyData := cs.map ck
/-- a clock of a step of at most m -/
def CkOk (m : Int) (c : Int × Int) : Prop := 1 ≤ c.1 ∧ c.1 ≤ m ∧ 0 ≤ c.2 ∧ c.2 < c.1
theorem log_small {m : Int} (h0 : 0 < m) (h : m < 2 ^ 60) : m.natAbs.log2 < 9000 := by
  have h1 : m.natAbs < 2 ^ 60 := by omega
  exact Nat.lt_trans ((Nat.log2_lt (by omega)).mpr h1) (by decide)

end Dl
end L2

/-! The plain half, 2: clocks drawn. -/
namespace L2
namespace Dl
open PySem PySem.Spec PyProof.Rows
def cle (p q : Int × Int) : Bool := decide (p.1 < q.1 ∨ (p.1 = q.1 ∧ p.2 ≤ q.2))
theorem ck_sh (c : Int × Int) : SeqAt.shaped (ck c) = true := rfl
theorem srt_cks (cs : List (Int × Int)) : Srts (cks cs) := by
  refine ⟨fun d hd e he => ?_, .inl fun d hd => ?_, fun d hd => ?_⟩
  · obtain ⟨c, _, rfl⟩ := List.mem_map.mp hd
    obtain ⟨c2, _, rfl⟩ := List.mem_map.mp he
    rfl
  · obtain ⟨c, _, rfl⟩ := List.mem_map.mp hd
    exact ⟨_, _, rfl⟩
  · obtain ⟨c, _, rfl⟩ := List.mem_map.mp hd
    exact ck_sh c
theorem sort_cks (cs : List (Int × Int)) : (cks cs).mergeSort dLe = cks (cs.mergeSort cle) := by
  refine (PySem.W.sort_maps ck fun a _ b _ => ?_).symm
  have e := congrFun (congrFun (PySem.W.dataLe_ii (β := Int × Int) (fun c => c.1) (fun c => c.2)) a) b
  exact e.symm
theorem code2 (B x y : Int) : TS.code B [x, y] = x * B + y := by
  show x * B ^ 1 + (y * B ^ 0 + 0) = x * B + y
  rw [Int.pow_succ, Int.pow_zero, Int.one_mul, Int.mul_one, Int.add_zero]
/-- strictly before -/
def clt (p q : Int × Int) : Prop := p.1 < q.1 ∨ (p.1 = q.1 ∧ p.2 < q.2)
theorem sortSet_cks {cs : List (Int × Int)} {K : Rs → Prop} {B : Int} (hB : ∀ c ∈ cs, 0 ≤ c.1 ∧ c.1 < B ∧ 0 ≤ c.2 ∧ c.2 < B) (hl : cs.length < 64)
    (h : ∀ ms : List (Int × Int), ms.Nodup → (∀ c, c ∈ ms ↔ c ∈ cs) → ms.Pairwise clt → K (.tmp (cks ms))) : oSortSet (cks cs) K := by
  refine ⟨cs.map fun c => [c.1, c.2], 2, B, ?_, by decide, fun l hl => ?_, by simpa using hl, fun M nd hm pw => ?_⟩
  · rw [List.map_map]; rfl
  · obtain ⟨c, hc, rfl⟩ := List.mem_map.mp hl
    obtain ⟨h1, h2, h3, h4⟩ := hB c hc
    refine ⟨rfl, fun m hm => ?_⟩
    rcases List.mem_cons.mp hm with z | z
    · subst z; exact ⟨h1, h2⟩
    · rcases List.mem_cons.mp z with z | z
      · subst z; exact ⟨h3, h4⟩
      · cases z
  · -- M is a list of pairs
    let g : List Int → Int × Int := fun l => (l.getD 0 0, l.getD 1 0)
    have e1 : ∀ l ∈ M, [(g l).1, (g l).2] = l := fun l hl => by
      obtain ⟨c, _, rfl⟩ := List.mem_map.mp ((hm l).mp hl)
      rfl
    have eM : (M.map g).map (fun c => [c.1, c.2]) = M := by
      rw [List.map_map]
      conv => rhs; rw [← List.map_id M]
      exact List.map_congr_left fun l hl => e1 l hl
    have nd2 : (M.map g).Nodup := by
      have : ((M.map g).map (fun c => [c.1, c.2])).Nodup := by rw [eM]; exact nd
      exact L2.nodup_of_map this
    have mem : ∀ c, c ∈ M.map g ↔ c ∈ cs := fun c => by
      constructor
      · intro z
        obtain ⟨l, hl, rfl⟩ := List.mem_map.mp z
        obtain ⟨c, hc, rfl⟩ := List.mem_map.mp ((hm l).mp hl)
        exact hc
      · intro z
        exact List.mem_map.mpr ⟨[c.1, c.2], (hm _).mpr (List.mem_map.mpr ⟨c, z, rfl⟩), rfl⟩
    have pw2 : (M.map g).Pairwise (fun p q => p.1 * B + p.2 ≤ q.1 * B + q.2) := by
      refine List.pairwise_map.mpr (List.Pairwise.imp_of_mem (fun {x y} hx hy hle => ?_) pw)
      rw [← e1 x hx, ← e1 y hy, code2, code2] at hle
      exact hle
    have fin : (M.map g).Pairwise clt := by
      refine List.Pairwise.imp_of_mem (fun {p q} hp hq ⟨hle, hne⟩ => ?_) (pw2.and nd2)
      obtain ⟨a1, a2, a3, a4⟩ := hB p ((mem p).mp hp)
      obtain ⟨b1, b2, b3, b4⟩ := hB q ((mem q).mp hq)
      have hle' : p.1 * B + p.2 ≤ q.1 * B + q.2 := hle
      rcases Int.lt_trichotomy p.1 q.1 with c | c | c
      · exact .inl c
      · refine .inr ⟨c, ?_⟩
        rw [c] at hle'
        have : p.2 ≠ q.2 := fun z => hne (Prod.ext c z)
        omega
      · have : (q.1 + 1) * B ≤ p.1 * B := Int.mul_le_mul_of_nonneg_right (by omega) (by omega)
        rw [Int.add_mul, Int.one_mul] at this
        omega
    have eK : M.map tupI = cks (M.map g) := by
      conv => lhs; rw [← eM]
      rw [List.map_map]; rfl
    rw [eK]
    exact h _ nd2 mem fin
/-- the parts of a clock -/
def prtK (c : Int × Int) (k : Nat) : List (Int × Int) := (List.range k).map fun (i : Nat) => (c.1 * k, c.2 + c.1 * i)
def Apart (c d : Int × Int) : Prop := ∀ x : Int, ¬ (c.1 ∣ x - c.2 ∧ d.1 ∣ x - d.2)
/-- of splits: short ones have a small round; of two or more the greatest step stands twice -/
def TwP (cs : List (Int × Int)) : Prop := (∃ P : Nat, 1 ≤ P ∧ 2 * P ≤ 2 ^ cs.length ∧ ∀ c ∈ cs, c.1 ∣ (P : Int)) ∧ (cs.length = 1 ∨ ∀ M : Int, (∀ c ∈ cs, c.1 ≤ M) → (∃ c ∈ cs, c.1 = M) → 2 ≤ cs.countP fun c => decide (c.1 = M))
theorem TwP.perm {cs ds : List (Int × Int)} (h : TwP cs) (p : cs.Perm ds) : TwP ds := by
  obtain ⟨⟨P, h1, h2, h3⟩, h4⟩ := h
  refine ⟨⟨P, h1, by rw [← p.length_eq]; exact h2, fun c hc => h3 c (p.mem_iff.mpr hc)⟩, ?_⟩
  rcases h4 with h4 | h4
  · exact .inl (by rw [← p.length_eq]; exact h4)
  · refine .inr fun M a ⟨c, hc, e⟩ => ?_
    rw [← p.countP_eq]
    exact h4 M (fun c hc => a c (p.mem_iff.mp hc)) ⟨c, p.mem_iff.mpr hc, e⟩
theorem TwP.split {c : Int × Int} {cs : List (Int × Int)} {k : Nat} (h : TwP (c :: cs)) (hc : 1 ≤ c.1) (hk : 2 ≤ k) : TwP (cs ++ prtK c k) := by
  obtain ⟨⟨P, h1, h2, h3⟩, h4⟩ := h
  have hl : (cs ++ prtK c k).length = cs.length + k := by unfold prtK; rw [List.length_append, List.length_map, List.length_range]
  have hm : ∀ p ∈ prtK c k, p.1 = c.1 * (k : Int) := fun p hp => by
    obtain ⟨i, _, rfl⟩ := List.mem_map.mp hp
    rfl
  refine ⟨⟨P * k, Nat.mul_pos h1 (by omega), ?_, fun d hd => ?_⟩, .inr fun M a ⟨d, hd, e⟩ => ?_⟩
  · rw [hl, show cs.length + k = (cs.length + 1) + (k - 1) by omega, Nat.pow_add, ← Nat.mul_assoc]
    rw [List.length_cons] at h2
    have : k - 1 < 2 ^ (k - 1) := Nat.lt_two_pow_self
    exact Nat.mul_le_mul h2 (by omega)
  · rw [Int.natCast_mul]
    rcases List.mem_append.mp hd with z | z
    · exact Int.dvd_trans (h3 d (List.mem_cons_of_mem _ z)) (Int.dvd_mul_right _ _)
    · rw [hm d z]
      exact Int.mul_dvd_mul (h3 c List.mem_cons_self) (Int.dvd_refl _)
  · rw [List.countP_append]
    have pc : (c.1 * (k : Int), c.2 + c.1 * ((0 : Nat) : Int)) ∈ prtK c k := List.mem_map.mpr ⟨0, List.mem_range.mpr (by omega), rfl⟩
    by_cases z : c.1 * (k : Int) = M
    · have : (prtK c k).countP (fun c => decide (c.1 = M)) = (prtK c k).length := List.countP_eq_length.mpr fun p hp => by rw [hm p hp, z]; exact decide_eq_true rfl
      rw [this]
      unfold prtK
      rw [List.length_map, List.length_range]
      omega
    · have le := a _ (List.mem_append_right _ pc)
      have lt : c.1 < M := by
        have h5 : c.1 * 2 ≤ c.1 * (k : Int) := Int.mul_le_mul_of_nonneg_left (by omega) (by omega)
        simp only at le
        omega
      have dcs : d ∈ cs := by
        rcases List.mem_append.mp hd with y | y
        · exact y
        · rw [hm d y] at e
          exact (z e).elim
      rcases h4 with h4 | h4
      · rw [List.length_cons] at h4
        have := List.length_pos_of_mem dcs
        omega
      · have := h4 M (fun x hx => by
          rcases List.mem_cons.mp hx with rfl | hx
          · omega
          · exact a x (List.mem_append_left _ hx)) ⟨d, List.mem_cons_of_mem _ dcs, e⟩
        rw [List.countP_cons, if_neg (by rw [decide_eq_false (by omega)]; decide)] at this
        omega
/-- exact: none ring together, and the shares come to 1; and of splits -/
def Exq (cs : List (Int × Int)) : Prop := cs.Pairwise Apart ∧ (∀ M : Int, (∀ c ∈ cs, c.1 ∣ M) → (cs.map fun c => M / c.1).sum = M) ∧ TwP cs
theorem sum_perm {xs ys : List Int} (h : xs.Perm ys) : xs.sum = ys.sum := by
  induction h with
  | nil => rfl
  | cons x _ ih => rw [List.sum_cons, List.sum_cons, ih]
  | swap x y l => rw [List.sum_cons, List.sum_cons, List.sum_cons, List.sum_cons]; omega
  | trans _ _ a b => rw [a, b]
theorem Apart.symm {c d : Int × Int} (h : Apart c d) : Apart d c := fun x hx => h x ⟨hx.2, hx.1⟩
theorem Exq.perm {cs ds : List (Int × Int)} (h : Exq cs) (p : cs.Perm ds) : Exq ds := ⟨(p.pairwise_iff fun h => h.symm).mp h.1, fun M hM => by
  rw [← sum_perm (p.map fun c => M / c.1)]
  exact h.2.1 M fun c hc => hM c (p.mem_iff.mp hc), h.2.2.perm p⟩
theorem Exq.one : Exq [(1, 0)] := ⟨by simp, fun M _ => by simp, ⟨1, by decide, by decide, fun c h => by
  rw [List.mem_singleton] at h
  subst h
  exact ⟨1, rfl⟩⟩, .inl rfl⟩
theorem rep_sum (q : Int) : ∀ k : Nat, ((List.range k).map fun _ => q).sum = k * q
  | 0 => by simp
  | k + 1 => by
    rw [List.range_succ, List.map_append, List.sum_append, rep_sum q k, List.map_cons, List.map_nil, List.sum_cons, List.sum_nil, Int.natCast_add, Int.add_mul]
    omega
theorem part_apart {c : Int × Int} {k i j : Nat} (hc : 1 ≤ c.1) (hi : i < k) (hj : j < k) (hij : i < j) : Apart (c.1 * (k : Int), c.2 + c.1 * (i : Int)) (c.1 * (k : Int), c.2 + c.1 * (j : Int)) := fun x ⟨h1, h2⟩ => by
  simp only at h1 h2
  have h3 := Int.dvd_sub h1 h2
  rw [show x - (c.2 + c.1 * (i : Int)) - (x - (c.2 + c.1 * (j : Int))) = c.1 * ((j : Int) - (i : Int)) by rw [Int.mul_sub]; omega] at h3
  have h4 := Int.dvd_of_mul_dvd_mul_left (show c.1 ≠ 0 by omega) h3
  have := Int.le_of_dvd (show (0 : Int) < (j : Int) - (i : Int) by omega) h4
  omega
theorem Exq.split {c : Int × Int} {cs : List (Int × Int)} {k : Nat} (h : Exq (c :: cs)) (hc : 1 ≤ c.1) (hk : 2 ≤ k) : Exq (cs ++ prtK c k) := by
  obtain ⟨h1, h2, h3⟩ := h
  rw [List.pairwise_cons] at h1
  refine ⟨?_, ?_, h3.split hc hk⟩
  · rw [List.pairwise_append]
    refine ⟨h1.2, ?_, fun d hd p hp => ?_⟩
    · unfold prtK
      rw [List.pairwise_map]
      have : (List.range k).Pairwise fun i j => i < j ∧ i < k ∧ j < k := List.pairwise_lt_range.imp_of_mem fun hi hj h => ⟨h, List.mem_range.mp hi, List.mem_range.mp hj⟩
      exact this.imp fun ⟨a, b, d⟩ => part_apart hc b d a
    · obtain ⟨i, _, rfl⟩ := List.mem_map.mp hp
      intro x ⟨a, b⟩
      simp only at b
      refine h1.1 d hd x ⟨?_, a⟩
      have h3 := Int.dvd_add (Int.dvd_trans (Int.dvd_mul_right c.1 (k : Int)) b) (Int.dvd_mul_right c.1 (i : Int))
      rwa [show x - (c.2 + c.1 * (i : Int)) + c.1 * (i : Int) = x - c.2 by omega] at h3
  · intro M hM
    have hck : c.1 * (k : Int) ∣ M := by
      refine hM (c.1 * (k : Int), c.2 + c.1 * ((0 : Nat) : Int)) (List.mem_append_right _ (List.mem_map.mpr ⟨0, List.mem_range.mpr (by omega), rfl⟩))
    have e := h2 M fun d hd => by
      rcases List.mem_cons.mp hd with rfl | hd
      · exact Int.dvd_trans (Int.dvd_mul_right _ _) hck
      · exact hM d (List.mem_append_left _ hd)
    rw [List.map_cons, List.sum_cons] at e
    rw [List.map_append, List.sum_append]
    have e2 : ((prtK c k).map fun d => M / d.1).sum = (k : Int) * (M / (c.1 * (k : Int))) := by
      unfold prtK
      rw [List.map_map]
      exact rep_sum (M / (c.1 * (k : Int))) k
    obtain ⟨q, hq⟩ := hck
    rw [e2, hq, Int.mul_ediv_cancel_left _ (show c.1 * (k : Int) ≠ 0 from Int.mul_ne_zero (by omega) (by omega))]
    rw [hq, Int.mul_assoc, Int.mul_ediv_cancel_left _ (show c.1 ≠ 0 by omega), ← Int.mul_assoc] at e
    omega
end Dl
end L2

/-! The plain half, 3: clocks drawn by ways. -/
namespace L2
namespace Dl
open PySem PySem.Spec PyProof.Rows
local macro_rules | `(tactic| dsimp? [$xs,*] $[$l]?) => `(tactic| simp only [wSeq, wNext, wBreak, wCont, wDrop, wRet, wRetN, wIfS, wSet, wAsgT, e_aug, e_setIx, e_par, e_gN, getS_0, getS_s, setS_0, setS_s, e_var, varK_v, varK_o, varK_u, wC, wBin, rdK_v, rdK_t, rdK_s, rdS_v, rdS_o, rdS_u, fzK_v, fzK_t, fzK_s, fzS_v, fzS_o, fzS_l, fzS_u, e_fz, asg_v, asg_t, asg_s, e_tb, tbK_b, wAnd, wOr, wNot, e_notV, e_andV, e_orV, wBV, wIf, e_neg, intK_i, e_oso, wONo, e_rng1, e_rng2, wFNil, wFCons, wANil, wACons, wTup, wLst, e_callB, rdAllK_n, rdAllK_c, wIsi, e_call, wMNil, wMCons, e_ld, lnsOf, avsK_n, avsK_f, avsK_l, lnS_o, lnS_v, lnS_u, poK_n, poK_c, poS_o, inS_0, inS_s, rsK_v, rsK_o, wSl, e_ownF, e_own0, ownB_o, oS_o, oS_v, oS_u, agS_i, muApp, oAdd_i, oAdd_l, oAdd_t, oAdd_s, oSub_i, oMul_i, oFdiv_i, oMod_i, oPow_i, oShl_i, oShr_i, oOr_i, oAndB_i, oLt_i, oLe_i, oGt_i, oGe_i, oEq_i, oNe_i, oEq, oNe, oIx_l, oIx_t, oLen_l, oLen_t, oInt_i, oInt_b, oMax_i, oMin_i, oList_l, oList_t, oTuple_l, oTuple_t, oSorted_l, oSorted_t, oIs_n, oIsN_n, oIs_b, oIsN_b, isNone_n, isNone_t, isNone_l, isNone_i, isNone_s, isNone_b, oSl_l, oSl_t, oIn, gT_t, gC_c, gNil', e_iseq, sqK_l, sqK_t, e_isq, sq2K_l, sq2K_t, e_sset, ssK_l, ssK_t, e_chain, e_lr1, e_lr2, wRev, rvD_l, rvD_t, e_in1, e_in2, negB_f, negB_t, wIZip, zpK_l, zpK_t, zpK_m, e_extend, extR_t, wYes, startEv, kenD_nx, kenD_rt, kenD_bk, kenD_ct, kenD_ex, outK_n, outK_c, otS_o, rvK_v, rvK_t, rvK_s, rvS_v, rvS_o, slOf, lsFrom, wipeE, restE, List.map_cons, List.map_nil, List.length_cons, List.length_nil, List.replicate, List.append_nil, List.cons_append, List.nil_append, List.getElem?_cons_zero, List.getElem?_cons_succ, List.getElem?_nil, List.set_cons_zero, List.set_cons_succ, List.set_nil, Option.getD_some, Option.getD_none, Option.map_some, Option.map_none, Option.some.injEq, Rs.val.injEq, Rs.tmp.injEq, Rs.slot.injEq, Sl.own.injEq, Sl.val.injEq, PyData.int.injEq, PyData.bool.injEq, PyData.str.injEq, PyData.list.injEq, PyData.tuple.injEq, Prod.mk.injEq, Nat.sub_self, Nat.zero_add, Nat.reduceAdd, Nat.reduceSub, Nat.add_zero, isTy_int_int, isTy_bool_int, isTy_int_bool, isTy_bool_bool, isTy_int_tup, isTy_int_lst, isTy_int_non, isTy_int_str, isTy_tup_tup, isTy_tup_lst, isTy_tup_int, isTy_tup_bool, isTy_tup_non, isTy_tup_str, isTy_lst_lst, isTy_lst_tup, isTy_lst_int, exists_eq_left', exists_eq_left, exists_and_left, exists_eq_right, exists_eq, exists_eq', exists_const, true_and, and_true, and_self, Bool.not_true, Bool.not_false, if_true, if_false, Bool.false_eq_true, reduceIte, reduceCtorEq, List.nodup_nil, decide_eq_true_eq, atI_0, atI_1, atI_2, atI_3, atI_4, atI_5, atI_6, atI_7, atI_8, atI_9, atI_10, atI_11, ixN_3_0, ixN_3_1, ixN_3_2, sh_int, sh_bool, sh_non, and_assoc, nd1, nd_true, eq_self, decide_true, decide_false, Int.cast_ofNat_Int, not_true_eq_false, not_false_eq_true, eqv_ii, eqv_bb, wRaise0, e_raiseG, grK_i, e_raise1, onK_i, e_callX, xa_1, xa_2, xa_3, xa_4, xa_5, xa_6, xa_7, e_many, e_most, e_number, e_row, isLst_l, lsK_l, e_rd, e_br, brS_o, brS_v, arS_o, arS_v, avbK_n, avbK_f, avbK_l, scK_b, scK_i, scK_n, scK_s, e_callS, tmK_t, e_rep, enK_l, e_ienum, wTry, eqv_ss, tpK_v, txK_1, tutK_t, e_repT, e_callT, enTK_t, e_ienumT, r3K_i, e_rng3, e_newD, e_putD, e_lenD, e_listD, dcS_d, dcB_d, pvK_b, pvK_i, tkK_m, tkK_2, e_ssetI, oMinL_c, e_lset, e_lstZ, zlK_c, e_ins, $xs,*] $[$l]?)
theorem cks_app (ms ns : List (Int × Int)) : cks ms ++ cks ns = cks (ms ++ ns) := by simp only [cks, List.map_append]
theorem cutD_cks (cs : List (Int × Int)) (lo hi : Option Int) : cutD (cks cs) lo hi = cks (cutD cs lo hi) := by
  unfold cutD cks
  rw [List.length_map, List.map_take, List.map_drop]
/-- small steps, or a small round -/
def CB (cs : List (Int × Int)) : Prop := (∀ c ∈ cs, c.1 ≤ 12) ∨ ∃ P : Nat, 1 ≤ P ∧ P ≤ 1000 ∧ ∀ c ∈ cs, c.1 ∣ (P : Int)
theorem CB.sub {cs ds : List (Int × Int)} (h : CB cs) (k : ∀ c ∈ ds, c ∈ cs) : CB ds := by
  rcases h with h | ⟨P, h1, h2, h3⟩
  · exact .inl fun c hc => h c (k c hc)
  · exact .inr ⟨P, h1, h2, fun c hc => h3 c (k c hc)⟩
theorem ck_mono {m n : Int} (h : m ≤ n) {cs : List (Int × Int)} (hc : ∀ c ∈ cs, CkOk m c) : ∀ c ∈ cs, CkOk n c := fun c z => by
  obtain ⟨h1, h2, h3, h4⟩ := hc c z
  exact ⟨h1, by omega, h3, h4⟩
/-- tuple(sorted(set(clocks)))[:most] -/
theorem ss_clocks {cs : List (Int × Int)} {K : Rs → Prop} {m : Int} (hm : m ≤ 2 ^ 60) (hc : ∀ c ∈ cs, CkOk m c) (hl : cs.length < 64) (h : ∀ ms : List (Int × Int), ms.Nodup → (∀ c, c ∈ ms ↔ c ∈ cs) → ms.Pairwise clt → K (.tmp (cks ms))) : oSortSet (cks cs) K :=
  sortSet_cks (B := m + 1) (fun c z => by
    obtain ⟨h1, h2, h3, h4⟩ := hc c z
    exact ⟨by omega, by omega, h3, by omega⟩) hl h
end Dl
end L2

/-! The plain half, 4: comprehensions without deeds; rounds, shares. -/
namespace L2
namespace Dl
open PySem PySem.Spec PyProof.Rows
local macro_rules | `(tactic| dsimp? [$xs,*] $[$l]?) => `(tactic| simp only [wSeq, wNext, wBreak, wCont, wDrop, wRet, wRetN, wIfS, wSet, wAsgT, e_aug, e_setIx, e_par, e_gN, getS_0, getS_s, setS_0, setS_s, e_var, varK_v, varK_o, varK_u, wC, wBin, rdK_v, rdK_t, rdK_s, rdS_v, rdS_o, rdS_u, fzK_v, fzK_t, fzK_s, fzS_v, fzS_o, fzS_l, fzS_u, e_fz, asg_v, asg_t, asg_s, e_tb, tbK_b, wAnd, wOr, wNot, e_notV, e_andV, e_orV, wBV, wIf, e_neg, intK_i, e_oso, wONo, e_rng1, e_rng2, wFNil, wFCons, wANil, wACons, wTup, wLst, e_callB, rdAllK_n, rdAllK_c, wIsi, e_call, wMNil, wMCons, e_ld, lnsOf, avsK_n, avsK_f, avsK_l, lnS_o, lnS_v, lnS_u, poK_n, poK_c, poS_o, inS_0, inS_s, rsK_v, rsK_o, wSl, e_ownF, e_own0, ownB_o, oS_o, oS_v, oS_u, agS_i, muApp, oAdd_i, oAdd_l, oAdd_t, oAdd_s, oSub_i, oMul_i, oFdiv_i, oMod_i, oPow_i, oShl_i, oShr_i, oOr_i, oAndB_i, oLt_i, oLe_i, oGt_i, oGe_i, oEq_i, oNe_i, oEq, oNe, oIx_l, oIx_t, oLen_l, oLen_t, oInt_i, oInt_b, oMax_i, oMin_i, oList_l, oList_t, oTuple_l, oTuple_t, oSorted_l, oSorted_t, oIs_n, oIsN_n, oIs_b, oIsN_b, isNone_n, isNone_t, isNone_l, isNone_i, isNone_s, isNone_b, oSl_l, oSl_t, oIn, gT_t, gC_c, gNil', e_iseq, sqK_l, sqK_t, e_isq, sq2K_l, sq2K_t, e_sset, ssK_l, ssK_t, e_chain, e_lr1, e_lr2, wRev, rvD_l, rvD_t, e_in1, e_in2, negB_f, negB_t, wIZip, zpK_l, zpK_t, zpK_m, e_extend, extR_t, wYes, startEv, kenD_nx, kenD_rt, kenD_bk, kenD_ct, kenD_ex, outK_n, outK_c, otS_o, rvK_v, rvK_t, rvK_s, rvS_v, rvS_o, slOf, lsFrom, wipeE, restE, List.map_cons, List.map_nil, List.length_cons, List.length_nil, List.replicate, List.append_nil, List.cons_append, List.nil_append, List.getElem?_cons_zero, List.getElem?_cons_succ, List.getElem?_nil, List.set_cons_zero, List.set_cons_succ, List.set_nil, Option.getD_some, Option.getD_none, Option.map_some, Option.map_none, Option.some.injEq, Rs.val.injEq, Rs.tmp.injEq, Rs.slot.injEq, Sl.own.injEq, Sl.val.injEq, PyData.int.injEq, PyData.bool.injEq, PyData.str.injEq, PyData.list.injEq, PyData.tuple.injEq, Prod.mk.injEq, Nat.sub_self, Nat.zero_add, Nat.reduceAdd, Nat.reduceSub, Nat.add_zero, isTy_int_int, isTy_bool_int, isTy_int_bool, isTy_bool_bool, isTy_int_tup, isTy_int_lst, isTy_int_non, isTy_int_str, isTy_tup_tup, isTy_tup_lst, isTy_tup_int, isTy_tup_bool, isTy_tup_non, isTy_tup_str, isTy_lst_lst, isTy_lst_tup, isTy_lst_int, exists_eq_left', exists_eq_left, exists_and_left, exists_eq_right, exists_eq, exists_eq', exists_const, true_and, and_true, and_self, Bool.not_true, Bool.not_false, if_true, if_false, Bool.false_eq_true, reduceIte, reduceCtorEq, List.nodup_nil, decide_eq_true_eq, atI_0, atI_1, atI_2, atI_3, atI_4, atI_5, atI_6, atI_7, atI_8, atI_9, atI_10, atI_11, ixN_3_0, ixN_3_1, ixN_3_2, sh_int, sh_bool, sh_non, and_assoc, nd1, nd_true, eq_self, decide_true, decide_false, Int.cast_ofNat_Int, not_true_eq_false, not_false_eq_true, eqv_ii, eqv_bb, wRaise0, e_raiseG, grK_i, e_raise1, onK_i, e_callX, xa_1, xa_2, xa_3, xa_4, xa_5, xa_6, xa_7, e_many, e_most, e_number, e_row, isLst_l, lsK_l, e_rd, e_br, brS_o, brS_v, arS_o, arS_v, avbK_n, avbK_f, avbK_l, scK_b, scK_i, scK_n, scK_s, e_callS, tmK_t, e_rep, enK_l, e_ienum, wTry, eqv_ss, tpK_v, txK_1, tutK_t, e_repT, e_callT, enTK_t, e_ienumT, r3K_i, e_rng3, e_newD, e_putD, e_lenD, e_listD, dcS_d, dcB_d, pvK_b, pvK_i, tkK_m, tkK_2, e_ssetI, oMinL_c, e_lset, e_lstZ, zlK_c, e_ins, $xs,*] $[$l]?)
/-- a comprehension that changes nothing -/
theorem lc_fm {β : Type} {vs : List Nat} {g : WG} {ct : WT} {we : WE} {K : Ev → List PyData → Prop} {env : Ev} (en : β → PyData) (f : β → Option PyData) : ∀ (xs : List β) (acc : List PyData),
    (∀ x ∈ xs, ∀ (A : PyData → Ev → Prop) (N : Ev → Prop), (match f x with | some y => A y env | none => N env) → g (en x) env (fun e1 => ct e1 (fun e2 b => if b = true then wFz we e2 (fun e3 y => A y (wipeE e3 vs)) NoX else N (wipeE e2 vs)) NoX)) →
    acc.length + xs.length ≤ sizeLine → K env (acc ++ xs.filterMap f) → wLcE vs g ct we (xs.map en) acc env K
  | [], acc, h, hl, hK => by
    rw [List.filterMap_nil, List.append_nil] at hK
    exact hK
  | x :: xs, acc, h, hl, hK => by
    show g (en x) env (fun e1 => ct e1 (fun e2 b => if b = true then wFz we e2 (fun e3 y => acc.length < sizeLine ∧ wLcE vs g ct we (xs.map en) (acc ++ [y]) (wipeE e3 vs) K) NoX else wLcE vs g ct we (xs.map en) acc (wipeE e2 vs) K) NoX)
    refine h x List.mem_cons_self (fun y e => acc.length < sizeLine ∧ wLcE vs g ct we (xs.map en) (acc ++ [y]) e K) (fun e => wLcE vs g ct we (xs.map en) acc e K) ?_
    simp only [List.length_cons] at hl
    cases e : f x with
    | some y =>
      refine ⟨by omega, lc_fm en f xs _ (fun x hx => h x (List.mem_cons_of_mem _ hx)) (by simp only [List.length_append, List.length_cons, List.length_nil]; omega) ?_⟩
      rw [List.filterMap_cons_some e] at hK
      rw [List.append_assoc]
      exact hK
    | none =>
      rw [List.filterMap_cons_none e] at hK
      exact lc_fm en f xs _ (fun x hx => h x (List.mem_cons_of_mem _ hx)) (by omega) hK
/-- without an if -/
theorem lc_map {β : Type} {vs : List Nat} {g : WG} {we : WE} {K : Ev → List PyData → Prop} {env : Ev} (en : β → PyData) (f : β → PyData) (xs : List β)
    (h : ∀ x ∈ xs, ∀ (A : PyData → Ev → Prop), A (f x) env → g (en x) env (fun e1 => wFz we e1 (fun e3 y => A y (wipeE e3 vs)) NoX))
    (hl : xs.length ≤ sizeLine) (hK : K env (xs.map f)) : wLcE vs g wYes we (xs.map en) [] env K := by
  refine lc_fm en (fun x => some (f x)) xs [] (fun x hx A N hA => ?_) (by simpa using hl) ?_
  · refine h x hx A hA
  · rw [List.nil_append, List.filterMap_eq_map']
    exact hK

/-! ### rounds -/
def prodS : List (Int × Int) → Int
  | [] => 1
  | c :: cs => c.1 * prodS cs
/-- the round, by the loop -/
def rnd (f : Int) : List (Int × Int) → Int
  | [] => f
  | c :: cs => rnd (f * c.1 / (Int.gcd f c.1 : Nat)) cs
theorem lcm_eq {f s : Int} (hf : 0 < f) (hs : 0 < s) : f * s / (Int.gcd f s : Nat) = (Int.lcm f s : Nat) := by
  have h := Int.gcd_mul_lcm f s
  have hg : 0 < Int.gcd f s := Int.gcd_pos_of_ne_zero_left s (Int.ne_of_gt hf)
  refine Int.ediv_eq_of_eq_mul_right (by omega) ?_
  have h2 : (Int.gcd f s : Int) * (Int.lcm f s : Int) = (f.natAbs : Int) * (s.natAbs : Int) := by exact_mod_cast h
  rw [Int.natAbs_of_nonneg (by omega), Int.natAbs_of_nonneg (by omega)] at h2
  exact h2.symm
theorem prodS_pos : ∀ {cs : List (Int × Int)}, (∀ c ∈ cs, 1 ≤ c.1) → 1 ≤ prodS cs
  | [], _ => by decide
  | c :: cs, h => by
    have h1 := h c List.mem_cons_self
    have h2 := prodS_pos fun c hc => h c (List.mem_cons_of_mem _ hc)
    have := Int.mul_pos (show 0 < c.1 by omega) (show 0 < prodS cs by omega)
    show 1 ≤ c.1 * prodS cs
    omega
theorem prodS_dvd : ∀ {cs : List (Int × Int)}, ∀ c ∈ cs, c.1 ∣ prodS cs
  | c :: cs, d, h => by
    rcases List.mem_cons.mp h with z | z
    · subst z; exact Int.dvd_mul_right _ _
    · exact Int.dvd_trans (prodS_dvd d z) (Int.dvd_mul_left _ _)
theorem rnd_spec : ∀ (cs : List (Int × Int)) (f : Int), 0 < f → (∀ c ∈ cs, 1 ≤ c.1) → 0 < rnd f cs ∧ f ∣ rnd f cs ∧ (∀ c ∈ cs, c.1 ∣ rnd f cs) ∧ ∀ m, f ∣ m → (∀ c ∈ cs, c.1 ∣ m) → rnd f cs ∣ m
  | [], f, hf, _ => ⟨hf, Int.dvd_refl _, fun _ h => (by cases h), fun m h _ => h⟩
  | c :: cs, f, hf, hc => by
    have hc1 := hc c List.mem_cons_self
    have e := lcm_eq hf (show 0 < c.1 by omega)
    show 0 < rnd (f * c.1 / (Int.gcd f c.1 : Nat)) cs ∧ f ∣ rnd (f * c.1 / (Int.gcd f c.1 : Nat)) cs ∧ _ ∧ ∀ m, f ∣ m → _ → rnd (f * c.1 / (Int.gcd f c.1 : Nat)) cs ∣ m
    rw [e]
    have hp : 0 < Int.lcm f c.1 := Int.lcm_pos (by omega) (by omega)
    obtain ⟨h1, h2, h3, h4⟩ := rnd_spec cs (Int.lcm f c.1 : Nat) (by omega) fun d hd => hc d (List.mem_cons_of_mem _ hd)
    refine ⟨h1, Int.dvd_trans (Int.dvd_lcm_left _ _) h2, fun d hd => ?_, fun m hm1 hm2 => ?_⟩
    · show d.1 ∣ rnd (f * c.1 / (Int.gcd f c.1 : Nat)) cs
      rw [e]
      rcases List.mem_cons.mp hd with z | z
      · subst z; exact Int.dvd_trans (Int.dvd_lcm_right _ _) h2
      · exact h3 d z
    · refine h4 m ?_ fun d hd => hm2 d (List.mem_cons_of_mem _ hd)
      have q : (Int.lcm f c.1 : Int) ∣ m := by
        have a1 : f ∣ ((m.natAbs : Nat) : Int) := Int.dvd_natAbs.mpr hm1
        have a2 : c.1 ∣ ((m.natAbs : Nat) : Int) := Int.dvd_natAbs.mpr (hm2 c List.mem_cons_self)
        exact Int.dvd_natAbs.mp (Int.natCast_dvd_natCast.mpr (Int.lcm_dvd a1 a2))
      exact q
theorem rnd_le {cs : List (Int × Int)} {f : Int} (hf : 0 < f) (hc : ∀ c ∈ cs, 1 ≤ c.1) : rnd f cs ≤ f * prodS cs := by
  have hp := prodS_pos hc
  refine Int.le_of_dvd (Int.mul_pos hf (by omega)) ((rnd_spec cs f hf hc).2.2.2 _ (Int.dvd_mul_right _ _) fun c h => Int.dvd_trans (prodS_dvd c h) (Int.dvd_mul_left _ _))
theorem nab_lt {x y : Int} {b : Nat} (h0 : 0 ≤ x) (h : x ≤ y) (hy : y.natAbs < b) : x.natAbs < b := by omega
theorem log_of {x : Int} (h0 : 0 < x) (h : x.natAbs < 2 ^ 8000) : x.natAbs.log2 < 9000 :=
  Nat.lt_trans ((Nat.log2_lt (by omega)).mpr h) (by decide)
/-- clocks in a list or a tuple, of steps from 1 on, of no overgreat product -/
def RndOk (ds : List PyData) (Q : List (Int × Int) → Prop) : Prop := ∃ cs, ds = cks cs ∧ (∀ c ∈ cs, 1 ≤ c.1) ∧ (prodS cs).natAbs < 2 ^ 8000 ∧ Q cs
def sp_round_of : Spc := fun avs Kr _ => match avs with
  | [.val (.tuple ds)] => RndOk ds fun cs => Kr [] (.val (.int (rnd 1 cs)))
  | [.val (.list ds)] => RndOk ds fun cs => Kr [] (.val (.int (rnd 1 cs)))
  | _ => False
def w_round_of_B1 : WS :=
  (wSet 1 (wBin oFdiv (wBin oMul (wVar 1) (wVar 2)) (wCall 2 sp_divisor_of (wMCons (wVar 1) (wMCons (wVar 2) wMNil)))))
def w_round_of_L1 : WS :=
  wFor (wISeq (wVar 0)) (gT 2 (gCons' (gN 2) (gCons' (gN 3) gNil'))) w_round_of_B1
def w_round_of_R1 : WS :=
  (wRet (wVar 1))
/-- round_of: 0 clocks, 1 found, 2 step, 3 rest -/
def w_round_of : WS :=
  (wSeq (wSet 1 (wC (.int 1)))
    (wSeq w_round_of_L1
    w_round_of_R1))

theorem l_round_of {d : PyData} {x2 x3 : Sl} {cs : List (Int × Int)} {k : Ken} (hd : d = .tuple (cks cs) ∨ d = .list (cks cs)) (hc : ∀ c ∈ cs, 1 ≤ c.1) (hb : (prodS cs).natAbs < 2 ^ 8000) (hk : ∀ x2 x3, k.nx [.val d, .val (.int (rnd 1 cs)), x2, x3]) : w_round_of_L1 [.val d, .val (.int 1), x2, x3] k := by
  have main : wEach (gT 2 (gCons' (gN 2) (gCons' (gN 3) gNil'))) w_round_of_B1 (cks cs) [.val d, .val (.int 1), x2, x3] k := by
    refine wEach_ind (fun ds e => ∃ (f : Int) (r : List (Int × Int)) (x2 x3 : Sl), ds = cks r ∧ e = [.val d, .val (.int f), x2, x3] ∧ 0 < f ∧ (∀ c ∈ r, 1 ≤ c.1) ∧ f * prodS r ≤ prodS cs ∧ rnd f r = rnd 1 cs) ?_ ?_ _ _ ⟨1, cs, x2, x3, rfl, rfl, by decide, hc, by omega, rfl⟩
    · rintro e ⟨f, r, x2, x3, h1, rfl, h3, h4, h5, h6⟩
      cases r with
      | cons _ _ => cases h1
      | nil =>
        have e : f = rnd 1 cs := h6
        rw [e]
        exact hk _ _
    · rintro d0 r0 e ⟨f, r, x2, x3, h1, rfl, h3, h4, h5, h6⟩ ih
      cases r with
      | nil => cases h1
      | cons c r =>
        cases h1
        have c1 := h4 c List.mem_cons_self
        have hr : ∀ c ∈ r, 1 ≤ c.1 := fun c hc => h4 c (List.mem_cons_of_mem _ hc)
        have hp := prodS_pos hr
        have e1 : f * prodS (c :: r) = f * c.1 * prodS r := (Int.mul_assoc _ _ _).symm
        have hfc : 0 < f * c.1 := Int.mul_pos h3 (by omega)
        have q1 : f * c.1 ≤ f * c.1 * prodS r := by
          have := Int.mul_le_mul_of_nonneg_left hp (show 0 ≤ f * c.1 by omega)
          rwa [Int.mul_one] at this
        have q2 : f ≤ f * c.1 := by
          have := Int.mul_le_mul_of_nonneg_left c1 (show 0 ≤ f by omega)
          rwa [Int.mul_one] at this
        have q3 : c.1 ≤ f * c.1 := by
          have := Int.mul_le_mul_of_nonneg_right (show 1 ≤ f by omega) (show 0 ≤ c.1 by omega)
          rwa [Int.one_mul] at this
        rw [e1] at h5
        have bf : f.natAbs < 2 ^ 8000 := nab_lt (by omega) (by omega) hb
        have bc : c.1.natAbs < 2 ^ 8000 := nab_lt (by omega) (by omega) hb
        have hg : 0 < Int.gcd f c.1 := Int.gcd_pos_of_ne_zero_left _ (by omega)
        have hgl : (Int.gcd f c.1 : Int) ≤ f := Int.gcd_le_left _ h3
        dsimp? [w_round_of_B1, ck, sp_divisor_of]
        refine ⟨mulx_ok bf bc (by decide), by omega, by omega, by omega, log_of (by omega) (nab_lt (by omega) hgl bf), ih _ ⟨_, r, _, _, rfl, rfl, ?_, hr, ?_, h6⟩⟩
        · rw [lcm_eq h3 (by omega)]
          have := Int.lcm_pos (show f ≠ 0 by omega) (show c.1 ≠ 0 by omega)
          omega
        · have d1 : f * c.1 / (Int.gcd f c.1 : Nat) ≤ f * c.1 := by
            rw [lcm_eq h3 (by omega)]
            exact Int.le_of_dvd hfc (by
              have a1 : f ∣ (((f * c.1).natAbs : Nat) : Int) := Int.dvd_natAbs.mpr (Int.dvd_mul_right _ _)
              have a2 : c.1 ∣ (((f * c.1).natAbs : Nat) : Int) := Int.dvd_natAbs.mpr (Int.dvd_mul_left _ _)
              exact Int.dvd_natAbs.mp (Int.natCast_dvd_natCast.mpr (Int.lcm_dvd a1 a2)))
          exact Int.le_trans (Int.mul_le_mul_of_nonneg_right d1 (by omega)) h5
  rcases hd with rfl | rfl
  · dsimp? [w_round_of_L1, wFor]
    exact main
  · dsimp? [w_round_of_L1, wFor]
    exact main
theorem vc_round_of : ∀ avs Kr Kx, avs.length = 1 → sp_round_of avs Kr Kx → lsFrom 0 avs = [] ∧ w_round_of (startEv 4 avs) (kenD [] Kr Kx) := by
  intro avs Kr Kx hl h
  unfold sp_round_of at h
  split at h
  · obtain ⟨cs, rfl, h1, h2, q⟩ := h
    refine ⟨rfl, ?_⟩
    dsimp? [w_round_of]
    refine l_round_of (.inl rfl) h1 h2 fun x2 x3 => ?_
    dsimp? [w_round_of_R1]
    exact q
  · obtain ⟨cs, rfl, h1, h2, q⟩ := h
    refine ⟨rfl, ?_⟩
    dsimp? [w_round_of]
    refine l_round_of (.inr rfl) h1 h2 fun x2 x3 => ?_
    dsimp? [w_round_of_R1]
    exact q
  · exact h.elim
end Dl
end L2

/-! The plain half, 5: shares. -/
namespace L2
namespace Dl
open PySem PySem.Spec PyProof.Rows
local macro_rules | `(tactic| dsimp? [$xs,*] $[$l]?) => `(tactic| simp only [wSeq, wNext, wBreak, wCont, wDrop, wRet, wRetN, wIfS, wSet, wAsgT, e_aug, e_setIx, e_par, e_gN, getS_0, getS_s, setS_0, setS_s, e_var, varK_v, varK_o, varK_u, wC, wBin, rdK_v, rdK_t, rdK_s, rdS_v, rdS_o, rdS_u, fzK_v, fzK_t, fzK_s, fzS_v, fzS_o, fzS_l, fzS_u, e_fz, asg_v, asg_t, asg_s, e_tb, tbK_b, wAnd, wOr, wNot, e_notV, e_andV, e_orV, wBV, wIf, e_neg, intK_i, e_oso, wONo, e_rng1, e_rng2, wFNil, wFCons, wANil, wACons, wTup, wLst, e_callB, rdAllK_n, rdAllK_c, wIsi, e_call, wMNil, wMCons, e_ld, lnsOf, avsK_n, avsK_f, avsK_l, lnS_o, lnS_v, lnS_u, poK_n, poK_c, poS_o, inS_0, inS_s, rsK_v, rsK_o, wSl, e_ownF, e_own0, ownB_o, oS_o, oS_v, oS_u, agS_i, muApp, oAdd_i, oAdd_l, oAdd_t, oAdd_s, oSub_i, oMul_i, oFdiv_i, oMod_i, oPow_i, oShl_i, oShr_i, oOr_i, oAndB_i, oLt_i, oLe_i, oGt_i, oGe_i, oEq_i, oNe_i, oEq, oNe, oIx_l, oIx_t, oLen_l, oLen_t, oInt_i, oInt_b, oMax_i, oMin_i, oList_l, oList_t, oTuple_l, oTuple_t, oSorted_l, oSorted_t, oIs_n, oIsN_n, oIs_b, oIsN_b, isNone_n, isNone_t, isNone_l, isNone_i, isNone_s, isNone_b, oSl_l, oSl_t, oIn, gT_t, gC_c, gNil', e_iseq, sqK_l, sqK_t, e_isq, sq2K_l, sq2K_t, e_sset, ssK_l, ssK_t, e_chain, e_lr1, e_lr2, wRev, rvD_l, rvD_t, e_in1, e_in2, negB_f, negB_t, wIZip, zpK_l, zpK_t, zpK_m, e_extend, extR_t, wYes, startEv, kenD_nx, kenD_rt, kenD_bk, kenD_ct, kenD_ex, outK_n, outK_c, otS_o, rvK_v, rvK_t, rvK_s, rvS_v, rvS_o, slOf, lsFrom, wipeE, restE, List.map_cons, List.map_nil, List.length_cons, List.length_nil, List.replicate, List.append_nil, List.cons_append, List.nil_append, List.getElem?_cons_zero, List.getElem?_cons_succ, List.getElem?_nil, List.set_cons_zero, List.set_cons_succ, List.set_nil, Option.getD_some, Option.getD_none, Option.map_some, Option.map_none, Option.some.injEq, Rs.val.injEq, Rs.tmp.injEq, Rs.slot.injEq, Sl.own.injEq, Sl.val.injEq, PyData.int.injEq, PyData.bool.injEq, PyData.str.injEq, PyData.list.injEq, PyData.tuple.injEq, Prod.mk.injEq, Nat.sub_self, Nat.zero_add, Nat.reduceAdd, Nat.reduceSub, Nat.add_zero, isTy_int_int, isTy_bool_int, isTy_int_bool, isTy_bool_bool, isTy_int_tup, isTy_int_lst, isTy_int_non, isTy_int_str, isTy_tup_tup, isTy_tup_lst, isTy_tup_int, isTy_tup_bool, isTy_tup_non, isTy_tup_str, isTy_lst_lst, isTy_lst_tup, isTy_lst_int, exists_eq_left', exists_eq_left, exists_and_left, exists_eq_right, exists_eq, exists_eq', exists_const, true_and, and_true, and_self, Bool.not_true, Bool.not_false, if_true, if_false, Bool.false_eq_true, reduceIte, reduceCtorEq, List.nodup_nil, decide_eq_true_eq, atI_0, atI_1, atI_2, atI_3, atI_4, atI_5, atI_6, atI_7, atI_8, atI_9, atI_10, atI_11, ixN_3_0, ixN_3_1, ixN_3_2, sh_int, sh_bool, sh_non, and_assoc, nd1, nd_true, eq_self, decide_true, decide_false, Int.cast_ofNat_Int, not_true_eq_false, not_false_eq_true, eqv_ii, eqv_bb, wRaise0, e_raiseG, grK_i, e_raise1, onK_i, e_callX, xa_1, xa_2, xa_3, xa_4, xa_5, xa_6, xa_7, e_many, e_most, e_number, e_row, isLst_l, lsK_l, e_rd, e_br, brS_o, brS_v, arS_o, arS_v, avbK_n, avbK_f, avbK_l, scK_b, scK_i, scK_n, scK_s, e_callS, tmK_t, e_rep, enK_l, e_ienum, wTry, eqv_ss, tpK_v, txK_1, tutK_t, e_repT, e_callT, enTK_t, e_ienumT, r3K_i, e_rng3, e_newD, e_putD, e_lenD, e_listD, dcS_d, dcB_d, pvK_b, pvK_i, tkK_m, tkK_2, e_ssetI, oMinL_c, e_lset, e_lstZ, zlK_c, e_ins, $xs,*] $[$l]?)
def sumS (R : Int) (cs : List (Int × Int)) : Int := (cs.map fun c => R / c.1).sum
def topG (cs : List (Int × Int)) : Int := (Int.gcd (rnd 1 cs) (sumS (rnd 1 cs) cs) : Nat)
def sp_shares_of : Spc := fun avs Kr _ => match avs with
  | [.val (.tuple ds)] => RndOk ds fun cs => cs.length ≤ 100000 ∧ Kr [] (.val (.tuple [.int (sumS (rnd 1 cs) cs / topG cs), .int (rnd 1 cs / topG cs)]))
  | [.val (.list ds)] => RndOk ds fun cs => cs.length ≤ 100000 ∧ Kr [] (.val (.tuple [.int (sumS (rnd 1 cs) cs / topG cs), .int (rnd 1 cs / topG cs)]))
  | _ => False
def w_shares_of_C1 : WE :=
  wLc [4, 5] (wISeq (wVar 0)) (gT 2 (gCons' (gN 4) (gCons' (gN 5) gNil'))) wYes (wBin oFdiv (wVar 1) (wVar 4))
/-- shares_of: 0 clocks, 1 bottom, 2 top, 3 share, 4 step, 5 rest -/
def w_shares_of : WS :=
  (wSeq (wSet 1 (wCall 1 sp_round_of (wMCons (wVar 0) wMNil)))
    (wSeq (wSet 2 (wCallB oSum (wACons w_shares_of_C1 wANil)))
    (wSeq (wSet 3 (wCall 2 sp_divisor_of (wMCons (wVar 1) (wMCons (wVar 2) wMNil))))
    (wRet (wTup (wFCons (wBin oFdiv (wVar 2) (wVar 3)) (wFCons (wBin oFdiv (wVar 1) (wVar 3)) wFNil)))))))

theorem sum_nonneg : ∀ {l : List Int}, (∀ x ∈ l, 0 ≤ x) → 0 ≤ l.sum
  | [], _ => by decide
  | x :: l, h => by
    have h1 := h x List.mem_cons_self
    have h2 := sum_nonneg fun y hy => h y (List.mem_cons_of_mem _ hy)
    rw [List.sum_cons]
    omega
theorem sumS_nonneg {R : Int} {cs : List (Int × Int)} (hR : 0 ≤ R) (hc : ∀ c ∈ cs, 1 ≤ c.1) : 0 ≤ sumS R cs :=
  sum_nonneg fun x hx => by
    obtain ⟨c, h, rfl⟩ := List.mem_map.mp hx
    exact Int.ediv_nonneg hR (by have := hc c h; omega)
theorem small100000 {n : Nat} (h : n ≤ 100000) : n ≤ sizeLine := Nat.le_trans h (by decide)
theorem m_shares_of {d : PyData} {cs : List (Int × Int)} {k : Ken} (hd : d = .tuple (cks cs) ∨ d = .list (cks cs)) (hc : ∀ c ∈ cs, 1 ≤ c.1) (hb : (prodS cs).natAbs < 2 ^ 8000) (hl : cs.length ≤ 100000)
    (hk : ∀ env, k.rt (.val d :: env) (.val (.tuple [.int (sumS (rnd 1 cs) cs / topG cs), .int (rnd 1 cs / topG cs)]))) : w_shares_of [.val d, .un, .un, .un, .un, .un] k := by
  obtain ⟨r1, r2, r3, r4⟩ := rnd_spec cs 1 (by decide) hc
  have rl : rnd 1 cs ≤ prodS cs := by have := rnd_le (f := 1) (by decide) hc; omega
  have rb : (rnd 1 cs).natAbs < 2 ^ 8000 := nab_lt (by omega) rl hb
  have sn := sumS_nonneg (R := rnd 1 cs) (by omega) hc
  have hg : 0 < Int.gcd (rnd 1 cs) (sumS (rnd 1 cs) cs) := Int.gcd_pos_of_ne_zero_left _ (by omega)
  have hgl : (Int.gcd (rnd 1 cs) (sumS (rnd 1 cs) cs) : Int) ≤ rnd 1 cs := Int.gcd_le_left _ r1
  have elt : ∀ c ∈ cs, ∀ (A : PyData → Ev → Prop) (x2 x3 : Sl), A (.int (rnd 1 cs / c.1)) [.val d, .val (.int (rnd 1 cs)), x2, x3, .un, .un] →
      (gT 2 (gCons' (gN 4) (gCons' (gN 5) gNil'))) (ck c) [.val d, .val (.int (rnd 1 cs)), x2, x3, .un, .un] (fun e1 => wFz (wBin oFdiv (wVar 1) (wVar 4)) e1 (fun e3 y => A y (wipeE e3 [4, 5])) NoX) := fun c h A x2 x3 hA => by
    have c1 := hc c h
    have cl : c.1 ≤ rnd 1 cs := Int.le_of_dvd r1 (r3 c h)
    dsimp? [ck]
    exact ⟨by omega, log_of (by omega) (nab_lt (by omega) cl rb), hA⟩
  have fin : ∀ (x4 x5 : Sl), wSeq (wSet 3 (wCall 2 sp_divisor_of (wMCons (wVar 1) (wMCons (wVar 2) wMNil)))) (wRet (wTup (wFCons (wBin oFdiv (wVar 2) (wVar 3)) (wFCons (wBin oFdiv (wVar 1) (wVar 3)) wFNil))))
      [.val d, .val (.int (rnd 1 cs)), .val (.int (sumS (rnd 1 cs) cs)), .un, x4, x5] k := fun x4 x5 => by
    dsimp? [sp_divisor_of]
    exact ⟨by omega, sn, by omega, log_of (by omega) (nab_lt (by omega) hgl rb), by omega, log_of (by omega) (nab_lt (by omega) hgl rb), by decide, hk _⟩
  unfold w_shares_of
  rcases hd with rfl | rfl
  · refine seq_cut fun R hR => ?_
    dsimp? [sp_round_of]
    refine ⟨cs, rfl, hc, hb, hR _ ?_⟩
    refine seq_cut fun R hR => ?_
    dsimp? [w_shares_of_C1, wLc, oSum]
    refine lc_map ck (fun c => .int (rnd 1 cs / c.1)) cs (fun c h A hA => elt c h A _ _ hA) (small100000 hl) ?_
    dsimp? []
    exact ⟨cs.map fun (c : Int × Int) => rnd 1 cs / c.1, by rw [List.map_map]; rfl, hR _ (fin _ _)⟩
  · refine seq_cut fun R hR => ?_
    dsimp? [sp_round_of]
    refine ⟨cs, rfl, hc, hb, hR _ ?_⟩
    refine seq_cut fun R hR => ?_
    dsimp? [w_shares_of_C1, wLc, oSum]
    refine lc_map ck (fun c => .int (rnd 1 cs / c.1)) cs (fun c h A hA => elt c h A _ _ hA) (small100000 hl) ?_
    dsimp? []
    exact ⟨cs.map fun (c : Int × Int) => rnd 1 cs / c.1, by rw [List.map_map]; rfl, hR _ (fin _ _)⟩
theorem vc_shares_of : ∀ avs Kr Kx, avs.length = 1 → sp_shares_of avs Kr Kx → lsFrom 0 avs = [] ∧ w_shares_of (startEv 6 avs) (kenD [] Kr Kx) := by
  intro avs Kr Kx hl h
  unfold sp_shares_of at h
  split at h
  · obtain ⟨cs, rfl, h1, h2, h3, q⟩ := h
    refine ⟨rfl, m_shares_of (.inl rfl) h1 h2 h3 fun env => ?_⟩
    dsimp? []
    exact q
  · obtain ⟨cs, rfl, h1, h2, h3, q⟩ := h
    refine ⟨rfl, m_shares_of (.inr rfl) h1 h2 h3 fun env => ?_⟩
    dsimp? []
    exact q
  · exact h.elim
theorem prodS_le {m : Int} (hm : 1 ≤ m) : ∀ {cs : List (Int × Int)}, (∀ c ∈ cs, 1 ≤ c.1 ∧ c.1 ≤ m) → prodS cs ≤ m ^ cs.length
  | [], _ => by
    show (1 : Int) ≤ m ^ 0
    rw [Int.pow_zero]
    exact Int.le_refl _
  | c :: cs, h => by
    have h1 := h c List.mem_cons_self
    have h2 := prodS_le hm fun d hd => h d (List.mem_cons_of_mem _ hd)
    have h3 := prodS_pos fun d hd => (h d (List.mem_cons_of_mem _ hd)).1
    show c.1 * prodS cs ≤ m ^ (cs.length + 1)
    rw [Int.pow_succ, Int.mul_comm]
    exact Int.mul_le_mul h2 h1.2 (by omega) (Int.le_trans (by omega) h2)
theorem prodS_b {cs : List (Int × Int)} (h : ∀ c ∈ cs, CkOk 1000 c) (hl : cs.length ≤ 100) : (prodS cs).natAbs < 2 ^ 8000 := by
  have h1 := prodS_le (m := 1000) (by decide) fun c hc => ⟨(h c hc).1, (h c hc).2.1⟩
  have h0 := prodS_pos fun c hc => (h c hc).1
  have h2 : (1000 : Int) ^ cs.length ≤ 1000 ^ 100 := by
    have : (1000 : Nat) ^ cs.length ≤ 1000 ^ 100 := Nat.pow_le_pow_right (by decide) hl
    exact_mod_cast this
  have h3 : ((1000 : Int) ^ 100).natAbs < 2 ^ 8000 := by decide +kernel
  exact nab_lt (by omega) (Int.le_trans h1 h2) h3
/-- for x in .. of ints -/
theorem each_ints {i : Nat} {t : WS} {k : Ken} (J : Ev → Prop) (fin : ∀ e, J e → k.nx e) (step : ∀ (n : Int) e (R : Ev → Prop), J e → (∀ e2, J e2 → R e2) → t (e.set i (.val (.int n))) { k with nx := R, ct := R, bk := k.nx }) :
    ∀ (ds : List PyData) e, (∀ d ∈ ds, ∃ n : Int, d = .int n) → J e → wEach (gN i) t ds e k
  | [], e, _, h => fin e h
  | d :: ds, e, hd, h => by
    obtain ⟨n, rfl⟩ := hd d List.mem_cons_self
    exact step n e _ h fun e2 h2 => each_ints J fin step ds e2 (fun d q => hd d (List.mem_cons_of_mem _ q)) h2
theorem take_ints {ns : List Int} (lo hi : Option Int) : cutD (ns.map PyData.int) lo hi = (cutD ns lo hi).map .int := by
  unfold cutD
  rw [List.length_map, List.map_take, List.map_drop]
theorem cut_len {α : Type} {xs : List α} (lo hi : Option Int) : (cutD xs lo hi).length ≤ xs.length := by
  unfold cutD
  rw [List.length_take, List.length_drop]
  omega
/-- [cell] + script[a:b] -/
theorem cells_ints {ns : List Int} {n : Int} {lo hi : Option Int} : ∀ d ∈ PyData.int n :: cutD (ns.map PyData.int) lo hi, ∃ n : Int, d = .int n := by
  intro d hd
  rcases List.mem_cons.mp hd with z | z
  · exact ⟨_, z⟩
  · rw [take_ints] at z
    obtain ⟨m, _, rfl⟩ := List.mem_map.mp z
    exact ⟨_, rfl⟩
theorem cells_len {ns : List Int} {lo hi : Option Int} (h : ns.length ≤ 63) : 1 + (cutD (ns.map PyData.int) lo hi).length ≤ sizeLine := by
  have := cut_len (xs := ns.map PyData.int) lo hi
  rw [List.length_map] at this
  rw [sizeLine_eq]
  omega
theorem nodup_sub_len {α : Type} : ∀ {l m : List α}, l.Nodup → (∀ x ∈ l, x ∈ m) → l.length ≤ m.length
  | [], m, _, _ => Nat.zero_le _
  | a :: l, m, nd, h => by
    obtain ⟨m1, m2, rfl⟩ := List.append_of_mem (h a List.mem_cons_self)
    have nd' := List.nodup_cons.mp nd
    have := nodup_sub_len (m := m1 ++ m2) nd'.2 fun x hx => by
      have h1 := h x (List.mem_cons_of_mem _ hx)
      simp only [List.mem_append, List.mem_cons] at h1 ⊢
      rcases h1 with z | z | z
      · exact .inl z
      · subst z; exact absurd hx nd'.1
      · exact .inr z
    simp only [List.length_append, List.length_cons] at this ⊢
    omega
end Dl
end L2

/-! The plain half, 6: two clocks' meeting. -/
namespace L2
namespace Dl
open PySem PySem.Spec PyProof.Rows
local macro_rules | `(tactic| dsimp? [$xs,*] $[$l]?) => `(tactic| simp only [wSeq, wNext, wBreak, wCont, wDrop, wRet, wRetN, wIfS, wSet, wAsgT, e_aug, e_setIx, e_par, e_gN, getS_0, getS_s, setS_0, setS_s, e_var, varK_v, varK_o, varK_u, wC, wBin, rdK_v, rdK_t, rdK_s, rdS_v, rdS_o, rdS_u, fzK_v, fzK_t, fzK_s, fzS_v, fzS_o, fzS_l, fzS_u, e_fz, asg_v, asg_t, asg_s, e_tb, tbK_b, wAnd, wOr, wNot, e_notV, e_andV, e_orV, wBV, wIf, e_neg, intK_i, e_oso, wONo, e_rng1, e_rng2, wFNil, wFCons, wANil, wACons, wTup, wLst, e_callB, rdAllK_n, rdAllK_c, wIsi, e_call, wMNil, wMCons, e_ld, lnsOf, avsK_n, avsK_f, avsK_l, lnS_o, lnS_v, lnS_u, poK_n, poK_c, poS_o, inS_0, inS_s, rsK_v, rsK_o, wSl, e_ownF, e_own0, ownB_o, oS_o, oS_v, oS_u, agS_i, muApp, oAdd_i, oAdd_l, oAdd_t, oAdd_s, oSub_i, oMul_i, oFdiv_i, oMod_i, oPow_i, oShl_i, oShr_i, oOr_i, oAndB_i, oLt_i, oLe_i, oGt_i, oGe_i, oEq_i, oNe_i, oEq, oNe, oIx_l, oIx_t, oLen_l, oLen_t, oInt_i, oInt_b, oMax_i, oMin_i, oList_l, oList_t, oTuple_l, oTuple_t, oSorted_l, oSorted_t, oIs_n, oIsN_n, oIs_b, oIsN_b, isNone_n, isNone_t, isNone_l, isNone_i, isNone_s, isNone_b, oSl_l, oSl_t, oIn, gT_t, gC_c, gNil', e_iseq, sqK_l, sqK_t, e_isq, sq2K_l, sq2K_t, e_sset, ssK_l, ssK_t, e_chain, e_lr1, e_lr2, wRev, rvD_l, rvD_t, e_in1, e_in2, negB_f, negB_t, wIZip, zpK_l, zpK_t, zpK_m, e_extend, extR_t, wYes, startEv, kenD_nx, kenD_rt, kenD_bk, kenD_ct, kenD_ex, outK_n, outK_c, otS_o, rvK_v, rvK_t, rvK_s, rvS_v, rvS_o, slOf, lsFrom, wipeE, restE, List.map_cons, List.map_nil, List.length_cons, List.length_nil, List.replicate, List.append_nil, List.cons_append, List.nil_append, List.getElem?_cons_zero, List.getElem?_cons_succ, List.getElem?_nil, List.set_cons_zero, List.set_cons_succ, List.set_nil, Option.getD_some, Option.getD_none, Option.map_some, Option.map_none, Option.some.injEq, Rs.val.injEq, Rs.tmp.injEq, Rs.slot.injEq, Sl.own.injEq, Sl.val.injEq, PyData.int.injEq, PyData.bool.injEq, PyData.str.injEq, PyData.list.injEq, PyData.tuple.injEq, Prod.mk.injEq, Nat.sub_self, Nat.zero_add, Nat.reduceAdd, Nat.reduceSub, Nat.add_zero, isTy_int_int, isTy_bool_int, isTy_int_bool, isTy_bool_bool, isTy_int_tup, isTy_int_lst, isTy_int_non, isTy_int_str, isTy_tup_tup, isTy_tup_lst, isTy_tup_int, isTy_tup_bool, isTy_tup_non, isTy_tup_str, isTy_lst_lst, isTy_lst_tup, isTy_lst_int, exists_eq_left', exists_eq_left, exists_and_left, exists_eq_right, exists_eq, exists_eq', exists_const, true_and, and_true, and_self, Bool.not_true, Bool.not_false, if_true, if_false, Bool.false_eq_true, reduceIte, reduceCtorEq, List.nodup_nil, decide_eq_true_eq, atI_0, atI_1, atI_2, atI_3, atI_4, atI_5, atI_6, atI_7, atI_8, atI_9, atI_10, atI_11, ixN_3_0, ixN_3_1, ixN_3_2, sh_int, sh_bool, sh_non, and_assoc, nd1, nd_true, eq_self, decide_true, decide_false, Int.cast_ofNat_Int, not_true_eq_false, not_false_eq_true, eqv_ii, eqv_bb, wRaise0, e_raiseG, grK_i, e_raise1, onK_i, e_callX, xa_1, xa_2, xa_3, xa_4, xa_5, xa_6, xa_7, e_many, e_most, e_number, e_row, isLst_l, lsK_l, e_rd, e_br, brS_o, brS_v, arS_o, arS_v, avbK_n, avbK_f, avbK_l, scK_b, scK_i, scK_n, scK_s, e_callS, tmK_t, e_rep, enK_l, e_ienum, wTry, eqv_ss, tpK_v, txK_1, tutK_t, e_repT, e_callT, enTK_t, e_ienumT, r3K_i, e_rng3, e_newD, e_putD, e_lenD, e_listD, dcS_d, dcB_d, pvK_b, pvK_i, tkK_m, tkK_2, e_ssetI, oMinL_c, e_lset, e_lstZ, zlK_c, e_ins, $xs,*] $[$l]?)
def sp_back_of : Spc := fun avs Kr _ => match avs with
  | [.val (.int a), .val (.int m)] => 1 ≤ m ∧ m.natAbs < 2 ^ 8000 ∧ ∀ b, 0 ≤ b → b < m → m ∣ a * b - (Int.gcd a m : Nat) → Kr [] (.val (.int b))
  | _ => False
def w_back_of_T1 : WT :=
  (wTB (wBin oGt (wVar 5) (wC (.int 0))))
def w_back_of_B1 : WS :=
  (wSeq (wSet 6 (wBin oFdiv (wVar 4) (wVar 5)))
    (wSeq (wPar 2 3 (wFCons (wVar 3) (wFCons (wBin oSub (wVar 2) (wBin oMul (wVar 6) (wVar 3))) wFNil)))
    (wPar 4 5 (wFCons (wVar 5) (wFCons (wBin oSub (wVar 4) (wBin oMul (wVar 6) (wVar 5))) wFNil)))))
def w_back_of_L1 : WS :=
  wWhile w_back_of_T1 w_back_of_B1
def w_back_of_R1 : WS :=
  (wRet (wBin oMod (wVar 2) (wVar 1)))
/-- back_of: 0 one, 1 other, 2 before, 3 now, 4 left, 5 right, 6 often -/
def w_back_of : WS :=
  (wSeq (wAsgT (wTup (wFCons (wC (.int 0)) (wFCons (wC (.int 1)) wFNil))) (gT 2 (gCons' (gN 2) (gCons' (gN 3) gNil'))))
    (wSeq (wPar 4 5 (wFCons (wVar 1) (wFCons (wBin oMod (wVar 0) (wVar 1)) wFNil)))
    (wSeq w_back_of_L1
    w_back_of_R1)))

theorem vc_back_of : ∀ avs Kr Kx, avs.length = 2 → sp_back_of avs Kr Kx → lsFrom 0 avs = [] ∧ w_back_of (startEv 7 avs) (kenD [] Kr Kx) := by
  intro avs Kr Kx hl h
  unfold sp_back_of at h
  split at h
  · rename_i a m
    obtain ⟨hm, hb, q⟩ := h
    refine ⟨rfl, ?_⟩
    dsimp? [w_back_of]
    have e0 := Int.emod_nonneg a (show m ≠ 0 by omega)
    have e1 := Int.emod_lt_of_pos a (show 0 < m by omega)
    refine ⟨by decide, by omega, ?_⟩
    refine ⟨fun n e => ∃ (p q l r P Q : Int) (x6 : Sl), e = [.val (.int a), .val (.int m), .val (.int p), .val (.int q), .val (.int l), .val (.int r), x6] ∧ 0 < l ∧ l ≤ m ∧ 0 ≤ r ∧ r < l ∧ m ∣ l - p * a ∧ m ∣ r - q * a ∧ Int.gcd l r = Int.gcd a m ∧
      0 ≤ P ∧ -P ≤ p ∧ p ≤ P ∧ 0 ≤ Q ∧ -Q ≤ q ∧ q ≤ Q ∧ P * r + Q * l ≤ m ∧ n = r.toNat,
      ⟨_, 0, 1, m, a % m, 0, 1, _, rfl, by omega, by omega, e0, e1, ?_, ?_, gcd_mod a m, by omega, by omega, by omega, by omega, by omega, by omega, by omega, rfl⟩, ?_⟩
    · rw [Int.zero_mul, Int.sub_zero]
      exact Int.dvd_refl _
    · rw [Int.one_mul, Int.emod_def, show a - m * (a / m) - a = m * (-(a / m)) by grind]
      exact Int.dvd_mul_right _ _
    rintro n e ⟨p, q0, l, r, P, Q, x6, rfl, l0, lm, r0, rl, d1, d2, hg, P0, p1, p2, Q0, q1, q2, hS, rfl⟩
    dsimp? [w_back_of_T1, w_back_of_B1]
    have Pr : 0 ≤ P * r := Int.mul_nonneg P0 r0
    have Ql : Q ≤ Q * l := by
      have := Int.mul_le_mul_of_nonneg_left (show 1 ≤ l by omega) Q0
      rwa [Int.mul_one] at this
    split
    · rename_i hr
      have o0 : 0 ≤ l / r := Int.ediv_nonneg (by omega) r0
      have o1 : l / r ≤ l := Int.ediv_le_self _ (by omega)
      have em : l - l / r * r = l % r := by rw [Int.emod_def, Int.mul_comm]
      have m0 := Int.emod_nonneg l (show r ≠ 0 by omega)
      have m1 := Int.emod_lt_of_pos l hr
      have bo : (l / r).natAbs < 2 ^ 8000 := nab_lt o0 (show l / r ≤ m by omega) hb
      have bq : q0.natAbs < 2 ^ 8000 := by
        have h1 : q0.natAbs ≤ Q.natAbs := by omega
        exact Nat.lt_of_le_of_lt h1 (nab_lt Q0 (show Q ≤ m by omega) hb)
      have br : r.natAbs < 2 ^ 8000 := nab_lt r0 (show r ≤ m by omega) hb
      have a1 : l / r * q0 ≤ l / r * Q := Int.mul_le_mul_of_nonneg_left q2 o0
      have a2 : l / r * (-Q) ≤ l / r * q0 := Int.mul_le_mul_of_nonneg_left q1 o0
      have a3 : 0 ≤ l / r * Q := Int.mul_nonneg o0 Q0
      have a4 : l / r * (-Q) = -(l / r * Q) := Int.mul_neg _ _
      refine ⟨hr, log_of hr br, mulx_ok bo bq (by decide), mulx_ok bo br (by decide), (l - l / r * r).toNat, by omega, _, _, _, _, Q, P + l / r * Q, _, rfl, hr, by omega, by omega, by omega, d2, ?_, ?_, Q0, q1, q2, by omega, by omega, by omega, ?_, rfl⟩
      · have : l - l / r * r - (p - l / r * q0) * a = (l - p * a) - l / r * (r - q0 * a) := by grind
        rw [this]
        exact Int.dvd_sub d1 (Int.dvd_mul_of_dvd_right d2)
      · rw [em, gcd_mod]
        exact hg
      · have : Q * (l - l / r * r) + (P + l / r * Q) * r = P * r + Q * l := by grind
        rw [this]
        exact hS
    · have : r = 0 := by omega
      subst this
      dsimp? [w_back_of_R1]
      refine ⟨by omega, q _ (Int.emod_nonneg _ (by omega)) (Int.emod_lt_of_pos _ (by omega)) ?_⟩
      rw [Int.gcd_zero_right] at hg
      have hl : l = (Int.gcd a m : Nat) := by omega
      rw [← hl, Int.emod_def, show a * (p - m * (p / m)) - l = -(l - p * a) - m * (a * (p / m)) by grind]
      exact Int.dvd_sub (Int.dvd_neg.mpr d1) (Int.dvd_mul_right _ _)
  · exact h.elim
end Dl
end L2

/-! The plain half, 7: two clocks' meeting, told. -/
namespace L2
namespace Dl
open PySem PySem.Spec PyProof.Rows
local macro_rules | `(tactic| dsimp? [$xs,*] $[$l]?) => `(tactic| simp only [wSeq, wNext, wBreak, wCont, wDrop, wRet, wRetN, wIfS, wSet, wAsgT, e_aug, e_setIx, e_par, e_gN, getS_0, getS_s, setS_0, setS_s, e_var, varK_v, varK_o, varK_u, wC, wBin, rdK_v, rdK_t, rdK_s, rdS_v, rdS_o, rdS_u, fzK_v, fzK_t, fzK_s, fzS_v, fzS_o, fzS_l, fzS_u, e_fz, asg_v, asg_t, asg_s, e_tb, tbK_b, wAnd, wOr, wNot, e_notV, e_andV, e_orV, wBV, wIf, e_neg, intK_i, e_oso, wONo, e_rng1, e_rng2, wFNil, wFCons, wANil, wACons, wTup, wLst, e_callB, rdAllK_n, rdAllK_c, wIsi, e_call, wMNil, wMCons, e_ld, lnsOf, avsK_n, avsK_f, avsK_l, lnS_o, lnS_v, lnS_u, poK_n, poK_c, poS_o, inS_0, inS_s, rsK_v, rsK_o, wSl, e_ownF, e_own0, ownB_o, oS_o, oS_v, oS_u, agS_i, muApp, oAdd_i, oAdd_l, oAdd_t, oAdd_s, oSub_i, oMul_i, oFdiv_i, oMod_i, oPow_i, oShl_i, oShr_i, oOr_i, oAndB_i, oLt_i, oLe_i, oGt_i, oGe_i, oEq_i, oNe_i, oEq, oNe, oIx_l, oIx_t, oLen_l, oLen_t, oInt_i, oInt_b, oMax_i, oMin_i, oList_l, oList_t, oTuple_l, oTuple_t, oSorted_l, oSorted_t, oIs_n, oIsN_n, oIs_b, oIsN_b, isNone_n, isNone_t, isNone_l, isNone_i, isNone_s, isNone_b, oSl_l, oSl_t, oIn, gT_t, gC_c, gNil', e_iseq, sqK_l, sqK_t, e_isq, sq2K_l, sq2K_t, e_sset, ssK_l, ssK_t, e_chain, e_lr1, e_lr2, wRev, rvD_l, rvD_t, e_in1, e_in2, negB_f, negB_t, wIZip, zpK_l, zpK_t, zpK_m, e_extend, extR_t, wYes, startEv, kenD_nx, kenD_rt, kenD_bk, kenD_ct, kenD_ex, outK_n, outK_c, otS_o, rvK_v, rvK_t, rvK_s, rvS_v, rvS_o, slOf, lsFrom, wipeE, restE, List.map_cons, List.map_nil, List.length_cons, List.length_nil, List.replicate, List.append_nil, List.cons_append, List.nil_append, List.getElem?_cons_zero, List.getElem?_cons_succ, List.getElem?_nil, List.set_cons_zero, List.set_cons_succ, List.set_nil, Option.getD_some, Option.getD_none, Option.map_some, Option.map_none, Option.some.injEq, Rs.val.injEq, Rs.tmp.injEq, Rs.slot.injEq, Sl.own.injEq, Sl.val.injEq, PyData.int.injEq, PyData.bool.injEq, PyData.str.injEq, PyData.list.injEq, PyData.tuple.injEq, Prod.mk.injEq, Nat.sub_self, Nat.zero_add, Nat.reduceAdd, Nat.reduceSub, Nat.add_zero, isTy_int_int, isTy_bool_int, isTy_int_bool, isTy_bool_bool, isTy_int_tup, isTy_int_lst, isTy_int_non, isTy_int_str, isTy_tup_tup, isTy_tup_lst, isTy_tup_int, isTy_tup_bool, isTy_tup_non, isTy_tup_str, isTy_lst_lst, isTy_lst_tup, isTy_lst_int, exists_eq_left', exists_eq_left, exists_and_left, exists_eq_right, exists_eq, exists_eq', exists_const, true_and, and_true, and_self, Bool.not_true, Bool.not_false, if_true, if_false, Bool.false_eq_true, reduceIte, reduceCtorEq, List.nodup_nil, decide_eq_true_eq, atI_0, atI_1, atI_2, atI_3, atI_4, atI_5, atI_6, atI_7, atI_8, atI_9, atI_10, atI_11, ixN_3_0, ixN_3_1, ixN_3_2, sh_int, sh_bool, sh_non, and_assoc, nd1, nd_true, eq_self, decide_true, decide_false, Int.cast_ofNat_Int, not_true_eq_false, not_false_eq_true, eqv_ii, eqv_bb, wRaise0, e_raiseG, grK_i, e_raise1, onK_i, e_callX, xa_1, xa_2, xa_3, xa_4, xa_5, xa_6, xa_7, e_many, e_most, e_number, e_row, isLst_l, lsK_l, e_rd, e_br, brS_o, brS_v, arS_o, arS_v, avbK_n, avbK_f, avbK_l, scK_b, scK_i, scK_n, scK_s, e_callS, tmK_t, e_rep, enK_l, e_ienum, wTry, eqv_ss, tpK_v, txK_1, tutK_t, e_repT, e_callT, enTK_t, e_ienumT, r3K_i, e_rng3, e_newD, e_putD, e_lenD, e_listD, dcS_d, dcB_d, pvK_b, pvK_i, tkK_m, tkK_2, e_ssetI, oMinL_c, e_lset, e_lstZ, zlK_c, e_ins, $xs,*] $[$l]?)
/-- x is a ring of c -/
def Rg (c : Int × Int) (x : Int) : Prop := c.1 ∣ x - c.2
def Meets (c d : Int × Int) (x : Int) : Prop := Rg c x ∧ Rg d x
def lcm2 (c d : Int × Int) : Int := (Int.lcm c.1 d.1 : Nat)
def CkB (c : Int × Int) : Prop := 1 ≤ c.1 ∧ c.1.natAbs < 2 ^ 3000 ∧ c.2.natAbs < 2 ^ 3000
theorem CkOk.b {m : Int} {c : Int × Int} (h : CkOk m c) (hm : m ≤ 2 ^ 60) : CkB c := by
  obtain ⟨h1, h2, h3, h4⟩ := h
  have e : (2 : Nat) ^ 60 < 2 ^ 3000 := by decide +kernel
  exact ⟨h1, Nat.lt_of_le_of_lt (show c.1.natAbs ≤ 2 ^ 60 by omega) e, Nat.lt_of_le_of_lt (show c.2.natAbs ≤ 2 ^ 60 by omega) e⟩
theorem lcm2_pos {c d : Int × Int} (hc : 1 ≤ c.1) (hd : 1 ≤ d.1) : 0 < lcm2 c d := by
  have := Int.lcm_pos (show c.1 ≠ 0 by omega) (show d.1 ≠ 0 by omega)
  unfold lcm2
  omega
theorem dvd_lcm2 {c d : Int × Int} {x : Int} (h1 : c.1 ∣ x) (h2 : d.1 ∣ x) : lcm2 c d ∣ x := by
  have a1 : c.1 ∣ ((x.natAbs : Nat) : Int) := Int.dvd_natAbs.mpr h1
  have a2 : d.1 ∣ ((x.natAbs : Nat) : Int) := Int.dvd_natAbs.mpr h2
  exact Int.dvd_natAbs.mp (Int.natCast_dvd_natCast.mpr (Int.lcm_dvd a1 a2))
theorem lcm2_l (c d : Int × Int) : c.1 ∣ lcm2 c d := Int.dvd_lcm_left _ _
theorem lcm2_r (c d : Int × Int) : d.1 ∣ lcm2 c d := Int.dvd_lcm_right _ _
/-- two numbers below a round that leave alike are one -/
theorem dvd_small {m x y : Int} (h : m ∣ x - y) (x0 : 0 ≤ x) (x1 : x < m) (y0 : 0 ≤ y) (y1 : y < m) : x = y := by
  have h1 : m ∣ y - x := by
    have := Int.dvd_neg.mpr h
    rwa [Int.neg_sub] at this
  by_cases c : x - y = 0
  · omega
  · by_cases c2 : 0 < x - y
    · have := Int.le_of_dvd c2 h
      omega
    · have := Int.le_of_dvd (show 0 < y - x by omega) h1
      omega
theorem Meets.one {c d : Int × Int} {x y : Int} (hx : Meets c d x) (hy : Meets c d y) (x0 : 0 ≤ x) (x1 : x < lcm2 c d) (y0 : 0 ≤ y) (y1 : y < lcm2 c d) : x = y := by
  refine dvd_small (dvd_lcm2 ?_ ?_) x0 x1 y0 y1
  · have := Int.dvd_sub hx.1 hy.1
    rwa [show x - c.2 - (y - c.2) = x - y by omega] at this
  · have := Int.dvd_sub hx.2 hy.2
    rwa [show x - d.2 - (y - d.2) = x - y by omega] at this
theorem Rg.mod {c : Int × Int} {x m : Int} (h : c.1 ∣ m) : Rg c (x % m) ↔ Rg c x := by
  unfold Rg
  have h2 : c.1 ∣ m * (x / m) := Int.dvd_trans h (Int.dvd_mul_right _ _)
  have e : x % m - c.2 = (x - c.2) - m * (x / m) := by rw [Int.emod_def]; omega
  rw [e]
  constructor
  · intro z
    have := Int.dvd_add z h2
    rwa [Int.sub_add_cancel] at this
  · intro z
    exact Int.dvd_sub z h2
/-- what meet_of tells, into K -/
def MeetK (c d : Int × Int) (K : PyData → Prop) : Prop := ((∀ x, ¬ Meets c d x) → K .none) ∧ ∀ x, Meets c d x → 0 ≤ x → x < lcm2 c d → K (ck (lcm2 c d, x))
def sp_meet_of : Spc := fun avs Kr _ => match avs with
  | [.val (.tuple [.int s1, .int r1]), .val (.tuple [.int s2, .int r2])] => CkB (s1, r1) ∧ CkB (s2, r2) ∧ MeetK (s1, r1) (s2, r2) fun d => Kr [] (.val d)
  | _ => False
/-- meet_of: 0 one, 1 other, 2 share, 3 step, 4 turns -/
def w_meet_of : WS :=
  (wSeq (wSet 2 (wCall 2 sp_divisor_of (wMCons (wBin oIx (wVar 0) (wC (.int 0))) (wMCons (wBin oIx (wVar 1) (wC (.int 0))) wMNil))))
    (wSeq (wIfS (wTB (wBin oNe (wBin oMod (wBin oSub (wBin oIx (wVar 1) (wC (.int 1))) (wBin oIx (wVar 0) (wC (.int 1)))) (wVar 2)) (wC (.int 0)))) (wRet (wC .none)) wNext)
    (wSeq (wSet 3 (wBin oMul (wBin oFdiv (wBin oIx (wVar 0) (wC (.int 0))) (wVar 2)) (wBin oIx (wVar 1) (wC (.int 0)))))
    (wSeq (wSet 4 (wBin oMul (wBin oFdiv (wBin oSub (wBin oIx (wVar 1) (wC (.int 1))) (wBin oIx (wVar 0) (wC (.int 1)))) (wVar 2)) (wCall 2 sp_back_of (wMCons (wBin oFdiv (wBin oIx (wVar 0) (wC (.int 0))) (wVar 2)) (wMCons (wBin oFdiv (wBin oIx (wVar 1) (wC (.int 0))) (wVar 2)) wMNil)))))
    (wRet (wTup (wFCons (wVar 3) (wFCons (wBin oMod (wBin oAdd (wBin oIx (wVar 0) (wC (.int 1))) (wBin oMul (wBin oIx (wVar 0) (wC (.int 0))) (wVar 4))) (wVar 3)) wFNil))))))))

theorem vc_meet_of : ∀ avs Kr Kx, avs.length = 2 → sp_meet_of avs Kr Kx → lsFrom 0 avs = [] ∧ w_meet_of (startEv 5 avs) (kenD [] Kr Kx) := by
  intro avs Kr Kx hl h
  unfold sp_meet_of at h
  split at h
  · rename_i s1 r1 s2 r2
    obtain ⟨⟨a1, a2, a3⟩, ⟨b1, b2, b3⟩, q1, q2⟩ := h
    have a1 : 1 ≤ s1 := a1
    have b1 : 1 ≤ s2 := b1
    have a2 : s1.natAbs < 2 ^ 3000 := a2
    have b2 : s2.natAbs < 2 ^ 3000 := b2
    have a3 : r1.natAbs < 2 ^ 3000 := a3
    have b3 : r2.natAbs < 2 ^ 3000 := b3
    have up : (2 : Nat) ^ 3000 < 2 ^ 8000 := by decide +kernel
    refine ⟨rfl, ?_⟩
    unfold w_meet_of
    refine seq_cut fun R hR => ?_
    dsimp? [sp_divisor_of]
    refine ⟨by omega, by omega, hR _ ?_⟩
    have hg : 0 < Int.gcd s1 s2 := Int.gcd_pos_of_ne_zero_left _ (by omega)
    have hgl : (Int.gcd s1 s2 : Int) ≤ s1 := Int.gcd_le_left _ (by omega)
    obtain ⟨a, ea⟩ : (Int.gcd s1 s2 : Int) ∣ s1 := Int.gcd_dvd_left _ _
    obtain ⟨b, eb⟩ : (Int.gcd s1 s2 : Int) ∣ s2 := Int.gcd_dvd_right _ _
    have hgm := Int.gcd_mul_left (Int.gcd s1 s2 : Nat) a b
    rw [← ea, ← eb] at hgm
    have hle := lcm_eq (show 0 < s1 by omega) (show 0 < s2 by omega)
    have hlc : lcm2 (s1, r1) (s2, r2) = (Int.lcm s1 s2 : Nat) := rfl
    generalize hG : Int.gcd s1 s2 = g at *
    have g1 : ((g : Int)).natAbs = g := Int.natAbs_natCast g
    rw [g1] at hgm
    have hab : Int.gcd a b = 1 := by
      have : g * Int.gcd a b = g * 1 := by rw [← hgm, Nat.mul_one]
      exact Nat.eq_of_mul_eq_mul_left hg this
    have ea2 : s1 / (g : Int) = a := by rw [ea]; exact Int.mul_ediv_cancel_left _ (by omega)
    have eb2 : s2 / (g : Int) = b := by rw [eb]; exact Int.mul_ediv_cancel_left _ (by omega)
    have hL : a * s2 = lcm2 (s1, r1) (s2, r2) := by
      rw [hlc, ← hle, show s1 * s2 = (g : Int) * (a * s2) by rw [← Int.mul_assoc, ← ea]]
      exact (Int.mul_ediv_cancel_left _ (by omega)).symm
    have ha0 : 0 < a := by
      rw [ea] at a1
      exact Int.pos_of_mul_pos_right (show 0 < (g : Int) * a by omega) (by omega)
    have hb0 : 0 < b := by
      rw [eb] at b1
      exact Int.pos_of_mul_pos_right (show 0 < (g : Int) * b by omega) (by omega)
    have hL0 := lcm2_pos (c := (s1, r1)) (d := (s2, r2)) a1 b1
    have gb : ((g : Int)).natAbs < 2 ^ 8000 := nab_lt (by omega) hgl (by omega)
    have ba : a.natAbs < 2 ^ 3000 := nab_lt (y := s1) (by omega) (by
      have := Int.mul_le_mul_of_nonneg_right (show 1 ≤ (g : Int) by omega) (show 0 ≤ a by omega)
      rw [← ea, Int.one_mul] at this
      exact this) a2
    have bb : b.natAbs < 2 ^ 3000 := nab_lt (y := s2) (by omega) (by
      have := Int.mul_le_mul_of_nonneg_right (show 1 ≤ (g : Int) by omega) (show 0 ≤ b by omega)
      rw [← eb, Int.one_mul] at this
      exact this) b2
    refine seq_cut fun R hR => ?_
    dsimp? []
    refine ⟨by omega, ?_⟩
    split
    · rename_i hne
      refine q1 fun x ⟨h1, h2⟩ => hne ?_
      have h1 : s1 ∣ x - r1 := h1
      have h2 : s2 ∣ x - r2 := h2
      have d1 : (g : Int) ∣ x - r1 := Int.dvd_trans ⟨a, ea⟩ h1
      have d2 : (g : Int) ∣ x - r2 := Int.dvd_trans ⟨b, eb⟩ h2
      have := Int.dvd_sub d1 d2
      rw [show x - r1 - (x - r2) = r2 - r1 by omega] at this
      exact Int.emod_eq_zero_of_dvd this
    · rename_i heq
      have heq : (r2 - r1) % (g : Int) = 0 := Decidable.not_not.mp heq
      obtain ⟨t, et⟩ := Int.dvd_of_emod_eq_zero heq
      have et2 : (r2 - r1) / (g : Int) = t := by rw [et]; exact Int.mul_ediv_cancel_left _ (by omega)
      refine hR _ ?_
      refine seq_cut fun R hR => ?_
      dsimp? []
      rw [ea2]
      have bL := wide_lt ba b2
      refine ⟨by omega, log_of (by omega) gb, mulx_ok ba b2 (by decide), hR _ ?_⟩
      rw [hL]
      refine seq_cut fun R hR => ?_
      dsimp? [sp_back_of]
      rw [ea2, eb2, et2]
      have tb : t.natAbs < 2 ^ 3001 := by
        have h1 : t.natAbs ≤ (r2 - r1).natAbs := by
          rw [et, Int.natAbs_mul, g1]
          have := Nat.mul_le_mul_right t.natAbs hg
          simpa using this
        have h2 : (2 : Nat) ^ 3001 = 2 ^ 3000 + 2 ^ 3000 := by decide +kernel
        rw [h2]
        omega
      refine ⟨by omega, log_of (by omega) gb, by omega, log_of (by omega) gb, by omega, log_of (by omega) gb, by omega, by omega, fun k k0 k1 kd => ?_⟩
      rw [hab] at kd
      have kb : k.natAbs < 2 ^ 3000 := nab_lt k0 (show k ≤ b by omega) bb
      have tkb := wide_lt tb kb
      refine ⟨mulx_ok tb kb (by decide), hR _ ?_⟩
      rw [← hL] at hL0
      dsimp? []
      refine ⟨mulx_ok (a := 3000) (b := 3001 + 3000) a2 tkb (by decide), by rw [← hL]; exact hL0, by decide, ?_⟩
      refine q2 _ ⟨?_, ?_⟩ (Int.emod_nonneg _ (by omega)) (Int.emod_lt_of_pos _ (by omega))
      · refine (Rg.mod (lcm2_l (s1, r1) (s2, r2))).mpr ?_
        show s1 ∣ r1 + s1 * (t * k) - r1
        rw [show r1 + s1 * (t * k) - r1 = s1 * (t * k) by omega]
        exact Int.dvd_mul_right _ _
      · refine (Rg.mod (c := (s2, r2)) (lcm2_r (s1, r1) (s2, r2))).mpr ?_
        show s2 ∣ r1 + s1 * (t * k) - r2
        obtain ⟨u, eu⟩ := kd
        have eu : a * k - 1 = b * u := eu
        have : r1 + s1 * (t * k) - r2 = s2 * (t * u) := by
          have h2 : r1 = r2 - (g : Int) * t := by omega
          have h3 : a * k = b * u + 1 := by omega
          calc r1 + s1 * (t * k) - r2 = (g : Int) * t * (a * k) - (g : Int) * t := by rw [h2]; conv => lhs; rw [ea]
                                                                                      grind
            _ = (g : Int) * t * (b * u + 1) - (g : Int) * t := by rw [h3]
            _ = s2 * (t * u) := by conv => rhs; rw [eb]
                                   grind
        rw [this]
        exact Int.dvd_mul_right _ _
  · exact h.elim
end Dl
end L2

/-! The plain half, 8: loops over ranges; clash_of; the laws' own rounds. -/
namespace L2
namespace Dl
open PySem PySem.Spec PyProof.Rows
local macro_rules | `(tactic| dsimp? [$xs,*] $[$l]?) => `(tactic| simp only [wSeq, wNext, wBreak, wCont, wDrop, wRet, wRetN, wIfS, wSet, wAsgT, e_aug, e_setIx, e_par, e_gN, getS_0, getS_s, setS_0, setS_s, e_var, varK_v, varK_o, varK_u, wC, wBin, rdK_v, rdK_t, rdK_s, rdS_v, rdS_o, rdS_u, fzK_v, fzK_t, fzK_s, fzS_v, fzS_o, fzS_l, fzS_u, e_fz, asg_v, asg_t, asg_s, e_tb, tbK_b, wAnd, wOr, wNot, e_notV, e_andV, e_orV, wBV, wIf, e_neg, intK_i, e_oso, wONo, e_rng1, e_rng2, wFNil, wFCons, wANil, wACons, wTup, wLst, e_callB, rdAllK_n, rdAllK_c, wIsi, e_call, wMNil, wMCons, e_ld, lnsOf, avsK_n, avsK_f, avsK_l, lnS_o, lnS_v, lnS_u, poK_n, poK_c, poS_o, inS_0, inS_s, rsK_v, rsK_o, wSl, e_ownF, e_own0, ownB_o, oS_o, oS_v, oS_u, agS_i, muApp, oAdd_i, oAdd_l, oAdd_t, oAdd_s, oSub_i, oMul_i, oFdiv_i, oMod_i, oPow_i, oShl_i, oShr_i, oOr_i, oAndB_i, oLt_i, oLe_i, oGt_i, oGe_i, oEq_i, oNe_i, oEq, oNe, oIx_l, oIx_t, oLen_l, oLen_t, oInt_i, oInt_b, oMax_i, oMin_i, oList_l, oList_t, oTuple_l, oTuple_t, oSorted_l, oSorted_t, oIs_n, oIsN_n, oIs_b, oIsN_b, isNone_n, isNone_t, isNone_l, isNone_i, isNone_s, isNone_b, oSl_l, oSl_t, oIn, gT_t, gC_c, gNil', e_iseq, sqK_l, sqK_t, e_isq, sq2K_l, sq2K_t, e_sset, ssK_l, ssK_t, e_chain, e_lr1, e_lr2, wRev, rvD_l, rvD_t, e_in1, e_in2, negB_f, negB_t, wIZip, zpK_l, zpK_t, zpK_m, e_extend, extR_t, wYes, startEv, kenD_nx, kenD_rt, kenD_bk, kenD_ct, kenD_ex, outK_n, outK_c, otS_o, rvK_v, rvK_t, rvK_s, rvS_v, rvS_o, slOf, lsFrom, wipeE, restE, List.map_cons, List.map_nil, List.length_cons, List.length_nil, List.replicate, List.append_nil, List.cons_append, List.nil_append, List.getElem?_cons_zero, List.getElem?_cons_succ, List.getElem?_nil, List.set_cons_zero, List.set_cons_succ, List.set_nil, Option.getD_some, Option.getD_none, Option.map_some, Option.map_none, Option.some.injEq, Rs.val.injEq, Rs.tmp.injEq, Rs.slot.injEq, Sl.own.injEq, Sl.val.injEq, PyData.int.injEq, PyData.bool.injEq, PyData.str.injEq, PyData.list.injEq, PyData.tuple.injEq, Prod.mk.injEq, Nat.sub_self, Nat.zero_add, Nat.reduceAdd, Nat.reduceSub, Nat.add_zero, isTy_int_int, isTy_bool_int, isTy_int_bool, isTy_bool_bool, isTy_int_tup, isTy_int_lst, isTy_int_non, isTy_int_str, isTy_tup_tup, isTy_tup_lst, isTy_tup_int, isTy_tup_bool, isTy_tup_non, isTy_tup_str, isTy_lst_lst, isTy_lst_tup, isTy_lst_int, exists_eq_left', exists_eq_left, exists_and_left, exists_eq_right, exists_eq, exists_eq', exists_const, true_and, and_true, and_self, Bool.not_true, Bool.not_false, if_true, if_false, Bool.false_eq_true, reduceIte, reduceCtorEq, List.nodup_nil, decide_eq_true_eq, atI_0, atI_1, atI_2, atI_3, atI_4, atI_5, atI_6, atI_7, atI_8, atI_9, atI_10, atI_11, ixN_3_0, ixN_3_1, ixN_3_2, sh_int, sh_bool, sh_non, and_assoc, nd1, nd_true, eq_self, decide_true, decide_false, Int.cast_ofNat_Int, not_true_eq_false, not_false_eq_true, eqv_ii, eqv_bb, wRaise0, e_raiseG, grK_i, e_raise1, onK_i, e_callX, xa_1, xa_2, xa_3, xa_4, xa_5, xa_6, xa_7, e_many, e_most, e_number, e_row, isLst_l, lsK_l, e_rd, e_br, brS_o, brS_v, arS_o, arS_v, avbK_n, avbK_f, avbK_l, scK_b, scK_i, scK_n, scK_s, e_callS, tmK_t, e_rep, enK_l, e_ienum, wTry, eqv_ss, tpK_v, txK_1, tutK_t, e_repT, e_callT, enTK_t, e_ienumT, r3K_i, e_rng3, e_newD, e_putD, e_lenD, e_listD, dcS_d, dcB_d, pvK_b, pvK_i, tkK_m, tkK_2, e_ssetI, oMinL_c, e_lset, e_lstZ, zlK_c, e_ins, $xs,*] $[$l]?)
theorem each_rng {sl : Nat} {t : WS} {k : Ken} {n : Nat} (f : Nat → PyData) (J : Nat → Ev → Prop) (fin : ∀ e, J n e → k.nx e)
    (step : ∀ (i : Nat) e (R : Ev → Prop), i < n → J i e → (∀ e2, J (i + 1) e2 → R e2) → t (e.set sl (.val (f i))) { k with nx := R, ct := R, bk := k.nx }) :
    ∀ (c a : Nat) e, a + c = n → J a e → wEach (gN sl) t ((List.range' a c).map f) e k
  | 0, a, e, h, hJ => by
    have : a = n := by omega
    subst this
    exact fin e hJ
  | c + 1, a, e, h, hJ => by
    rw [List.range'_succ]
    exact step a e _ (by omega) hJ fun e2 h2 => each_rng f J fin step c (a + 1) e2 (by omega) h2
/-- for x in range(n) -/
theorem each_range1 {sl : Nat} {t : WS} {k : Ken} {env : Ev} {n : Nat} (J : Nat → Ev → Prop) (h0 : J 0 env) (fin : ∀ e, J n e → k.nx e)
    (step : ∀ (i : Nat) e (R : Ev → Prop), i < n → J i e → (∀ e2, J (i + 1) e2 → R e2) → t (e.set sl (.val (.int (i : Int)))) { k with nx := R, ct := R, bk := k.nx }) :
    wEach (gN sl) t ((List.range n).map fun (i : Nat) => PyData.int (i : Int)) env k := by
  rw [List.range_eq_range']
  exact each_rng (fun i => .int (i : Int)) J fin step n 0 env (by omega) h0
/-- for x in range(lo, ..) -/
theorem each_range2 {sl : Nat} {t : WS} {k : Ken} {env : Ev} {lo : Int} {n : Nat} (J : Nat → Ev → Prop) (h0 : J 0 env) (fin : ∀ e, J n e → k.nx e)
    (step : ∀ (i : Nat) e (R : Ev → Prop), i < n → J i e → (∀ e2, J (i + 1) e2 → R e2) → t (e.set sl (.val (.int (lo + i)))) { k with nx := R, ct := R, bk := k.nx }) :
    wEach (gN sl) t ((List.range n).map fun (i : Nat) => PyData.int (lo + i)) env k := by
  rw [List.range_eq_range']
  exact each_rng (fun i => .int (lo + i)) J fin step n 0 env (by omega) h0
theorem atI_ck {cs : List (Int × Int)} {i : Nat} {c : Int × Int} (h : cs[i]? = some c) : atI (cks cs) (i : Int) = some (ck c) := atI_nat (by rw [cks, List.getElem?_map, h]; rfl)
/-- the first pair that meets, into K -/
def PairsK (cs : List (Int × Int)) (K : PyData → Prop) : Prop :=
  ((∀ (i j : Nat) ci cj x, i < j → cs[i]? = some ci → cs[j]? = some cj → ¬ Meets ci cj x) → K .none) ∧
  ∀ (i j : Nat) ci cj x, i < j → cs[i]? = some ci → cs[j]? = some cj → Meets ci cj x → 0 ≤ x → x < lcm2 ci cj →
    (∀ (i' j' : Nat) ci' cj' x', i' < j' → cs[i']? = some ci' → cs[j']? = some cj' → (i' < i ∨ (i' = i ∧ j' < j)) → ¬ Meets ci' cj' x') → K (.tuple [.int i, .int j, .int x])
def sp_clash_of : Spc := fun avs Kr _ => match avs with
  | [.val (.tuple ds)] => ∃ cs, ds = cks cs ∧ (∀ c ∈ cs, CkB c) ∧ cs.length ≤ 100000 ∧ PairsK cs fun d => Kr [] (.val d)
  | _ => False
def w_clash_of_B1 : WS :=
  (wSeq (wSet 3 (wCall 2 sp_meet_of (wMCons (wBin oIx (wVar 0) (wVar 1)) (wMCons (wBin oIx (wVar 0) (wVar 2)) wMNil))))
    (wIfS (wTB (wBin oIsNot (wVar 3) (wC .none))) (wRet (wTup (wFCons (wVar 1) (wFCons (wVar 2) (wFCons (wBin oIx (wVar 3) (wC (.int 1))) wFNil))))) wNext))
def w_clash_of_L1 : WS :=
  wFor (wIRng2 (wBin oAdd (wVar 1) (wC (.int 1))) (wCallB oLen (wACons (wVar 0) wANil))) (gN 2) w_clash_of_B1
def w_clash_of_B2 : WS :=
  w_clash_of_L1
def w_clash_of_L2 : WS :=
  wFor (wIRng1 (wCallB oLen (wACons (wVar 0) wANil))) (gN 1) w_clash_of_B2
def w_clash_of_R1 : WS :=
  (wRet (wC .none))
/-- clash_of: 0 clocks, 1 place, 2 other, 3 met -/
def w_clash_of : WS :=
  (wSeq w_clash_of_L2
    w_clash_of_R1)

theorem vc_clash_of : ∀ avs Kr Kx, avs.length = 1 → sp_clash_of avs Kr Kx → lsFrom 0 avs = [] ∧ w_clash_of (startEv 4 avs) (kenD [] Kr Kx) := by
  intro avs Kr Kx hl h
  unfold sp_clash_of at h
  split at h
  · obtain ⟨cs, rfl, hc, hlen, q1, q2⟩ := h
    refine ⟨rfl, ?_⟩
    dsimp? [w_clash_of, w_clash_of_L2, wFor, w_clash_of_R1]
    refine ⟨by omega, by rw [List.length_map]; omega, ?_⟩
    rw [List.length_map, Int.toNat_natCast]
    refine each_range1 (fun i e => (∃ x1 x2 x3, e = [.val (.tuple (cks cs)), x1, x2, x3]) ∧ ∀ (i' j' : Nat) ci' cj' x', i' < j' → cs[i']? = some ci' → cs[j']? = some cj' → i' < i → ¬ Meets ci' cj' x') ⟨⟨_, _, _, rfl⟩, fun _ _ _ _ _ _ _ _ h => absurd h (Nat.not_lt_zero _)⟩ ?_ ?_
    · rintro e ⟨⟨x1, x2, x3, rfl⟩, hno⟩
      refine q1 fun i j ci cj x h1 h2 h3 => hno i j ci cj x h1 h2 h3 ?_
      exact (List.getElem?_eq_some_iff.mp h2).1
    · rintro i e R hi ⟨⟨x1, x2, x3, rfl⟩, hno⟩ ih
      obtain ⟨ci, hci⟩ : ∃ ci, cs[i]? = some ci := ⟨cs[i], List.getElem?_eq_getElem hi⟩
      dsimp? [w_clash_of_B2, w_clash_of_L1, wFor]
      rw [List.length_map]
      refine ⟨by omega, by omega, by omega, by omega, ?_⟩
      refine each_range2 (fun j e => (∃ x2 x3, e = [.val (.tuple (cks cs)), .val (.int i), x2, x3]) ∧ ∀ (j' : Nat) cj' x', i < j' → cs[j']? = some cj' → j' < i + 1 + j → ¬ Meets ci cj' x') ⟨⟨_, _, rfl⟩, fun _ _ _ h1 _ h2 => by omega⟩ ?_ ?_
      · rintro e ⟨⟨x2, x3, rfl⟩, hno2⟩
        refine ih _ ⟨⟨_, _, _, rfl⟩, fun i' j' ci' cj' x' h1 h2 h3 h4 => ?_⟩
        by_cases c : i' < i
        · exact hno i' j' ci' cj' x' h1 h2 h3 c
        · have : i' = i := by omega
          subst this
          rw [hci] at h2
          cases h2
          refine hno2 j' cj' x' h1 h3 ?_
          have := (List.getElem?_eq_some_iff.mp h3).1
          omega
      · rintro j e R2 hj ⟨⟨x2, x3, rfl⟩, hno2⟩ ih2
        have hjl : i + 1 + j < cs.length := by omega
        obtain ⟨cj, hcj⟩ : ∃ cj, cs[i + 1 + j]? = some cj := ⟨cs[i + 1 + j], List.getElem?_eq_getElem hjl⟩
        have ej : ((i : Int) + 1 + (j : Int)) = ((i + 1 + j : Nat) : Int) := by omega
        rw [ej]
        unfold w_clash_of_B1
        refine seq_cut fun R3 hR3 => ?_
        dsimp? [atI_ck hci, atI_ck hcj, ck, sp_meet_of]
        refine ⟨hc ci (List.mem_of_getElem? hci), hc cj (List.mem_of_getElem? hcj), fun hn => ?_, fun x hx x0 x1 => ?_⟩
        · refine hR3 _ ?_
          dsimp? []
          refine ih2 _ ⟨⟨_, _, rfl⟩, fun j' cj' x' h1 h2 h3 => ?_⟩
          by_cases c : j' < i + 1 + j
          · exact hno2 j' cj' x' h1 h2 c
          · have : j' = i + 1 + j := by omega
            subst this
            rw [hcj] at h2
            cases h2
            exact hn x'
        · refine hR3 _ ?_
          dsimp? [ck]
          refine ⟨by decide, ?_⟩
          refine q2 i (i + 1 + j) ci cj x (by omega) hci hcj hx x0 x1 fun i' j' ci' cj' x' h1 h2 h3 h4 => ?_
          rcases h4 with h4 | ⟨rfl, h4⟩
          · exact hno i' j' ci' cj' x' h1 h2 h3 h4
          · rw [hci] at h2
            cases h2
            exact hno2 j' cj' x' h1 h3 h4
  · exact h.elim
end Dl
end L2

/-! The plain half, 9: the laws' own gcd, round, rings. -/
namespace L2
namespace Dl
open PySem PySem.Spec PyProof.Rows
end Dl
end L2

/-! The plain half, 10: shapes and likeness of data; loops over clocks. -/
namespace L2
namespace Dl
open PySem PySem.Spec PyProof.Rows
/-- layable, of depth at most n -/
def ShN (n : Nat) (d : PyData) : Prop := d.canLay0 = true ∧ d.depth ≤ n
theorem shAll {n : Nat} : ∀ {ds : List PyData}, (∀ d ∈ ds, ShN n d) → PyData.canLayAll0 ds = true ∧ PyData.depthAll ds ≤ n
  | [], _ => ⟨rfl, Nat.zero_le _⟩
  | d :: ds, h => by
    obtain ⟨h1, h2⟩ := h d List.mem_cons_self
    obtain ⟨h3, h4⟩ := shAll fun e he => h e (List.mem_cons_of_mem _ he)
    refine ⟨?_, ?_⟩
    · show (d.canLay0 && PyData.canLayAll0 ds) = true
      rw [h1, h3]; rfl
    · show max d.depth (PyData.depthAll ds) ≤ n
      omega
theorem ShN.lst {n : Nat} {ds : List PyData} (h : ∀ d ∈ ds, ShN n d) : ShN (n + 1) (.list ds) := by
  obtain ⟨h1, h2⟩ := shAll h
  exact ⟨h1, Nat.succ_le_succ h2⟩
theorem ShN.tup {n : Nat} {ds : List PyData} (h : ∀ d ∈ ds, ShN n d) : ShN (n + 1) (.tuple ds) := by
  obtain ⟨h1, h2⟩ := shAll h
  exact ⟨h1, Nat.succ_le_succ h2⟩
theorem ShN.mono {m n : Nat} {d : PyData} (h : ShN m d) (hm : m ≤ n) : ShN n d := ⟨h.1, Nat.le_trans h.2 hm⟩
theorem ShN.int (i : Int) : ShN 0 (.int i) := ⟨rfl, Nat.le_refl _⟩
theorem ShN.bool (i : Bool) : ShN 0 (.bool i) := ⟨rfl, Nat.le_refl _⟩
theorem ShN.none : ShN 0 .none := ⟨rfl, Nat.le_refl _⟩
theorem ShN.ck (c : Int × Int) : ShN 1 (ck c) := ⟨rfl, Nat.le_refl _⟩
theorem ShN.sh {n : Nat} {d : PyData} (h : ShN n d) (hn : n ≤ 64) : SeqAt.shaped d = true := by
  unfold SeqAt.shaped
  rw [h.1]
  have := h.2
  simp only [Bool.true_and, decide_eq_true_eq]
  omega
theorem ShN.cks (cs : List (Int × Int)) : ∀ d ∈ cks cs, ShN 1 d := fun d h => by
  obtain ⟨c, _, rfl⟩ := List.mem_map.mp h
  exact ShN.ck c
theorem ShN.ints (ns : List Int) : ∀ d ∈ ns.map PyData.int, ShN 0 d := fun d h => by
  obtain ⟨c, _, rfl⟩ := List.mem_map.mp h
  exact ShN.int c
theorem sh_lck (cs : List (Int × Int)) : SeqAt.shaped (.list (cks cs)) = true := (ShN.lst (ShN.cks cs)).sh (by decide)
theorem sh_lin (ns : List Int) : SeqAt.shaped (.list (ns.map .int)) = true := (ShN.lst (ShN.ints ns)).sh (by decide)
/-- no bool within -/
def io : PyData → Bool
  | .none | .int _ | .str _ => true
  | .list xs | .tuple xs => ioAll xs
  | _ => false
where ioAll : List PyData → Bool
  | [] => true
  | x :: xs => io x && ioAll xs
theorem io_all {ds : List PyData} (h : ∀ d ∈ ds, io d = true) : io.ioAll ds = true := by
  induction ds with
  | nil => rfl
  | cons d ds ih =>
    show (io d && io.ioAll ds) = true
    rw [h d List.mem_cons_self, ih fun e he => h e (List.mem_cons_of_mem _ he)]
    rfl
mutual
theorem eqv_io : ∀ d e : PyData, io d = true → io e = true → (PyData.eqv d e = true ↔ d = e)
  | .none, e, _, h => by cases e <;> simp [PyData.eqv]
  | .bool _, e, h, _ => by simp [io] at h
  | .int i, e, _, h => by cases e <;> first | (simp [PyData.eqv]; done) | (simp [io] at h)
  | .str i, e, _, h => by cases e <;> first | (simp [PyData.eqv]; done) | (simp [io] at h)
  | .list xs, e, h1, h => by
    cases e with
    | list ys =>
      rw [PyData.eqv, eqv_ioAll xs ys h1 h]
      simp
    | _ => simp [PyData.eqv]
  | .tuple xs, e, h1, h => by
    cases e with
    | tuple ys =>
      rw [PyData.eqv, eqv_ioAll xs ys h1 h]
      simp
    | _ => simp [PyData.eqv]
  | .dict _, e, h, _ => by simp [io] at h
theorem eqv_ioAll : ∀ xs ys : List PyData, io.ioAll xs = true → io.ioAll ys = true → (PyData.eqvAll xs ys = true ↔ xs = ys)
  | [], [], _, _ => by simp [PyData.eqvAll]
  | [], _ :: _, _, _ => by simp [PyData.eqvAll]
  | _ :: _, [], _, _ => by simp [PyData.eqvAll]
  | x :: xs, y :: ys, h1, h2 => by
    have a1 : io x = true ∧ io.ioAll xs = true := by
      have : (io x && io.ioAll xs) = true := h1
      simpa using this
    have a2 : io y = true ∧ io.ioAll ys = true := by
      have : (io y && io.ioAll ys) = true := h2
      simpa using this
    rw [PyData.eqvAll, Bool.and_eq_true, eqv_io x y a1.1 a2.1, eqv_ioAll xs ys a1.2 a2.2]
    simp
end
theorem io_cks (cs : List (Int × Int)) : io.ioAll (cks cs) = true := io_all fun d h => by
  obtain ⟨c, _, rfl⟩ := List.mem_map.mp h
  rfl
theorem ck_inj {c d : Int × Int} (h : ck c = ck d) : c = d := by
  unfold ck at h
  simp only [PyData.tuple.injEq, List.cons.injEq, PyData.int.injEq, and_true] at h
  exact Prod.ext h.1 h.2
theorem cks_inj : ∀ {cs ds : List (Int × Int)}, cks cs = cks ds → cs = ds
  | [], [], _ => rfl
  | [], _ :: _, h => by cases h
  | _ :: _, [], h => by cases h
  | c :: cs, d :: ds, h => by
    simp only [cks, List.map_cons, List.cons.injEq] at h
    rw [ck_inj h.1, cks_inj h.2]
theorem eqv_ck (c d : Int × Int) : PyData.eqv (ck c) (ck d) = decide (c = d) := by
  by_cases h : c = d
  · subst h
    rw [decide_eq_true rfl]
    exact (eqv_io _ _ rfl rfl).mpr rfl
  · rw [decide_eq_false h]
    cases e : PyData.eqv (ck c) (ck d) with
    | false => rfl
    | true => exact absurd (ck_inj ((eqv_io _ _ rfl rfl).mp e)) h
theorem eqv_lcks (cs ds : List (Int × Int)) : PyData.eqv (.list (cks cs)) (.list (cks ds)) = decide (cs = ds) := by
  have q := eqv_io (.list (cks cs)) (.list (cks ds)) (io_cks cs) (io_cks ds)
  by_cases h : cs = ds
  · subst h
    rw [decide_eq_true rfl]
    exact q.mpr rfl
  · rw [decide_eq_false h]
    cases e : PyData.eqv (.list (cks cs)) (.list (cks ds)) with
    | false => rfl
    | true => exact absurd (cks_inj (by simpa using q.mp e)) h
theorem fm_filter (cs : List (Int × Int)) (p : Int × Int → Bool) : (cs.filterMap fun c => if p c = true then some (ck c) else none) = cks (cs.filter p) := by
  induction cs with
  | nil => rfl
  | cons c cs ih =>
    cases h : p c with
    | true =>
      rw [List.filterMap_cons_some (b := ck c) (by simp [h]), List.filter_cons_of_pos h, ih]
      rfl
    | false =>
      rw [List.filterMap_cons_none (by simp [h]), List.filter_cons_of_neg (by simp [h]), ih]
end Dl
end L2

/-! The plain half, 11: rings. -/
namespace L2
namespace Dl
open PySem PySem.Spec PyProof.Rows
local macro_rules | `(tactic| dsimp? [$xs,*] $[$l]?) => `(tactic| simp only [wSeq, wNext, wBreak, wCont, wDrop, wRet, wRetN, wIfS, wSet, wAsgT, e_aug, e_setIx, e_par, e_gN, getS_0, getS_s, setS_0, setS_s, e_var, varK_v, varK_o, varK_u, wC, wBin, rdK_v, rdK_t, rdK_s, rdS_v, rdS_o, rdS_u, fzK_v, fzK_t, fzK_s, fzS_v, fzS_o, fzS_l, fzS_u, e_fz, asg_v, asg_t, asg_s, e_tb, tbK_b, wAnd, wOr, wNot, e_notV, e_andV, e_orV, wBV, wIf, e_neg, intK_i, e_oso, wONo, e_rng1, e_rng2, wFNil, wFCons, wANil, wACons, wTup, wLst, e_callB, rdAllK_n, rdAllK_c, wIsi, e_call, wMNil, wMCons, e_ld, lnsOf, avsK_n, avsK_f, avsK_l, lnS_o, lnS_v, lnS_u, poK_n, poK_c, poS_o, inS_0, inS_s, rsK_v, rsK_o, wSl, e_ownF, e_own0, ownB_o, oS_o, oS_v, oS_u, agS_i, muApp, oAdd_i, oAdd_l, oAdd_t, oAdd_s, oSub_i, oMul_i, oFdiv_i, oMod_i, oPow_i, oShl_i, oShr_i, oOr_i, oAndB_i, oLt_i, oLe_i, oGt_i, oGe_i, oEq_i, oNe_i, oEq, oNe, oIx_l, oIx_t, oLen_l, oLen_t, oInt_i, oInt_b, oMax_i, oMin_i, oList_l, oList_t, oTuple_l, oTuple_t, oSorted_l, oSorted_t, oIs_n, oIsN_n, oIs_b, oIsN_b, isNone_n, isNone_t, isNone_l, isNone_i, isNone_s, isNone_b, oSl_l, oSl_t, oIn, gT_t, gC_c, gNil', e_iseq, sqK_l, sqK_t, e_isq, sq2K_l, sq2K_t, e_sset, ssK_l, ssK_t, e_chain, e_lr1, e_lr2, wRev, rvD_l, rvD_t, e_in1, e_in2, negB_f, negB_t, wIZip, zpK_l, zpK_t, zpK_m, e_extend, extR_t, wYes, startEv, kenD_nx, kenD_rt, kenD_bk, kenD_ct, kenD_ex, outK_n, outK_c, otS_o, rvK_v, rvK_t, rvK_s, rvS_v, rvS_o, slOf, lsFrom, wipeE, restE, List.map_cons, List.map_nil, List.length_cons, List.length_nil, List.replicate, List.append_nil, List.cons_append, List.nil_append, List.getElem?_cons_zero, List.getElem?_cons_succ, List.getElem?_nil, List.set_cons_zero, List.set_cons_succ, List.set_nil, Option.getD_some, Option.getD_none, Option.map_some, Option.map_none, Option.some.injEq, Rs.val.injEq, Rs.tmp.injEq, Rs.slot.injEq, Sl.own.injEq, Sl.val.injEq, PyData.int.injEq, PyData.bool.injEq, PyData.str.injEq, PyData.list.injEq, PyData.tuple.injEq, Prod.mk.injEq, Nat.sub_self, Nat.zero_add, Nat.reduceAdd, Nat.reduceSub, Nat.add_zero, isTy_int_int, isTy_bool_int, isTy_int_bool, isTy_bool_bool, isTy_int_tup, isTy_int_lst, isTy_int_non, isTy_int_str, isTy_tup_tup, isTy_tup_lst, isTy_tup_int, isTy_tup_bool, isTy_tup_non, isTy_tup_str, isTy_lst_lst, isTy_lst_tup, isTy_lst_int, exists_eq_left', exists_eq_left, exists_and_left, exists_eq_right, exists_eq, exists_eq', exists_const, true_and, and_true, and_self, Bool.not_true, Bool.not_false, if_true, if_false, Bool.false_eq_true, reduceIte, reduceCtorEq, List.nodup_nil, decide_eq_true_eq, atI_0, atI_1, atI_2, atI_3, atI_4, atI_5, atI_6, atI_7, atI_8, atI_9, atI_10, atI_11, ixN_3_0, ixN_3_1, ixN_3_2, sh_int, sh_bool, sh_non, and_assoc, nd1, nd_true, eq_self, decide_true, decide_false, Int.cast_ofNat_Int, not_true_eq_false, not_false_eq_true, eqv_ii, eqv_bb, wRaise0, e_raiseG, grK_i, e_raise1, onK_i, e_callX, xa_1, xa_2, xa_3, xa_4, xa_5, xa_6, xa_7, e_many, e_most, e_number, e_row, isLst_l, lsK_l, e_rd, e_br, brS_o, brS_v, arS_o, arS_v, avbK_n, avbK_f, avbK_l, scK_b, scK_i, scK_n, scK_s, e_callS, tmK_t, e_rep, enK_l, e_ienum, wTry, eqv_ss, tpK_v, txK_1, tutK_t, e_repT, e_callT, enTK_t, e_ienumT, r3K_i, e_rng3, e_newD, e_putD, e_lenD, e_listD, dcS_d, dcB_d, pvK_b, pvK_i, tkK_m, tkK_2, e_ssetI, oMinL_c, e_lset, e_lstZ, zlK_c, e_ins, $xs,*] $[$l]?)
def sp_rings : Spc := fun avs Kr _ => match avs with
  | [.val (.tuple [.int s, .int r]), .val (.int n)] => 0 < s ∧ Kr [] (.val (.bool (decide (n % s = r))))
  | _ => False
/-- rings: 0 clock, 1 number -/
def w_rings : WS :=
  (wRet (wBin oEq (wBin oMod (wVar 1) (wBin oIx (wVar 0) (wC (.int 0)))) (wBin oIx (wVar 0) (wC (.int 1)))))

theorem vc_rings : ∀ avs Kr Kx, avs.length = 2 → sp_rings avs Kr Kx → lsFrom 0 avs = [] ∧ w_rings (startEv 2 avs) (kenD [] Kr Kx) := by
  intro avs Kr Kx hl h
  unfold sp_rings at h
  split at h
  · obtain ⟨hs, q⟩ := h
    refine ⟨rfl, ?_⟩
    dsimp? [w_rings]
    exact ⟨hs, q⟩
  · exact h.elim
/-- the clocks that ring -/
def rgF (cs : List (Int × Int)) (n : Int) : List (Int × Int) := cs.filter fun c => decide (n % c.1 = c.2)
def sp_rings_at : Spc := fun avs Kr _ => match avs with
  | [.val (.tuple ds), .val (.int n)] => ∃ cs, ds = cks cs ∧ (∀ c ∈ cs, 1 ≤ c.1) ∧ cs.length ≤ 100000 ∧ Kr [] (.own (cks (rgF cs n)))
  | [.val (.list ds), .val (.int n)] => ∃ cs, ds = cks cs ∧ (∀ c ∈ cs, 1 ≤ c.1) ∧ cs.length ≤ 100000 ∧ Kr [] (.own (cks (rgF cs n)))
  | _ => False
def w_rings_at_C1 : WE :=
  wLc [2] (wISeq (wVar 0)) (gN 2) (wTB (wCall 2 sp_rings (wMCons (wVar 2) (wMCons (wVar 1) wMNil)))) (wVar 2)
/-- rings_at: 0 clocks, 1 number, 2 clock -/
def w_rings_at : WS :=
  (wRet w_rings_at_C1)

theorem vc_rings_at : ∀ avs Kr Kx, avs.length = 2 → sp_rings_at avs Kr Kx → lsFrom 0 avs = [] ∧ w_rings_at (startEv 3 avs) (kenD [] Kr Kx) := by
  intro avs Kr Kx hl h
  unfold sp_rings_at at h
  split at h
  · rename_i ds n
    obtain ⟨cs, rfl, hc, hl, q⟩ := h
    refine ⟨rfl, ?_⟩
    dsimp? [w_rings_at, w_rings_at_C1, wLc]
    refine lc_fm ck (fun c => if decide (n % c.1 = c.2) = true then some (ck c) else none) cs [] (fun c h A N hA => ?_) (by simpa using small100000 hl) ?_
    · have c1 := hc c h
      dsimp? [ck, sp_rings]
      refine ⟨by omega, ?_⟩
      split
      · rename_i z
        simp only [z, decide_true, if_true] at hA
        exact hA
      · rename_i z
        simp only [z, decide_false, Bool.false_eq_true, if_false] at hA
        exact hA
    · rw [List.nil_append, fm_filter]
      exact q
  · rename_i ds n
    obtain ⟨cs, rfl, hc, hl, q⟩ := h
    refine ⟨rfl, ?_⟩
    dsimp? [w_rings_at, w_rings_at_C1, wLc]
    refine lc_fm ck (fun c => if decide (n % c.1 = c.2) = true then some (ck c) else none) cs [] (fun c h A N hA => ?_) (by simpa using small100000 hl) ?_
    · have c1 := hc c h
      dsimp? [ck, sp_rings]
      refine ⟨by omega, ?_⟩
      split
      · rename_i z
        simp only [z, decide_true, if_true] at hA
        exact hA
      · rename_i z
        simp only [z, decide_false, Bool.false_eq_true, if_false] at hA
        exact hA
    · rw [List.nil_append, fm_filter]
      exact q
  · exact h.elim
/-- of a clock with its rest in place: the two ways to ask -/
theorem Rg_mod {c : Int × Int} {n : Int} (h0 : 0 ≤ c.2) (h1 : c.2 < c.1) : Rg c n ↔ n % c.1 = c.2 := by
  constructor
  · intro h
    have a0 := Int.emod_nonneg n (show c.1 ≠ 0 by omega)
    have a1 := Int.emod_lt_of_pos n (show 0 < c.1 by omega)
    refine dvd_small (m := c.1) ?_ a0 a1 h0 h1
    have : n % c.1 - c.2 = (n - c.2) - c.1 * (n / c.1) := by rw [Int.emod_def]; omega
    rw [this]
    exact Int.dvd_sub h (Int.dvd_mul_right _ _)
  · intro h
    have : n - c.2 = c.1 * (n / c.1) := by rw [← h, Int.emod_def]; omega
    exact ⟨_, this⟩
end Dl
end L2

/-! The plain half, 12: all clocks' meeting, a clock inside another. -/
namespace L2
namespace Dl
open PySem PySem.Spec PyProof.Rows
theorem prodS_b3 {cs : List (Int × Int)} (h : ∀ c ∈ cs, CkOk 1000 c) (hl : cs.length ≤ 100) : (prodS cs).natAbs < 2 ^ 3000 := by
  have h1 := prodS_le (m := 1000) (by decide) fun c hc => ⟨(h c hc).1, (h c hc).2.1⟩
  have h0 := prodS_pos fun c hc => (h c hc).1
  have h2 : (1000 : Int) ^ cs.length ≤ 1000 ^ 100 := by
    have : (1000 : Nat) ^ cs.length ≤ 1000 ^ 100 := Nat.pow_le_pow_right (by decide) hl
    exact_mod_cast this
  have h3 : ((1000 : Int) ^ 100).natAbs < 2 ^ 3000 := by decide +kernel
  exact nab_lt (by omega) (Int.le_trans h1 h2) h3
end Dl
end L2

/-! The plain half, 13: times; whole numbers; things of any kind. -/
namespace L2
namespace Dl
open PySem PySem.Spec PyProof.Rows
local macro_rules | `(tactic| dsimp? [$xs,*] $[$l]?) => `(tactic| simp only [wSeq, wNext, wBreak, wCont, wDrop, wRet, wRetN, wIfS, wSet, wAsgT, e_aug, e_setIx, e_par, e_gN, getS_0, getS_s, setS_0, setS_s, e_var, varK_v, varK_o, varK_u, wC, wBin, rdK_v, rdK_t, rdK_s, rdS_v, rdS_o, rdS_u, fzK_v, fzK_t, fzK_s, fzS_v, fzS_o, fzS_l, fzS_u, e_fz, asg_v, asg_t, asg_s, e_tb, tbK_b, wAnd, wOr, wNot, e_notV, e_andV, e_orV, wBV, wIf, e_neg, intK_i, e_oso, wONo, e_rng1, e_rng2, wFNil, wFCons, wANil, wACons, wTup, wLst, e_callB, rdAllK_n, rdAllK_c, wIsi, e_call, wMNil, wMCons, e_ld, lnsOf, avsK_n, avsK_f, avsK_l, lnS_o, lnS_v, lnS_u, poK_n, poK_c, poS_o, inS_0, inS_s, rsK_v, rsK_o, wSl, e_ownF, e_own0, ownB_o, oS_o, oS_v, oS_u, agS_i, muApp, oAdd_i, oAdd_l, oAdd_t, oAdd_s, oSub_i, oMul_i, oFdiv_i, oMod_i, oPow_i, oShl_i, oShr_i, oOr_i, oAndB_i, oLt_i, oLe_i, oGt_i, oGe_i, oEq_i, oNe_i, oEq, oNe, oIx_l, oIx_t, oLen_l, oLen_t, oInt_i, oInt_b, oMax_i, oMin_i, oList_l, oList_t, oTuple_l, oTuple_t, oSorted_l, oSorted_t, oIs_n, oIsN_n, oIs_b, oIsN_b, isNone_n, isNone_t, isNone_l, isNone_i, isNone_s, isNone_b, oSl_l, oSl_t, oIn, gT_t, gC_c, gNil', e_iseq, sqK_l, sqK_t, e_isq, sq2K_l, sq2K_t, e_sset, ssK_l, ssK_t, e_chain, e_lr1, e_lr2, wRev, rvD_l, rvD_t, e_in1, e_in2, negB_f, negB_t, wIZip, zpK_l, zpK_t, zpK_m, e_extend, extR_t, wYes, startEv, kenD_nx, kenD_rt, kenD_bk, kenD_ct, kenD_ex, outK_n, outK_c, otS_o, rvK_v, rvK_t, rvK_s, rvS_v, rvS_o, slOf, lsFrom, wipeE, restE, List.map_cons, List.map_nil, List.length_cons, List.length_nil, List.replicate, List.append_nil, List.cons_append, List.nil_append, List.getElem?_cons_zero, List.getElem?_cons_succ, List.getElem?_nil, List.set_cons_zero, List.set_cons_succ, List.set_nil, Option.getD_some, Option.getD_none, Option.map_some, Option.map_none, Option.some.injEq, Rs.val.injEq, Rs.tmp.injEq, Rs.slot.injEq, Sl.own.injEq, Sl.val.injEq, PyData.int.injEq, PyData.bool.injEq, PyData.str.injEq, PyData.list.injEq, PyData.tuple.injEq, Prod.mk.injEq, Nat.sub_self, Nat.zero_add, Nat.reduceAdd, Nat.reduceSub, Nat.add_zero, isTy_int_int, isTy_bool_int, isTy_int_bool, isTy_bool_bool, isTy_int_tup, isTy_int_lst, isTy_int_non, isTy_int_str, isTy_tup_tup, isTy_tup_lst, isTy_tup_int, isTy_tup_bool, isTy_tup_non, isTy_tup_str, isTy_lst_lst, isTy_lst_tup, isTy_lst_int, exists_eq_left', exists_eq_left, exists_and_left, exists_eq_right, exists_eq, exists_eq', exists_const, true_and, and_true, and_self, Bool.not_true, Bool.not_false, if_true, if_false, Bool.false_eq_true, reduceIte, reduceCtorEq, List.nodup_nil, decide_eq_true_eq, atI_0, atI_1, atI_2, atI_3, atI_4, atI_5, atI_6, atI_7, atI_8, atI_9, atI_10, atI_11, ixN_3_0, ixN_3_1, ixN_3_2, sh_int, sh_bool, sh_non, and_assoc, nd1, nd_true, eq_self, decide_true, decide_false, Int.cast_ofNat_Int, not_true_eq_false, not_false_eq_true, eqv_ii, eqv_bb, wRaise0, e_raiseG, grK_i, e_raise1, onK_i, e_callX, xa_1, xa_2, xa_3, xa_4, xa_5, xa_6, xa_7, e_many, e_most, e_number, e_row, isLst_l, lsK_l, e_rd, e_br, brS_o, brS_v, arS_o, arS_v, avbK_n, avbK_f, avbK_l, scK_b, scK_i, scK_n, scK_s, e_callS, tmK_t, e_rep, enK_l, e_ienum, wTry, eqv_ss, tpK_v, txK_1, tutK_t, e_repT, e_callT, enTK_t, e_ienumT, r3K_i, e_rng3, e_newD, e_putD, e_lenD, e_listD, dcS_d, dcB_d, pvK_b, pvK_i, tkK_m, tkK_2, e_ssetI, oMinL_c, e_lset, e_lstZ, zlK_c, e_ins, $xs,*] $[$l]?)
/-- a whole number that is no bool -/
def isI : PyData → Bool
  | .int _ => true
  | _ => false
def sp_is_whole : Spc := fun avs Kr _ => match avs with
  | [.val d] => Kr [] (.val (.bool (isI d)))
  | _ => False
/-- is_whole: 0 thing -/
def w_is_whole : WS :=
  (wRet ((wAndV (wIsi "int" (wVar 0)) (wNotV (wIsi "bool" (wVar 0))))))

theorem vc_is_whole : ∀ avs Kr Kx, avs.length = 1 → sp_is_whole avs Kr Kx → lsFrom 0 avs = [] ∧ w_is_whole (startEv 1 avs) (kenD [] Kr Kx) := by
  intro avs Kr Kx hl h
  unfold sp_is_whole at h
  split at h
  · rename_i d
    refine ⟨rfl, ?_⟩
    dsimp? [w_is_whole]
    cases d <;> dsimp? [isTy, tyN] <;> exact h
  · exact h.elim
theorem isI_int {d : PyData} (h : isI d = true) : ∃ i, d = .int i := by
  cases d <;> first | exact ⟨_, rfl⟩ | cases h
/-- tuples are of no overgreat length -/
def TL (d : PyData) : Prop := ∀ xs, d = .tuple xs → xs.length ≤ 1000
theorem TL.no {d : PyData} (h : ∀ xs, d ≠ .tuple xs) : TL d := fun xs e => absurd e (h xs)
theorem TL.tup {xs : List PyData} (h : xs.length ≤ 1000) : TL (.tuple xs) := fun ys e => by
  cases e
  exact h
theorem atI_in {α : Type} {xs : List α} {k : Int} (h0 : 0 ≤ k) (h1 : k < xs.length) : ∃ x, x ∈ xs ∧ atI xs k = some x := by
  obtain ⟨j, rfl⟩ := Int.eq_ofNat_of_zero_le h0
  have hj : j < xs.length := by omega
  exact ⟨xs[j], List.getElem_mem hj, atI_nat (List.getElem?_eq_getElem hj)⟩
end Dl
end L2

/-! The plain half, 14: clocks of splits, of ways, wide ones. -/
namespace L2
namespace Dl
open PySem PySem.Spec PyProof.Rows
local macro_rules | `(tactic| dsimp? [$xs,*] $[$l]?) => `(tactic| simp only [wSeq, wNext, wBreak, wCont, wDrop, wRet, wRetN, wIfS, wSet, wAsgT, e_aug, e_setIx, e_par, e_gN, getS_0, getS_s, setS_0, setS_s, e_var, varK_v, varK_o, varK_u, wC, wBin, rdK_v, rdK_t, rdK_s, rdS_v, rdS_o, rdS_u, fzK_v, fzK_t, fzK_s, fzS_v, fzS_o, fzS_l, fzS_u, e_fz, asg_v, asg_t, asg_s, e_tb, tbK_b, wAnd, wOr, wNot, e_notV, e_andV, e_orV, wBV, wIf, e_neg, intK_i, e_oso, wONo, e_rng1, e_rng2, wFNil, wFCons, wANil, wACons, wTup, wLst, e_callB, rdAllK_n, rdAllK_c, wIsi, e_call, wMNil, wMCons, e_ld, lnsOf, avsK_n, avsK_f, avsK_l, lnS_o, lnS_v, lnS_u, poK_n, poK_c, poS_o, inS_0, inS_s, rsK_v, rsK_o, wSl, e_ownF, e_own0, ownB_o, oS_o, oS_v, oS_u, agS_i, muApp, oAdd_i, oAdd_l, oAdd_t, oAdd_s, oSub_i, oMul_i, oFdiv_i, oMod_i, oPow_i, oShl_i, oShr_i, oOr_i, oAndB_i, oLt_i, oLe_i, oGt_i, oGe_i, oEq_i, oNe_i, oEq, oNe, oIx_l, oIx_t, oLen_l, oLen_t, oInt_i, oInt_b, oMax_i, oMin_i, oList_l, oList_t, oTuple_l, oTuple_t, oSorted_l, oSorted_t, oIs_n, oIsN_n, oIs_b, oIsN_b, isNone_n, isNone_t, isNone_l, isNone_i, isNone_s, isNone_b, oSl_l, oSl_t, oIn, gT_t, gC_c, gNil', e_iseq, sqK_l, sqK_t, e_isq, sq2K_l, sq2K_t, e_sset, ssK_l, ssK_t, e_chain, e_lr1, e_lr2, wRev, rvD_l, rvD_t, e_in1, e_in2, negB_f, negB_t, wIZip, zpK_l, zpK_t, zpK_m, e_extend, extR_t, wYes, startEv, kenD_nx, kenD_rt, kenD_bk, kenD_ct, kenD_ex, outK_n, outK_c, otS_o, rvK_v, rvK_t, rvK_s, rvS_v, rvS_o, slOf, lsFrom, wipeE, restE, List.map_cons, List.map_nil, List.length_cons, List.length_nil, List.replicate, List.append_nil, List.cons_append, List.nil_append, List.getElem?_cons_zero, List.getElem?_cons_succ, List.getElem?_nil, List.set_cons_zero, List.set_cons_succ, List.set_nil, Option.getD_some, Option.getD_none, Option.map_some, Option.map_none, Option.some.injEq, Rs.val.injEq, Rs.tmp.injEq, Rs.slot.injEq, Sl.own.injEq, Sl.val.injEq, PyData.int.injEq, PyData.bool.injEq, PyData.str.injEq, PyData.list.injEq, PyData.tuple.injEq, Prod.mk.injEq, Nat.sub_self, Nat.zero_add, Nat.reduceAdd, Nat.reduceSub, Nat.add_zero, isTy_int_int, isTy_bool_int, isTy_int_bool, isTy_bool_bool, isTy_int_tup, isTy_int_lst, isTy_int_non, isTy_int_str, isTy_tup_tup, isTy_tup_lst, isTy_tup_int, isTy_tup_bool, isTy_tup_non, isTy_tup_str, isTy_lst_lst, isTy_lst_tup, isTy_lst_int, exists_eq_left', exists_eq_left, exists_and_left, exists_eq_right, exists_eq, exists_eq', exists_const, true_and, and_true, and_self, Bool.not_true, Bool.not_false, if_true, if_false, Bool.false_eq_true, reduceIte, reduceCtorEq, List.nodup_nil, decide_eq_true_eq, atI_0, atI_1, atI_2, atI_3, atI_4, atI_5, atI_6, atI_7, atI_8, atI_9, atI_10, atI_11, ixN_3_0, ixN_3_1, ixN_3_2, sh_int, sh_bool, sh_non, and_assoc, nd1, nd_true, eq_self, decide_true, decide_false, Int.cast_ofNat_Int, not_true_eq_false, not_false_eq_true, eqv_ii, eqv_bb, wRaise0, e_raiseG, grK_i, e_raise1, onK_i, e_callX, xa_1, xa_2, xa_3, xa_4, xa_5, xa_6, xa_7, e_many, e_most, e_number, e_row, isLst_l, lsK_l, e_rd, e_br, brS_o, brS_v, arS_o, arS_v, avbK_n, avbK_f, avbK_l, scK_b, scK_i, scK_n, scK_s, e_callS, tmK_t, e_rep, enK_l, e_ienum, wTry, eqv_ss, tpK_v, txK_1, tutK_t, e_repT, e_callT, enTK_t, e_ienumT, r3K_i, e_rng3, e_newD, e_putD, e_lenD, e_listD, dcS_d, dcB_d, pvK_b, pvK_i, tkK_m, tkK_2, e_ssetI, oMinL_c, e_lset, e_lstZ, zlK_c, e_ins, $xs,*] $[$l]?)
/-- the parts (step k, rest + step i) -/
theorem parts_lc {vs : List Nat} {g : WG} {we : WE} {K : Ev → List PyData → Prop} {env : Ev} {k st re : Int} (h0 : 0 ≤ k) (hk : k ≤ 100000)
    (h : ∀ i : Int, 0 ≤ i → i < k → ∀ (A : PyData → Ev → Prop), A (ck (st * k, re + st * i)) env → g (.int i) env (fun e1 => wFz we e1 (fun e3 y => A y (wipeE e3 vs)) NoX))
    (hK : K env (cks ((List.range k.toNat).map fun (i : Nat) => (st * k, re + st * i)))) : wLcE vs g wYes we ((List.range k.toNat).map fun (i : Nat) => PyData.int (i : Int)) [] env K := by
  refine lc_map (fun (i : Nat) => PyData.int (i : Int)) (fun i => ck (st * k, re + st * i)) (List.range k.toNat) (fun i hi A hA => ?_) (by rw [List.length_range]; exact small100000 (by omega)) (by rw [cks, List.map_map] at hK; exact hK)
  have := List.mem_range.mp hi
  exact h i (by omega) (by omega) A hA
theorem parts_ok {m k st re : Int} (h1 : 1 ≤ st) (h2 : 0 ≤ re) (h3 : re < st) (hk : 1 ≤ k) (hm : st * k ≤ m) : ∀ c ∈ ((List.range k.toNat).map fun (i : Nat) => (st * k, re + st * (i : Int))), CkOk m c := by
  intro c hc
  obtain ⟨i, hi, rfl⟩ := List.mem_map.mp hc
  have hi := List.mem_range.mp hi
  have e1 : st * (i : Int) + st ≤ st * k := by
    have := Int.mul_le_mul_of_nonneg_left (show (i : Int) + 1 ≤ k by omega) (show 0 ≤ st by omega)
    rwa [Int.mul_add, Int.mul_one] at this
  have e0 : 0 ≤ st * (i : Int) := Int.mul_nonneg (by omega) (by omega)
  exact ⟨by show 1 ≤ st * k; omega, hm, by show 0 ≤ re + st * (i : Int); omega, by show re + st * (i : Int) < st * k; omega⟩
/-- as drawn clocks are: their round is at most 720 -/
def Ck7 (c : Int × Int) : Prop := CkOk 24 c ∧ c.1 ∣ 720
theorem d720 : ∀ n ∈ List.range 13, ∀ k ∈ [2, 3], ((n : Nat) : Int) ∣ 720 → (n : Int) * k ≤ 24 → (n : Int) * k ∣ 720 := by decide +kernel
theorem mul720 {s k : Int} (h1 : 1 ≤ s) (h2 : s ∣ 720) (hk : 2 ≤ k ∧ k ≤ 3) (h : s * k ≤ 24) : s * k ∣ 720 := by
  obtain ⟨n, rfl⟩ := Int.eq_ofNat_of_zero_le (show 0 ≤ s by omega)
  have h3 : (n : Int) * 2 ≤ n * k := Int.mul_le_mul_of_nonneg_left hk.1 (by omega)
  refine d720 n (List.mem_range.mpr (by omega)) k ?_ h2 h
  simp only [List.mem_cons, List.not_mem_nil, or_false]
  omega
theorem Ck7.all {cs : List (Int × Int)} (h : ∀ c ∈ cs, Ck7 c) : ∀ c ∈ cs, CkOk 24 c := fun c hc => (h c hc).1
theorem em_mul {n st k : Int} (h : 1 ≤ st) : n % (st * k) = n % st + st * (n / st % k) := by
  have e : n / (st * k) = n / st / k := by
    rw [Int.ediv_ediv, if_neg (fun h => by have := h.1; omega), Int.sub_zero]
  rw [Int.emod_def, Int.emod_def n st, Int.emod_def (n / st) k, Int.mul_sub, e, Int.mul_assoc]
  omega
/-- just one rings, always; short ones have small steps -/
def SpW (cs : List (Int × Int)) : Prop := (∀ n, (rgF cs n).length = 1) ∧ ∀ c ∈ cs, 2 * c.1 ≤ 2 ^ cs.length
theorem SpW.one : SpW [(1, 0)] := ⟨fun n => by
  have : n % 1 = 0 := Int.emod_one n
  simp [rgF, this], fun c h => by
  rw [List.mem_singleton] at h
  subst h
  decide⟩
theorem rg_aux {N st re k r v : Int} (e : N = r + st * v) (h2 : 0 ≤ re) (h3 : re < st) (r0 : 0 ≤ r) (r1 : r < st) (v0 : 0 ≤ v) (v1 : v < k) (hk : 2 ≤ k ∧ k ≤ 3) :
    ((List.range k.toNat).filter fun (i : Nat) => decide (N = re + st * (i : Int))).length = if r = re then 1 else 0 := by
  subst e
  obtain rfl | rfl : k = 2 ∨ k = 3 := by omega
  · rw [show (List.range (2 : Int).toNat) = [0, 1] from rfl]
    simp only [List.filter_cons, List.filter_nil, decide_eq_true_eq]
    rw [show st * ((0 : Nat) : Int) = 0 from Int.mul_zero st, show st * ((1 : Nat) : Int) = st from Int.mul_one st]
    obtain rfl | rfl : v = 0 ∨ v = 1 := by omega
    · rw [Int.mul_zero]
      repeat' split
      all_goals (try simp only [List.length_cons, List.length_nil]) <;> omega
    · rw [Int.mul_one]
      repeat' split
      all_goals (try simp only [List.length_cons, List.length_nil]) <;> omega
  · rw [show (List.range (3 : Int).toNat) = [0, 1, 2] from rfl]
    simp only [List.filter_cons, List.filter_nil, decide_eq_true_eq]
    rw [show st * ((0 : Nat) : Int) = 0 from Int.mul_zero st, show st * ((1 : Nat) : Int) = st from Int.mul_one st, show st * ((2 : Nat) : Int) = st + st by rw [show ((2 : Nat) : Int) = 1 + 1 from rfl, Int.mul_add, Int.mul_one]]
    obtain rfl | rfl | rfl : v = 0 ∨ v = 1 ∨ v = 2 := by omega
    · rw [Int.mul_zero]
      repeat' split
      all_goals (try simp only [List.length_cons, List.length_nil]) <;> omega
    · rw [Int.mul_one]
      repeat' split
      all_goals (try simp only [List.length_cons, List.length_nil]) <;> omega
    · rw [show st * (2 : Int) = st + st by omega]
      repeat' split
      all_goals (try simp only [List.length_cons, List.length_nil]) <;> omega
theorem rg_parts {n st re k : Int} (h1 : 1 ≤ st) (h2 : 0 ≤ re) (h3 : re < st) (hk : 2 ≤ k ∧ k ≤ 3) : (rgF ((List.range k.toNat).map fun (i : Nat) => (st * k, re + st * (i : Int))) n).length = (rgF [(st, re)] n).length := by
  have e := rg_aux (em_mul (n := n) (k := k) h1) h2 h3 (Int.emod_nonneg n (show st ≠ 0 by omega)) (Int.emod_lt_of_pos n (show 0 < st by omega)) (Int.emod_nonneg (n / st) (show k ≠ 0 by omega)) (Int.emod_lt_of_pos (n / st) (show 0 < k by omega)) hk
  unfold rgF
  rw [List.filter_map, List.length_map]
  refine Eq.trans e ?_
  rw [List.filter_cons, List.filter_nil]
  by_cases z : n % st = re
  · rw [if_pos z, if_pos (decide_eq_true z)]
    rfl
  · rw [if_neg z, if_neg (by rw [decide_eq_false z]; decide)]
    rfl
theorem SpW.put {cs : List (Int × Int)} {j : Nat} {k : Int} (h : SpW cs) (hj : j < cs.length) (h1 : 1 ≤ cs[j].1) (h2 : 0 ≤ cs[j].2) (h3 : cs[j].2 < cs[j].1) (hk : 2 ≤ k ∧ k ≤ 3) :
    SpW (cs.take j ++ ((List.range k.toNat).map fun (i : Nat) => (cs[j].1 * k, cs[j].2 + cs[j].1 * (i : Int))) ++ cs.drop (j + 1)) := by
  have sp : cs = cs.take j ++ cs[j] :: cs.drop (j + 1) := by rw [← List.drop_eq_getElem_cons hj, List.take_append_drop]
  have hl : (cs.take j ++ ((List.range k.toNat).map fun (i : Nat) => (cs[j].1 * k, cs[j].2 + cs[j].1 * (i : Int))) ++ cs.drop (j + 1)).length = cs.length + k.toNat - 1 := by
    simp only [List.length_append, List.length_map, List.length_range, List.length_take, List.length_drop]
    omega
  refine ⟨fun n => ?_, fun c hc => ?_⟩
  · have e := h.1 n
    rw [sp] at e
    have e2 := rg_parts (n := n) (k := k) h1 h2 h3 hk
    unfold rgF at *
    rw [List.filter_append, List.length_append, List.filter_cons] at e
    rw [List.filter_append, List.filter_append, List.length_append, List.length_append, e2, List.filter_cons, List.filter_nil]
    by_cases z : n % cs[j].1 = cs[j].2
    · rw [if_pos (decide_eq_true z)] at e ⊢
      simp only [List.length_cons, List.length_nil] at e ⊢
      omega
    · rw [if_neg (by rw [decide_eq_false z]; decide)] at e ⊢
      simp only [List.length_nil] at e ⊢
      omega
  · rw [hl]
    have up : (2 : Int) ^ (cs.length + k.toNat - 1) = 2 ^ cs.length * 2 ^ (k.toNat - 1) := by rw [← Int.pow_add]; congr 1; omega
    have p0 : (0 : Int) < 2 ^ cs.length := Int.pow_pos (by decide)
    have old : ∀ d ∈ cs, 2 * d.1 ≤ 2 ^ (cs.length + k.toNat - 1) := fun d hd => by
      have := h.2 d hd
      rw [up]
      obtain rfl | rfl : k = 2 ∨ k = 3 := by omega
      · rw [show (2 : Int) ^ ((2 : Int).toNat - 1) = 2 from rfl]; omega
      · rw [show (2 : Int) ^ ((3 : Int).toNat - 1) = 4 from rfl]; omega
    rcases List.mem_append.mp hc with hc | hc
    · rcases List.mem_append.mp hc with hc | hc
      · exact old c (List.mem_of_mem_take hc)
      · obtain ⟨i, _, rfl⟩ := List.mem_map.mp hc
        have := h.2 _ (List.getElem_mem hj)
        show 2 * (cs[j].1 * k) ≤ _
        rw [up]
        generalize cs[j].1 = s at *
        obtain rfl | rfl : k = 2 ∨ k = 3 := by omega
        · rw [show (2 : Int) ^ ((2 : Int).toNat - 1) = 2 from rfl]; omega
        · rw [show (2 : Int) ^ ((3 : Int).toNat - 1) = 4 from rfl]; omega
    · exact old c (List.mem_of_mem_drop hc)
def sp__law_split : Spc := fun avs Kr _ => match avs with
  | [.own ds, .val (.int t)] => pen3 ds ∧ 0 ≤ t ∧ t ≤ 100000 ∧ ∀ ds' cs, pen3 ds' → (∀ c ∈ cs, Ck7 c) → 1 ≤ cs.length → cs.length ≤ 12 → SpW cs → Kr [ds'] (.own (cks cs))
  | _ => False
def w__law_split_C1 : WE :=
  wLc [8] (wIRng1 (wVar 5)) (gN 8) wYes (wTup (wFCons (wBin oMul (wVar 6) (wVar 5)) (wFCons (wBin oAdd (wVar 7) (wBin oMul (wVar 6) (wVar 8))) wFNil)))
def w__law_split_B1 : WS :=
  (wSeq (wSet 4 (wCall 2 sp__law_draw (wLd 0 (wMCons (wCallB oLen (wACons (wVar 2) wANil)) wMNil))))
    (wSeq (wSet 5 (wBin oIx (wLst (wFCons (wC (.int 2)) (wFCons (wC (.int 2)) (wFCons (wC (.int 3)) wFNil)))) (wCall 2 sp__law_draw (wLd 0 (wMCons (wC (.int 3)) wMNil)))))
    (wSeq (wAsgT (wBin oIx (wVar 2) (wVar 4)) (gT 2 (gCons' (gN 6) (gCons' (gN 7) gNil'))))
    (wIfS (wAnd (wTB (wBin oLt (wBin oAdd (wCallB oLen (wACons (wVar 2) wANil)) (wVar 5)) (wC (.int 13)))) (wTB (wBin oLt (wBin oMul (wVar 6) (wVar 5)) (wC (.int 25))))) (wSet 2 (wBin oAdd (wBin oAdd (wSl (wVar 2) wONo (wOSo (wVar 4))) w__law_split_C1) (wSl (wVar 2) (wOSo (wBin oAdd (wVar 4) (wC (.int 1)))) wONo))) wNext))))
def w__law_split_L1 : WS :=
  wFor (wIRng1 (wVar 1)) (gN 3) w__law_split_B1
def w__law_split_R1 : WS :=
  (wRet (wVar 2))
/-- _law_split: 0 pen, 1 times, 2 found, 3 turn, 4 spot, 5 k, 6 step, 7 rest, 8 part -/
def w__law_split : WS :=
  (wSeq (wSet 2 (wLst (wFCons (wTup (wFCons (wC (.int 1)) (wFCons (wC (.int 0)) wFNil))) wFNil)))
    (wSeq w__law_split_L1
    w__law_split_R1))

theorem cut_mem {α : Type} {xs : List α} {lo hi : Option Int} {x : α} (h : x ∈ cutD xs lo hi) : x ∈ xs := List.mem_of_mem_drop (List.mem_of_mem_take h)
theorem cut_to {α : Type} (xs : List α) {j : Nat} (h : j ≤ xs.length) : cutD xs none (some (j : Int)) = xs.take j := by
  unfold cutD
  rw [HT.sIx_none, HT.sIx_nat, List.drop_zero, Nat.sub_zero, Nat.min_eq_left h]
theorem cut_from {α : Type} (xs : List α) {j : Nat} (h : j ≤ xs.length) : cutD xs (some (j : Int)) none = xs.drop j := by
  unfold cutD
  rw [HT.sIx_none, HT.sIx_nat, Nat.min_eq_left h, List.take_of_length_le (by rw [List.length_drop]; exact Nat.le_refl _)]
theorem vc__law_split : ∀ avs Kr Kx, avs.length = 2 → sp__law_split avs Kr Kx → lsFrom 0 avs = [0] ∧ w__law_split (startEv 9 avs) (kenD [0] Kr Kx) := by
  intro avs Kr Kx hl h
  unfold sp__law_split at h
  split at h
  · rename_i ds t
    obtain ⟨hp, ht0, ht, q⟩ := h
    refine ⟨rfl, ?_⟩
    dsimp? [w__law_split, w__law_split_L1, wFor]
    refine ⟨by decide, by decide, ?_⟩
    refine ⟨by omega, by omega, ?_⟩
    refine each_range1 (fun i e => ∃ pen cs x3 x4 x5 x6 x7, e = [.own true pen, .val (.int t), .own false (cks cs), x3, x4, x5, x6, x7, .un] ∧ pen3 pen ∧ (∀ c ∈ cs, Ck7 c) ∧ 1 ≤ cs.length ∧ cs.length ≤ 12 ∧ SpW cs) ⟨ds, [(1, 0)], _, _, _, _, _, rfl, hp, ?_, by decide, by decide, SpW.one⟩ ?_ ?_
    · intro c hc
      simp only [List.mem_singleton] at hc
      subst hc
      exact ⟨⟨by decide, by decide, by decide, by decide⟩, by decide⟩
    · rintro e ⟨pen, cs, x3, x4, x5, x6, x7, rfl, g1, g2, g3, g4, g5⟩
      dsimp? [w__law_split_R1]
      exact q _ _ g1 g2 g3 g4 g5
    · rintro i e R hi ⟨pen, cs, x3, x4, x5, x6, x7, rfl, g1, g2, g3, g4, g5⟩ ih
      have ll : (cks cs).length = cs.length := List.length_map _
      unfold w__law_split_B1
      refine seq_cut fun R2 hR2 => ?_
      dsimp? [sp__law_draw, ll]
      refine ⟨g1, by omega, log_small (by omega) (by omega), fun p1 j hp1 j0 j1 => hR2 _ ?_⟩
      obtain ⟨j, rfl⟩ := Int.eq_ofNat_of_zero_le j0
      have hj : j < cs.length := by omega
      refine seq_cut fun R3 hR3 => ?_
      dsimp? [sp__law_draw]
      refine ⟨by decide, hp1, by decide, by decide, fun p2 b hp2 b0 b1 => ?_⟩
      obtain ⟨k, hk, e1⟩ := atI_mem (ns := [2, 2, 3]) b0 b1
      have hk2 : 2 ≤ k ∧ k ≤ 3 := by
        simp only [List.mem_cons, List.not_mem_nil, or_false] at hk
        omega
      refine ⟨.int k, e1, hR3 _ ?_⟩
      refine seq_cut fun R4 hR4 => ?_
      obtain ⟨⟨c1, c2, c3, c4⟩, c5⟩ := g2 _ (List.getElem_mem hj)
      dsimp? [atI_ck (List.getElem?_eq_getElem hj), ck]
      refine hR4 _ ?_
      have hput := SpW.put g5 hj c1 c3 c4 hk2
      generalize cs[j].1 = st at *
      generalize cs[j].2 = re at *
      dsimp? [ll]
      have hb : CMulX st k := mulx_ok (a := 30) (b := 30) (by omega) (by omega) (by decide)
      split
      · rename_i hlen
        refine ⟨hb, ?_⟩
        split
        · rename_i hsk
          dsimp? [w__law_split_C1, wLc]
          refine ⟨by omega, by omega, ?_⟩
          refine parts_lc (k := k) (st := st) (re := re) (by omega) (by omega) (fun i i0 i1 A hA => ?_) ?_
          · dsimp? []
            exact ⟨hb, mulx_ok (a := 30) (b := 30) (by omega) (by omega) (by decide), by decide, hA⟩
          have hpo : ∀ c ∈ ((List.range k.toNat).map fun (i : Nat) => (st * k, re + st * (i : Int))), Ck7 c := fun c hc => ⟨parts_ok (m := 24) c1 c3 c4 (show 1 ≤ k by omega) (by omega) c hc, by
            obtain ⟨i, _, rfl⟩ := List.mem_map.mp hc
            exact mul720 c1 c5 hk2 (by omega)⟩
          have hpl : ((List.range k.toNat).map fun (i : Nat) => (st * k, re + st * (i : Int))).length = k.toNat := by rw [List.length_map, List.length_range]
          generalize ((List.range k.toNat).map fun (i : Nat) => (st * k, re + st * (i : Int))) = ps at *
          have e5 : ((j : Int) + 1) = ((j + 1 : Nat) : Int) := by omega
          have b1 := cut_len (xs := cs) none (some (j : Int))
          have b2 := cut_len (xs := cs) (some ((j : Int) + 1)) none
          have lt1 : (cutD cs none (some (j : Int))).length = j := by rw [cut_to cs (by omega), List.length_take]; omega
          have lt2 : (cutD cs (some ((j : Int) + 1)) none).length = cs.length - (j + 1) := by rw [e5, cut_from cs (by omega), List.length_drop]
          dsimp? [cutD_cks, cks_app, List.length_append, List.length_map]
          refine ⟨by rw [sizeLine_eq]; omega, by rw [sizeLine_eq]; omega, ?_⟩
          refine ih _ ⟨p2, _, _, _, _, _, _, rfl, hp2, fun c hc => ?_, ?_, ?_, by rw [e5, cut_to cs (by omega), cut_from cs (by omega)]; exact hput⟩
          · rcases List.mem_append.mp hc with z | z
            · rcases List.mem_append.mp z with z | z
              · exact g2 c (cut_mem z)
              · exact hpo c z
            · exact g2 c (cut_mem z)
          · rw [List.length_append, List.length_append, hpl]; omega
          · rw [List.length_append, List.length_append, hpl]; omega
        · exact ih _ ⟨p2, cs, _, _, _, _, _, rfl, hp2, g2, g3, g4, g5⟩
      · exact ih _ ⟨p2, cs, _, _, _, _, _, rfl, hp2, g2, g3, g4, g5⟩
  · exact h.elim
theorem cle_total (a b : Int × Int) : (cle a b || cle b a) = true := by
  unfold cle
  simp only [Bool.or_eq_true, decide_eq_true_eq]
  omega
theorem cle_trans (a b c : Int × Int) (h1 : cle a b = true) (h2 : cle b c = true) : cle a c = true := by
  unfold cle at *
  simp only [decide_eq_true_eq] at *
  omega
theorem sort_clt {cs : List (Int × Int)} (nd : cs.Nodup) : (cs.mergeSort cle).Pairwise clt := by
  have h1 : (cs.mergeSort cle).Pairwise (fun a b => cle a b = true) := List.pairwise_mergeSort (fun a b c => cle_trans a b c) (fun a b => cle_total a b) cs
  have h2 : (cs.mergeSort cle).Nodup := (List.mergeSort_perm cs cle).nodup_iff.mpr nd
  refine List.Pairwise.imp (fun {a b} ⟨x, y⟩ => ?_) (h1.and h2)
  unfold cle at x
  simp only [decide_eq_true_eq] at x
  unfold clt
  by_cases e : a.1 = b.1
  · have : a.2 ≠ b.2 := fun z => y (Prod.ext e z)
    omega
  · omega
end Dl
end L2

/-! The plain half, 15: small helpers. -/
namespace L2
namespace Dl
open PySem PySem.Spec PyProof.Rows
theorem eqv_lnil (xs : List PyData) : PyData.eqv (.list xs) (.list []) = xs.isEmpty := by cases xs <;> rfl
def iv : PyData → Int
  | .int n => n
  | _ => 0
end Dl
end L2

/-! The plain half, 16: refusals; rounds gone through. -/
namespace L2
namespace Dl
open PySem PySem.Spec PyProof.Rows
/-- clocks as all are -/
structure GC (cs : List (Int × Int)) : Prop where
  ok : ∀ c ∈ cs, CkOk 1000 c
  len : cs.length ≤ 100
theorem GC.one {cs : List (Int × Int)} (h : GC cs) : ∀ c ∈ cs, 1 ≤ c.1 := fun c z => (h.ok c z).1
theorem GC.pb3 {cs : List (Int × Int)} (h : GC cs) : (prodS cs).natAbs < 2 ^ 3000 := prodS_b3 h.ok h.len
theorem GC.pb {cs : List (Int × Int)} (h : GC cs) : (prodS cs).natAbs < 2 ^ 8000 := prodS_b h.ok h.len
theorem GC.rp {cs : List (Int × Int)} (h : GC cs) : 0 < rnd 1 cs := (rnd_spec cs 1 (by decide) h.one).1
theorem GC.rb {cs : List (Int × Int)} (h : GC cs) : (rnd 1 cs).natAbs < 2 ^ 3000 := nab_lt (by have := h.rp; omega) (by have := rnd_le (f := 1) (by decide) h.one; omega) h.pb3
theorem GC.rok {cs : List (Int × Int)} (h : GC cs) {Q : List (Int × Int) → Prop} (q : Q cs) : RndOk (cks cs) Q := ⟨cs, rfl, h.one, h.pb, q⟩
theorem GC.nil : GC [] := ⟨fun _ z => (by cases z), by decide⟩
theorem GC.of {m : Int} {cs : List (Int × Int)} (hm : m ≤ 1000) (h : ∀ c ∈ cs, CkOk m c) (hl : cs.length ≤ 100) : GC cs := ⟨ck_mono hm h, hl⟩
/-- 0, 1, .. below n -/
def rgI (n : Int) : List Int := (List.range n.toNat).map fun (i : Nat) => (i : Int)
theorem rgI_d (n : Int) : ((List.range n.toNat).map fun (i : Nat) => PyData.int (i : Int)) = (rgI n).map .int := by
  unfold rgI
  rw [List.map_map]
  rfl
theorem rgI_len (n : Int) : (rgI n).length = n.toNat := by unfold rgI; rw [List.length_map, List.length_range]
theorem rgI_mem {n m : Int} : m ∈ rgI n ↔ 0 ≤ m ∧ m < n := by
  unfold rgI
  constructor
  · intro h
    obtain ⟨i, hi, rfl⟩ := List.mem_map.mp h
    have := List.mem_range.mp hi
    omega
  · intro ⟨h1, h2⟩
    exact List.mem_map.mpr ⟨m.toNat, List.mem_range.mpr (by omega), by omega⟩
/-- a for that returns the first that is so -/
theorem each_find {β : Type} {g : WG} {t : WS} {k : Ken} (en : β → PyData) (xs : List β) (p : β → Bool) (J : Ev → Prop) (fin : ∀ e, J e → xs.find? p = none → k.nx e)
    (step : ∀ n ∈ xs, ∀ e (R : Ev → Prop), J e → (p n = true → xs.find? p = some n) → (p n = false → ∀ e2, J e2 → R e2) → g (en n) e (fun e1 => t e1 { k with nx := R, ct := R, bk := k.nx })) :
    ∀ e, J e → wEach g t (xs.map en) e k := by
  have gen : ∀ (l : List β) e, (∀ n ∈ l, n ∈ xs) → xs.find? p = l.find? p → J e → wEach g t (l.map en) e k := by
    intro l
    induction l with
    | nil => intro e _ hf h; exact fin e h (by rw [hf]; rfl)
    | cons n l ih =>
      intro e hs hf h
      refine step n (hs n List.mem_cons_self) e _ h (fun hp => by rw [hf, List.find?_cons_of_pos hp]) fun hp e2 h2 => ?_
      exact ih e2 (fun m hm => hs m (List.mem_cons_of_mem _ hm)) (by rw [hf, List.find?_cons_of_neg (by rw [hp]; decide)]) h2
  exact fun e h => gen xs e (fun _ z => z) rfl h
/-! ### what an exception is called -/
end Dl
end L2

/-! The plain half, 17: what goes round: missed numbers. -/
namespace L2
namespace Dl
open PySem PySem.Spec PyProof.Rows
local macro_rules | `(tactic| dsimp? [$xs,*] $[$l]?) => `(tactic| simp only [wSeq, wNext, wBreak, wCont, wDrop, wRet, wRetN, wIfS, wSet, wAsgT, e_aug, e_setIx, e_par, e_gN, getS_0, getS_s, setS_0, setS_s, e_var, varK_v, varK_o, varK_u, wC, wBin, rdK_v, rdK_t, rdK_s, rdS_v, rdS_o, rdS_u, fzK_v, fzK_t, fzK_s, fzS_v, fzS_o, fzS_l, fzS_u, e_fz, asg_v, asg_t, asg_s, e_tb, tbK_b, wAnd, wOr, wNot, e_notV, e_andV, e_orV, wBV, wIf, e_neg, intK_i, e_oso, wONo, e_rng1, e_rng2, wFNil, wFCons, wANil, wACons, wTup, wLst, e_callB, rdAllK_n, rdAllK_c, wIsi, e_call, wMNil, wMCons, e_ld, lnsOf, avsK_n, avsK_f, avsK_l, lnS_o, lnS_v, lnS_u, poK_n, poK_c, poS_o, inS_0, inS_s, rsK_v, rsK_o, wSl, e_ownF, e_own0, ownB_o, oS_o, oS_v, oS_u, agS_i, muApp, oAdd_i, oAdd_l, oAdd_t, oAdd_s, oSub_i, oMul_i, oFdiv_i, oMod_i, oPow_i, oShl_i, oShr_i, oOr_i, oAndB_i, oLt_i, oLe_i, oGt_i, oGe_i, oEq_i, oNe_i, oEq, oNe, oIx_l, oIx_t, oLen_l, oLen_t, oInt_i, oInt_b, oMax_i, oMin_i, oList_l, oList_t, oTuple_l, oTuple_t, oSorted_l, oSorted_t, oIs_n, oIsN_n, oIs_b, oIsN_b, isNone_n, isNone_t, isNone_l, isNone_i, isNone_s, isNone_b, oSl_l, oSl_t, oIn, gT_t, gC_c, gNil', e_iseq, sqK_l, sqK_t, e_isq, sq2K_l, sq2K_t, e_sset, ssK_l, ssK_t, e_chain, e_lr1, e_lr2, wRev, rvD_l, rvD_t, e_in1, e_in2, negB_f, negB_t, wIZip, zpK_l, zpK_t, zpK_m, e_extend, extR_t, wYes, startEv, kenD_nx, kenD_rt, kenD_bk, kenD_ct, kenD_ex, outK_n, outK_c, otS_o, rvK_v, rvK_t, rvK_s, rvS_v, rvS_o, slOf, lsFrom, wipeE, restE, List.map_cons, List.map_nil, List.length_cons, List.length_nil, List.replicate, List.append_nil, List.cons_append, List.nil_append, List.getElem?_cons_zero, List.getElem?_cons_succ, List.getElem?_nil, List.set_cons_zero, List.set_cons_succ, List.set_nil, Option.getD_some, Option.getD_none, Option.map_some, Option.map_none, Option.some.injEq, Rs.val.injEq, Rs.tmp.injEq, Rs.slot.injEq, Sl.own.injEq, Sl.val.injEq, PyData.int.injEq, PyData.bool.injEq, PyData.str.injEq, PyData.list.injEq, PyData.tuple.injEq, Prod.mk.injEq, Nat.sub_self, Nat.zero_add, Nat.reduceAdd, Nat.reduceSub, Nat.add_zero, isTy_int_int, isTy_bool_int, isTy_int_bool, isTy_bool_bool, isTy_int_tup, isTy_int_lst, isTy_int_non, isTy_int_str, isTy_tup_tup, isTy_tup_lst, isTy_tup_int, isTy_tup_bool, isTy_tup_non, isTy_tup_str, isTy_lst_lst, isTy_lst_tup, isTy_lst_int, exists_eq_left', exists_eq_left, exists_and_left, exists_eq_right, exists_eq, exists_eq', exists_const, true_and, and_true, and_self, Bool.not_true, Bool.not_false, if_true, if_false, Bool.false_eq_true, reduceIte, reduceCtorEq, List.nodup_nil, decide_eq_true_eq, atI_0, atI_1, atI_2, atI_3, atI_4, atI_5, atI_6, atI_7, atI_8, atI_9, atI_10, atI_11, ixN_3_0, ixN_3_1, ixN_3_2, sh_int, sh_bool, sh_non, and_assoc, nd1, nd_true, eq_self, decide_true, decide_false, Int.cast_ofNat_Int, not_true_eq_false, not_false_eq_true, eqv_ii, eqv_bb, wRaise0, e_raiseG, grK_i, e_raise1, onK_i, e_callX, xa_1, xa_2, xa_3, xa_4, xa_5, xa_6, xa_7, e_many, e_most, e_number, e_row, isLst_l, lsK_l, e_rd, e_br, brS_o, brS_v, arS_o, arS_v, avbK_n, avbK_f, avbK_l, scK_b, scK_i, scK_n, scK_s, e_callS, tmK_t, e_rep, enK_l, e_ienum, wTry, eqv_ss, tpK_v, txK_1, tutK_t, e_repT, e_callT, enTK_t, e_ienumT, r3K_i, e_rng3, e_newD, e_putD, e_lenD, e_listD, dcS_d, dcB_d, pvK_b, pvK_i, tkK_m, tkK_2, e_ssetI, oMinL_c, e_lset, e_lstZ, zlK_c, e_ins, $xs,*] $[$l]?)
def sp_check_round : Spc := fun avs Kr Kx => match avs with
  | [.val (.tuple ds)] => ∃ cs, ds = cks cs ∧ GC cs ∧ (rnd 1 cs ≤ 10000 → Kr [] (.val .none)) ∧ (10000 < rnd 1 cs → False)
  | _ => False
/-- check_round: 0 clocks -/
def w_check_round : WS :=
  (wIfS (wTB (wBin oGt (wCall 1 sp_round_of (wMCons (wVar 0) wMNil)) (wC (.int 10000)))) wNever wNext)

theorem vc_check_round : ∀ avs Kr Kx, avs.length = 1 → sp_check_round avs Kr Kx → lsFrom 0 avs = [] ∧ w_check_round (startEv 1 avs) (kenD [] Kr Kx) := by
  intro avs Kr Kx hl h
  unfold sp_check_round at h
  split at h
  · rename_i ds
    obtain ⟨cs, rfl, hc, q1, q2⟩ := h
    refine ⟨rfl, ?_⟩
    dsimp? [w_check_round, sp_round_of]
    refine hc.rok ?_
    split
    · rename_i h
      first | exact q2 h | (refine hc.rok ?_; exact q2 h)
    · rename_i h
      exact q1 (by omega)
  · exact h.elim
/-- the missed numbers of a round -/
def msF (cs : List (Int × Int)) : List Int := (rgI (rnd 1 cs)).filter fun n => decide (rgF cs n = [])
theorem ev_nil (cs : List (Int × Int)) (n : Int) : PyData.eqv (.list (cks (rgF cs n))) (.list []) = decide (rgF cs n = []) := eqv_lcks (rgF cs n) []
def fmD (cs : List (Int × Int)) : PyData := match (msF cs).head? with
  | some n => .int n
  | none => .none
theorem ms_find (cs : List (Int × Int)) : (rgI (rnd 1 cs)).find? (fun n => decide (rgF cs n = [])) = (msF cs).head? := by unfold msF; rw [List.head?_filter]
def sp_first_missed : Spc := fun avs Kr Kx => match avs with
  | [.val (.tuple ds)] => ∃ cs, ds = cks cs ∧ GC cs ∧ (rnd 1 cs ≤ 10000 → Kr [] (.val (fmD cs))) ∧ (10000 < rnd 1 cs → False)
  | _ => False
def w_first_missed_B1 : WS :=
  (wIfS (wTB (wBin oEq (wCall 2 sp_rings_at (wMCons (wVar 0) (wMCons (wVar 1) wMNil))) (wLst wFNil))) (wRet (wVar 1)) wNext)
def w_first_missed_L1 : WS :=
  wFor (wIRng1 (wCall 1 sp_round_of (wMCons (wVar 0) wMNil))) (gN 1) w_first_missed_B1
def w_first_missed_R1 : WS :=
  (wRet (wC .none))
/-- first_missed: 0 clocks, 1 number -/
def w_first_missed : WS :=
  (wSeq (wDrop (wCall 1 sp_check_round (wMCons (wVar 0) wMNil)))
    (wSeq w_first_missed_L1
    w_first_missed_R1))

theorem vc_first_missed : ∀ avs Kr Kx, avs.length = 1 → sp_first_missed avs Kr Kx → lsFrom 0 avs = [] ∧ w_first_missed (startEv 2 avs) (kenD [] Kr Kx) := by
  intro avs Kr Kx hl h
  unfold sp_first_missed at h
  split at h
  · rename_i ds
    obtain ⟨cs, rfl, hc, q1, q2⟩ := h
    refine ⟨rfl, ?_⟩
    have rp := hc.rp
    unfold w_first_missed
    refine seq_cut fun R hR => ?_
    dsimp? [sp_check_round]
    refine ⟨cs, rfl, hc, fun hr => hR _ ?_, q2⟩
    dsimp? [w_first_missed_L1, wFor, sp_round_of]
    refine hc.rok ?_
    dsimp? [rgI_d]
    refine ⟨by omega, by omega, ?_⟩
    refine each_find PyData.int (rgI (rnd 1 cs)) (fun n => decide (rgF cs n = [])) (fun e => ∃ x1, e = [.val (.tuple (cks cs)), x1]) ?_ ?_ _ ⟨_, rfl⟩
    · rintro e ⟨x1, rfl⟩ hf
      dsimp? [w_first_missed_R1]
      rw [ms_find] at hf
      unfold fmD at q1
      rw [hf] at q1
      exact q1 hr
    · rintro n hn e R ⟨x1, rfl⟩ hf ih
      dsimp? [w_first_missed_B1, sp_rings_at]
      refine ⟨cs, rfl, hc.one, by have := hc.len; omega, ?_⟩
      refine ⟨by decide, sh_lck _, sh_lck [], ?_⟩
      rw [ev_nil]
      cases hz : decide (rgF cs n = []) with
      | true =>
        have hf := hf hz
        rw [ms_find] at hf
        unfold fmD at q1
        rw [hf] at q1
        exact q1 hr
      | false => exact ih hz _ ⟨_, rfl⟩
  · exact h.elim
theorem fmD_none (cs : List (Int × Int)) : isNone (fmD cs) = decide (msF cs = []) := by
  unfold fmD
  cases h : msF cs with
  | nil => rfl
  | cons n l => rfl
def sp_covers : Spc := fun avs Kr Kx => match avs with
  | [.val (.tuple ds)] => ∃ cs, ds = cks cs ∧ GC cs ∧ (rnd 1 cs ≤ 10000 → Kr [] (.val (.bool (decide (msF cs = []))))) ∧ (10000 < rnd 1 cs → False)
  | _ => False
/-- covers: 0 clocks -/
def w_covers : WS :=
  (wRet (wBin oIs (wCall 1 sp_first_missed (wMCons (wVar 0) wMNil)) (wC .none)))

theorem vc_covers : ∀ avs Kr Kx, avs.length = 1 → sp_covers avs Kr Kx → lsFrom 0 avs = [] ∧ w_covers (startEv 1 avs) (kenD [] Kr Kx) := by
  intro avs Kr Kx hl h
  unfold sp_covers at h
  split at h
  · rename_i ds
    obtain ⟨cs, rfl, hc, q1, q2⟩ := h
    refine ⟨rfl, ?_⟩
    dsimp? [w_covers, sp_first_missed]
    refine ⟨cs, rfl, hc, fun hr => ?_, q2⟩
    dsimp? [fmD_none]
    exact q1 hr
  · exact h.elim

/-! a list that is as it is due, of whole numbers -/
theorem ints_inj : ∀ {a b : List Int}, a.map PyData.int = b.map PyData.int → a = b
  | [], [], _ => rfl
  | [], _ :: _, h => by cases h
  | _ :: _, [], h => by cases h
  | x :: a, y :: b, h => by
    simp only [List.map_cons, List.cons.injEq, PyData.int.injEq] at h
    rw [h.1, ints_inj h.2]
end Dl
end L2

/-! The plain half, 18: clocks in order, stretched, put in. -/
namespace L2
namespace Dl
open PySem PySem.Spec PyProof.Rows
/-! clocks rising, each once -/
theorem clt_tr {a b c : Int × Int} (h1 : clt a b) (h2 : clt b c) : clt a c := by
  unfold clt at *
  omega
theorem clt_ir {a : Int × Int} (h : clt a a) : False := by
  unfold clt at h
  omega
theorem clt_uniq : ∀ {M N : List (Int × Int)}, M.Pairwise clt → N.Pairwise clt → (∀ c, c ∈ M ↔ c ∈ N) → M = N
  | [], [], _, _, _ => rfl
  | [], b :: N, _, _, h => by cases (h b).mpr List.mem_cons_self
  | a :: M, [], _, _, h => by cases (h a).mp List.mem_cons_self
  | a :: M, b :: N, h1, h2, h => by
    obtain ⟨p1, q1⟩ := List.pairwise_cons.mp h1
    obtain ⟨p2, q2⟩ := List.pairwise_cons.mp h2
    have e : a = b := by
      rcases List.mem_cons.mp ((h a).mp List.mem_cons_self) with z | z
      · exact z
      · rcases List.mem_cons.mp ((h b).mpr List.mem_cons_self) with y | y
        · exact y.symm
        · exact (clt_ir (clt_tr (p1 b y) (p2 a z))).elim
    subst e
    rw [clt_uniq q1 q2 fun c => ?_]
    constructor
    · intro hc
      rcases List.mem_cons.mp ((h c).mp (List.mem_cons_of_mem _ hc)) with z | z
      · subst z; exact (clt_ir (p1 c hc)).elim
      · exact z
    · intro hc
      rcases List.mem_cons.mp ((h c).mpr (List.mem_cons_of_mem _ hc)) with z | z
      · subst z; exact (clt_ir (p2 c hc)).elim
      · exact z
/-- each once, rising -/
def ordC (cs : List (Int × Int)) : List (Int × Int) := cs.eraseDups.mergeSort cle
theorem mem_ordC {cs : List (Int × Int)} {c : Int × Int} : c ∈ ordC cs ↔ c ∈ cs := by
  unfold ordC
  rw [(List.mergeSort_perm _ cle).mem_iff, List.mem_eraseDups]
theorem nodup_eraseDups : ∀ (n : Nat) (cs : List (Int × Int)), cs.length ≤ n → cs.eraseDups.Nodup
  | _, [], _ => by simp
  | 0, _ :: _, h => by cases h
  | n + 1, c :: cs, h => by
    rw [List.eraseDups_cons]
    refine List.nodup_cons.mpr ⟨fun z => ?_, nodup_eraseDups n _ (Nat.le_trans (List.length_filter_le _ _) (by simpa using h))⟩
    rw [List.mem_eraseDups, List.mem_filter] at z
    simp at z
theorem clt_ordC (cs : List (Int × Int)) : (ordC cs).Pairwise clt := sort_clt (nodup_eraseDups _ _ (Nat.le_refl _))
theorem ordC_eq {cs M : List (Int × Int)} (h : M.Pairwise clt) (hm : ∀ c, c ∈ M ↔ c ∈ cs) : M = ordC cs := clt_uniq h (clt_ordC cs) fun c => by rw [hm c, mem_ordC]
theorem ordC_sort {cs ds : List (Int × Int)} (nd : cs.Nodup) (h : ∀ c, c ∈ cs ↔ c ∈ ds) : cs.mergeSort cle = ordC ds := ordC_eq (sort_clt nd) fun c => by rw [(List.mergeSort_perm _ cle).mem_iff, h c]
theorem ordC_id {cs : List (Int × Int)} (h : cs.Pairwise clt) : ordC cs = cs := (ordC_eq h fun _ => Iff.rfl).symm
theorem len_eraseDups : ∀ (n : Nat) (cs : List (Int × Int)), cs.length ≤ n → cs.eraseDups.length ≤ cs.length
  | _, [], _ => by simp
  | 0, _ :: _, h => by cases h
  | n + 1, c :: cs, h => by
    rw [List.eraseDups_cons, List.length_cons, List.length_cons]
    have h1 := List.length_filter_le (fun b => !b == c) cs
    have h2 := len_eraseDups n (cs.filter fun b => !b == c) (Nat.le_trans h1 (by simpa using h))
    omega
theorem ordC_len (cs : List (Int × Int)) : (ordC cs).length ≤ cs.length := by
  unfold ordC
  rw [List.length_mergeSort]
  exact len_eraseDups _ _ (Nat.le_refl _)
theorem ordC_ss {cs : List (Int × Int)} {K : Rs → Prop} {m : Int} (hm : m ≤ 2 ^ 60) (hc : ∀ c ∈ cs, CkOk m c) (hl : cs.length < 64) (h : K (.tmp (cks (ordC cs)))) : oSortSet (cks cs) K :=
  ss_clocks hm hc hl fun ms nd mem pw => by rw [ordC_eq pw mem]; exact h
def InO (ds : List PyData) (K : List (Int × Int) → Prop) : Prop := ∃ (m : Int) (cs : List (Int × Int)), ds = cks cs ∧ m ≤ 2 ^ 60 ∧ (∀ c ∈ cs, CkOk m c) ∧ cs.length < 64 ∧ K (ordC cs)
theorem InO.mk {m : Int} {cs : List (Int × Int)} {K : List (Int × Int) → Prop} (hm : m ≤ 2 ^ 60) (h : ∀ c ∈ cs, CkOk m c) (hl : cs.length < 64) (k : K (ordC cs)) : InO (cks cs) K := ⟨m, cs, rfl, hm, h, hl, k⟩
theorem sh_ck (c : Int × Int) : SeqAt.shaped (ck c) = true := (ShN.ck c).sh (by decide)
/-! what is told of a refusal -/
end Dl
end L2

/-! The plain half, 19: clocks that ring alone; no places. -/
namespace L2
namespace Dl
open PySem PySem.Spec PyProof.Rows

def optI : Option Int → PyData
  | some n => .int n
  | none => .none
theorem lc_fl {β : Type} {vs : List Nat} {g : WG} {ct : WT} {we : WE} {K : Ev → List PyData → Prop} {env : Ev} (en : β → PyData) (p : β → Bool) (xs : List β) (hl : xs.length ≤ 100000)
    (h : ∀ c ∈ xs, ∀ (A : PyData → Ev → Prop) (N : Ev → Prop), (if p c = true then A (en c) env else N env) → g (en c) env (fun e1 => ct e1 (fun e2 b => if b = true then wFz we e2 (fun e3 y => A y (wipeE e3 vs)) NoX else N (wipeE e2 vs)) NoX))
    (hK : K env ((xs.filter p).map en)) : wLcE vs g ct we (xs.map en) [] env K := by
  refine lc_fm en (fun c => if p c = true then some (en c) else none) xs [] (fun c hn A N hA => h c hn A N ?_) (small100000 (by rw [List.length_nil]; omega)) ?_
  · generalize p c = z at *
    cases z with
    | true => exact hA
    | false => exact hA
  · have e : xs.filterMap (fun c => if p c = true then some (en c) else none) = (xs.filter p).map en := by
      clear hK h hl
      induction xs with
      | nil => rfl
      | cons x xs ih =>
        rw [List.filterMap_cons, List.filter_cons]
        cases hx : p x with
        | true =>
          simp only [if_true, List.map_cons]
          rw [ih]
        | false =>
          simp only [Bool.false_eq_true, if_false]
          rw [ih]
    rw [List.nil_append, e]
    exact hK


end Dl
end L2

/-! The plain half, 20: clocks mirrored, stretched; numbers; what rings. -/
namespace L2
namespace Dl
open PySem PySem.Spec PyProof.Rows
end Dl
end L2

/-! The plain half, 21: what is a clock; where two meet, by looking. -/
namespace L2
namespace Dl
open PySem PySem.Spec PyProof.Rows
local macro_rules | `(tactic| dsimp? [$xs,*] $[$l]?) => `(tactic| simp only [wSeq, wNext, wBreak, wCont, wDrop, wRet, wRetN, wIfS, wSet, wAsgT, e_aug, e_setIx, e_par, e_gN, getS_0, getS_s, setS_0, setS_s, e_var, varK_v, varK_o, varK_u, wC, wBin, rdK_v, rdK_t, rdK_s, rdS_v, rdS_o, rdS_u, fzK_v, fzK_t, fzK_s, fzS_v, fzS_o, fzS_l, fzS_u, e_fz, asg_v, asg_t, asg_s, e_tb, tbK_b, wAnd, wOr, wNot, e_notV, e_andV, e_orV, wBV, wIf, e_neg, intK_i, e_oso, wONo, e_rng1, e_rng2, wFNil, wFCons, wANil, wACons, wTup, wLst, e_callB, rdAllK_n, rdAllK_c, wIsi, e_call, wMNil, wMCons, e_ld, lnsOf, avsK_n, avsK_f, avsK_l, lnS_o, lnS_v, lnS_u, poK_n, poK_c, poS_o, inS_0, inS_s, rsK_v, rsK_o, wSl, e_ownF, e_own0, ownB_o, oS_o, oS_v, oS_u, agS_i, muApp, oAdd_i, oAdd_l, oAdd_t, oAdd_s, oSub_i, oMul_i, oFdiv_i, oMod_i, oPow_i, oShl_i, oShr_i, oOr_i, oAndB_i, oLt_i, oLe_i, oGt_i, oGe_i, oEq_i, oNe_i, oEq, oNe, oIx_l, oIx_t, oLen_l, oLen_t, oInt_i, oInt_b, oMax_i, oMin_i, oList_l, oList_t, oTuple_l, oTuple_t, oSorted_l, oSorted_t, oIs_n, oIsN_n, oIs_b, oIsN_b, isNone_n, isNone_t, isNone_l, isNone_i, isNone_s, isNone_b, oSl_l, oSl_t, oIn, gT_t, gC_c, gNil', e_iseq, sqK_l, sqK_t, e_isq, sq2K_l, sq2K_t, e_sset, ssK_l, ssK_t, e_chain, e_lr1, e_lr2, wRev, rvD_l, rvD_t, e_in1, e_in2, negB_f, negB_t, wIZip, zpK_l, zpK_t, zpK_m, e_extend, extR_t, wYes, startEv, kenD_nx, kenD_rt, kenD_bk, kenD_ct, kenD_ex, outK_n, outK_c, otS_o, rvK_v, rvK_t, rvK_s, rvS_v, rvS_o, slOf, lsFrom, wipeE, restE, List.map_cons, List.map_nil, List.length_cons, List.length_nil, List.replicate, List.append_nil, List.cons_append, List.nil_append, List.getElem?_cons_zero, List.getElem?_cons_succ, List.getElem?_nil, List.set_cons_zero, List.set_cons_succ, List.set_nil, Option.getD_some, Option.getD_none, Option.map_some, Option.map_none, Option.some.injEq, Rs.val.injEq, Rs.tmp.injEq, Rs.slot.injEq, Sl.own.injEq, Sl.val.injEq, PyData.int.injEq, PyData.bool.injEq, PyData.str.injEq, PyData.list.injEq, PyData.tuple.injEq, Prod.mk.injEq, Nat.sub_self, Nat.zero_add, Nat.reduceAdd, Nat.reduceSub, Nat.add_zero, isTy_int_int, isTy_bool_int, isTy_int_bool, isTy_bool_bool, isTy_int_tup, isTy_int_lst, isTy_int_non, isTy_int_str, isTy_tup_tup, isTy_tup_lst, isTy_tup_int, isTy_tup_bool, isTy_tup_non, isTy_tup_str, isTy_lst_lst, isTy_lst_tup, isTy_lst_int, exists_eq_left', exists_eq_left, exists_and_left, exists_eq_right, exists_eq, exists_eq', exists_const, true_and, and_true, and_self, Bool.not_true, Bool.not_false, if_true, if_false, Bool.false_eq_true, reduceIte, reduceCtorEq, List.nodup_nil, decide_eq_true_eq, atI_0, atI_1, atI_2, atI_3, atI_4, atI_5, atI_6, atI_7, atI_8, atI_9, atI_10, atI_11, ixN_3_0, ixN_3_1, ixN_3_2, sh_int, sh_bool, sh_non, and_assoc, nd1, nd_true, eq_self, decide_true, decide_false, Int.cast_ofNat_Int, not_true_eq_false, not_false_eq_true, eqv_ii, eqv_bb, wRaise0, e_raiseG, grK_i, e_raise1, onK_i, e_callX, xa_1, xa_2, xa_3, xa_4, xa_5, xa_6, xa_7, e_many, e_most, e_number, e_row, isLst_l, lsK_l, e_rd, e_br, brS_o, brS_v, arS_o, arS_v, avbK_n, avbK_f, avbK_l, scK_b, scK_i, scK_n, scK_s, e_callS, tmK_t, e_rep, enK_l, e_ienum, wTry, eqv_ss, tpK_v, txK_1, tutK_t, e_repT, e_callT, enTK_t, e_ienumT, r3K_i, e_rng3, e_newD, e_putD, e_lenD, e_listD, dcS_d, dcB_d, pvK_b, pvK_i, tkK_m, tkK_2, e_ssetI, oMinL_c, e_lset, e_lstZ, zlK_c, e_ins, $xs,*] $[$l]?)
/-- a clock -/
def cgB : PyData → Bool
  | .tuple [.int s, .int r] => decide (1 ≤ s) && (decide (s ≤ 1000) && (decide (0 ≤ r) && decide (r < s)))
  | _ => false
theorem cgB_ck {c : Int × Int} : cgB (ck c) = true ↔ CkOk 1000 c := by
  unfold ck cgB CkOk
  simp only [Bool.and_eq_true, decide_eq_true_iff]
def sp_clock_good : Spc := fun avs Kr Kx => match avs with
  | [.val d] => Kr [] (.val (.bool (cgB d)))
  | _ => False
/-- clock_good: 0 thing -/
def w_clock_good : WS :=
  (wSeq (wIfS (wOr (wNot (wTB (wIsi "tuple" (wVar 0)))) (wOr (wTB (wBin oNe (wCallB oLen (wACons (wVar 0) wANil)) (wC (.int 2)))) (wOr (wNot (wTB (wCall 1 sp_is_whole (wMCons (wBin oIx (wVar 0) (wC (.int 0))) wMNil)))) (wNot (wTB (wCall 1 sp_is_whole (wMCons (wBin oIx (wVar 0) (wC (.int 1))) wMNil))))))) (wRet (wC (.bool false))) wNext)
    (wRet ((wAndV (wChain oLe oLe (wC (.int 1)) (wBin oIx (wVar 0) (wC (.int 0))) (wC (.int 1000))) (wChain oLe oLt (wC (.int 0)) (wBin oIx (wVar 0) (wC (.int 1))) (wBin oIx (wVar 0) (wC (.int 0))))))))

theorem vc_clock_good : ∀ avs Kr Kx, avs.length = 1 → sp_clock_good avs Kr Kx → lsFrom 0 avs = [] ∧ w_clock_good (startEv 1 avs) (kenD [] Kr Kx) := by
  intro avs Kr Kx hl h
  unfold sp_clock_good at h
  split at h
  · rename_i d
    have q := h
    refine ⟨rfl, ?_⟩
    unfold w_clock_good
    refine seq_cut fun R hR => ?_
    cases d with
    | tuple xs =>
      match xs, q with
      | [], q => dsimp? []; rw [if_pos (by decide)]; exact q
      | [a], q =>
        rw [show cgB (.tuple [a]) = false by unfold cgB; split <;> simp_all] at q
        dsimp? []
        rw [if_pos (by decide)]
        exact q
      | a :: b :: c :: l, q =>
        rw [show cgB (.tuple (a :: b :: c :: l)) = false by unfold cgB; split <;> simp_all] at q
        dsimp? []
        rw [if_pos (by omega)]
        exact q
      | [a, b], q =>
        dsimp? [sp_is_whole]
        by_cases ha : isI a = true
        · obtain ⟨s, rfl⟩ := isI_int ha
          by_cases hb : isI b = true
          · obtain ⟨r, rfl⟩ := isI_int hb
            dsimp? [isI]
            refine hR _ ?_
            have q : Kr [] (.val (.bool (decide (1 ≤ s) && (decide (s ≤ 1000) && (decide (0 ≤ r) && decide (r < s)))))) := q
            dsimp? []
            split
            · rename_i h1
              rw [decide_eq_true h1, Bool.true_and] at q
              split
              · rename_i h2
                rw [decide_eq_true h2, Bool.true_and] at q
                split
                · rename_i h3
                  rw [decide_eq_true h3, Bool.true_and] at q
                  exact q
                · rename_i h3
                  rw [decide_eq_false h3, Bool.false_and] at q
                  exact q
              · rename_i h2
                rw [decide_eq_false h2, Bool.false_and] at q
                exact q
            · rename_i h1
              rw [decide_eq_false h1, Bool.false_and] at q
              exact q
          · have e : cgB (.tuple [.int s, b]) = false := by cases b <;> first | rfl | exact absurd rfl hb
            rw [e] at q
            rw [eq_false_of_ne_true hb]
            dsimp? [isI]
            exact q
        · have e : cgB (.tuple [a, b]) = false := by cases a <;> first | rfl | exact absurd rfl ha
          rw [e] at q
          rw [eq_false_of_ne_true ha]
          dsimp? []
          exact q
    | _ => dsimp? [isTy, tyN]; exact q
  · exact h.elim
theorem Meets.mod {c d : Int × Int} {x : Int} : Meets c d (x % lcm2 c d) ↔ Meets c d x := by
  unfold Meets
  rw [Rg.mod (lcm2_l c d), Rg.mod (lcm2_r c d)]
end Dl
end L2

/-! The plain half, 22: clocks good or not, told by anybody. -/
namespace L2
namespace Dl
open PySem PySem.Spec PyProof.Rows
end Dl
end L2

/-! The plain half, 23: papers of cases. -/
namespace L2
namespace Dl
open PySem PySem.Spec PyProof.Rows
local macro_rules | `(tactic| dsimp? [$xs,*] $[$l]?) => `(tactic| simp only [wSeq, wNext, wBreak, wCont, wDrop, wRet, wRetN, wIfS, wSet, wAsgT, e_aug, e_setIx, e_par, e_gN, getS_0, getS_s, setS_0, setS_s, e_var, varK_v, varK_o, varK_u, wC, wBin, rdK_v, rdK_t, rdK_s, rdS_v, rdS_o, rdS_u, fzK_v, fzK_t, fzK_s, fzS_v, fzS_o, fzS_l, fzS_u, e_fz, asg_v, asg_t, asg_s, e_tb, tbK_b, wAnd, wOr, wNot, e_notV, e_andV, e_orV, wBV, wIf, e_neg, intK_i, e_oso, wONo, e_rng1, e_rng2, wFNil, wFCons, wANil, wACons, wTup, wLst, e_callB, rdAllK_n, rdAllK_c, wIsi, e_call, wMNil, wMCons, e_ld, lnsOf, avsK_n, avsK_f, avsK_l, lnS_o, lnS_v, lnS_u, poK_n, poK_c, poS_o, inS_0, inS_s, rsK_v, rsK_o, wSl, e_ownF, e_own0, ownB_o, oS_o, oS_v, oS_u, agS_i, muApp, oAdd_i, oAdd_l, oAdd_t, oAdd_s, oSub_i, oMul_i, oFdiv_i, oMod_i, oPow_i, oShl_i, oShr_i, oOr_i, oAndB_i, oLt_i, oLe_i, oGt_i, oGe_i, oEq_i, oNe_i, oEq, oNe, oIx_l, oIx_t, oLen_l, oLen_t, oInt_i, oInt_b, oMax_i, oMin_i, oList_l, oList_t, oTuple_l, oTuple_t, oSorted_l, oSorted_t, oIs_n, oIsN_n, oIs_b, oIsN_b, isNone_n, isNone_t, isNone_l, isNone_i, isNone_s, isNone_b, oSl_l, oSl_t, oIn, gT_t, gC_c, gNil', e_iseq, sqK_l, sqK_t, e_isq, sq2K_l, sq2K_t, e_sset, ssK_l, ssK_t, e_chain, e_lr1, e_lr2, wRev, rvD_l, rvD_t, e_in1, e_in2, negB_f, negB_t, wIZip, zpK_l, zpK_t, zpK_m, e_extend, extR_t, wYes, startEv, kenD_nx, kenD_rt, kenD_bk, kenD_ct, kenD_ex, outK_n, outK_c, otS_o, rvK_v, rvK_t, rvK_s, rvS_v, rvS_o, slOf, lsFrom, wipeE, restE, List.map_cons, List.map_nil, List.length_cons, List.length_nil, List.replicate, List.append_nil, List.cons_append, List.nil_append, List.getElem?_cons_zero, List.getElem?_cons_succ, List.getElem?_nil, List.set_cons_zero, List.set_cons_succ, List.set_nil, Option.getD_some, Option.getD_none, Option.map_some, Option.map_none, Option.some.injEq, Rs.val.injEq, Rs.tmp.injEq, Rs.slot.injEq, Sl.own.injEq, Sl.val.injEq, PyData.int.injEq, PyData.bool.injEq, PyData.str.injEq, PyData.list.injEq, PyData.tuple.injEq, Prod.mk.injEq, Nat.sub_self, Nat.zero_add, Nat.reduceAdd, Nat.reduceSub, Nat.add_zero, isTy_int_int, isTy_bool_int, isTy_int_bool, isTy_bool_bool, isTy_int_tup, isTy_int_lst, isTy_int_non, isTy_int_str, isTy_tup_tup, isTy_tup_lst, isTy_tup_int, isTy_tup_bool, isTy_tup_non, isTy_tup_str, isTy_lst_lst, isTy_lst_tup, isTy_lst_int, exists_eq_left', exists_eq_left, exists_and_left, exists_eq_right, exists_eq, exists_eq', exists_const, true_and, and_true, and_self, Bool.not_true, Bool.not_false, if_true, if_false, Bool.false_eq_true, reduceIte, reduceCtorEq, List.nodup_nil, decide_eq_true_eq, atI_0, atI_1, atI_2, atI_3, atI_4, atI_5, atI_6, atI_7, atI_8, atI_9, atI_10, atI_11, ixN_3_0, ixN_3_1, ixN_3_2, sh_int, sh_bool, sh_non, and_assoc, nd1, nd_true, eq_self, decide_true, decide_false, Int.cast_ofNat_Int, not_true_eq_false, not_false_eq_true, eqv_ii, eqv_bb, wRaise0, e_raiseG, grK_i, e_raise1, onK_i, e_callX, xa_1, xa_2, xa_3, xa_4, xa_5, xa_6, xa_7, e_many, e_most, e_number, e_row, isLst_l, lsK_l, e_rd, e_br, brS_o, brS_v, arS_o, arS_v, avbK_n, avbK_f, avbK_l, scK_b, scK_i, scK_n, scK_s, e_callS, tmK_t, e_rep, enK_l, e_ienum, wTry, eqv_ss, tpK_v, txK_1, tutK_t, e_repT, e_callT, enTK_t, e_ienumT, r3K_i, e_rng3, e_newD, e_putD, e_lenD, e_listD, dcS_d, dcB_d, pvK_b, pvK_i, tkK_m, tkK_2, e_ssetI, oMinL_c, e_lset, e_lstZ, zlK_c, e_ins, $xs,*] $[$l]?)
/-- set rests, None where none is -/
abbrev kps (ks : List (Option Int)) : List PyData := ks.map optI
def fr (ks : List (Option Int)) (i : Nat) : Bool := match ks[i]? with
  | some none => true
  | _ => false
/-- the places of those not set, below m -/
def freeU (ks : List (Option Int)) (m : Nat) : List Nat := (List.range m).filter (fr ks)
abbrev freeI (ks : List (Option Int)) : List Nat := freeU ks ks.length
def nC (ks : List (Option Int)) : Nat := ks.countP Option.isNone
def clP (m : Int) (p : Int × Option Int) : Bool := match p.2 with
  | some r => decide (m % p.1 = r)
  | none => false
/-- the number rings with one that is set -/
def clB (ns : List Int) (ks : List (Option Int)) (m : Int) : Bool := (ns.zip ks).any (clP m)
/-- a paper of cases -/
def cdB : Nat → List Int → List (Option Int) → PyData → Bool
  | 0, _, _, _ => false
  | n + 1, ns, ks, d => match d with
    | .tuple [.int m, .tuple ps] => !clB ns ks m && (decide (ps.length = (freeI ks).length) && ((freeI ks).zip ps).all fun p => cdB n ns (ks.set p.1 (some (m % ns.getD p.1 0))) p.2)
    | _ => false
theorem cdB_at (n : Nat) (ns : List Int) (ks : List (Option Int)) (m : Int) (ps : List PyData) : cdB (n + 1) ns ks (.tuple [.int m, .tuple ps]) = (!clB ns ks m && (decide (ps.length = (freeI ks).length) && ((freeI ks).zip ps).all fun p => cdB n ns (ks.set p.1 (some (m % ns.getD p.1 0))) p.2)) := rfl
theorem cdB_no {n : Nat} {ns : List Int} {ks : List (Option Int)} {d : PyData} (h : ∀ m ps, d ≠ .tuple [.int m, .tuple ps]) : cdB (n + 1) ns ks d = false := by
  unfold cdB
  split
  · exact (h _ _ rfl).elim
  · rfl
theorem fr_iff {ks : List (Option Int)} {i : Nat} : fr ks i = true ↔ ks[i]? = some none := by
  unfold fr
  cases h : ks[i]? with
  | none => exact ⟨fun h => (by cases h), fun h => (by cases h)⟩
  | some o => cases o with
    | none => exact ⟨fun _ => rfl, fun _ => rfl⟩
    | some r => exact ⟨fun h => (by cases h), fun h => (by cases h)⟩
theorem free_mem {ks : List (Option Int)} {i m : Nat} (h : i ∈ freeU ks m) : i < m ∧ ks[i]? = some none := by
  obtain ⟨h1, h2⟩ := List.mem_filter.mp h
  exact ⟨List.mem_range.mp h1, fr_iff.mp h2⟩
theorem freeU_succ (ks : List (Option Int)) (m : Nat) : freeU ks (m + 1) = freeU ks m ++ (if fr ks m = true then [m] else []) := by
  unfold freeU
  rw [List.range_succ, List.filter_append, List.filter_cons, List.filter_nil]
theorem freeU_len (ks : List (Option Int)) (m : Nat) : (freeU ks m).length ≤ m := by
  have := List.length_filter_le (fr ks) (List.range m)
  rwa [List.length_range] at this
theorem nC_set : ∀ {ks : List (Option Int)} {i : Nat} {v : Int}, ks[i]? = some none → nC (ks.set i (some v)) + 1 = nC ks
  | [], _, _, h => by cases h
  | k :: ks, 0, v, h => by
    have h : k = none := Option.some.inj h
    subst h
    show ((some v :: ks).countP Option.isNone) + 1 = (none :: ks).countP Option.isNone
    rw [List.countP_cons, List.countP_cons]
    rfl
  | k :: ks, i + 1, v, h => by
    have ih := nC_set (ks := ks) (i := i) (v := v) h
    unfold nC at ih ⊢
    rw [List.set_cons_succ, List.countP_cons, List.countP_cons]
    omega
theorem cut_toN {α : Type} (xs : List α) (m : Nat) : cutD xs none (some (m : Int)) = xs.take m := by
  unfold cutD
  rw [HT.sIx_none, HT.sIx_nat, List.drop_zero, Nat.sub_zero, List.take_eq_take_iff]
  omega
theorem cut_lenN {α : Type} (ds : List α) (lo hi : Option Int) : (cutD ds lo hi).length ≤ ds.length := by
  unfold cutD
  rw [List.length_take, List.length_drop]
  omega
theorem kps_set {ks : List (Option Int)} {i : Nat} (v : Int) (h : i < ks.length) : cutD (kps ks) none (some (i : Int)) ++ [PyData.int v] ++ cutD (kps ks) (some ((i : Int) + 1)) none = kps (ks.set i (some v)) := by
  rw [cut_toN, show ((i : Int) + 1) = ((i + 1 : Nat) : Int) by omega, cut_from (kps ks) (show i + 1 ≤ (kps ks).length by rw [List.length_map]; omega), List.set_eq_take_append_cons_drop, if_pos h]
  unfold kps
  rw [List.map_append, List.map_cons, List.map_take, List.map_drop, List.append_assoc]
  rfl
theorem zip_ks (ns : List Int) (ks : List (Option Int)) : zipD (ns.map .int) (kps ks) = (ns.zip ks).map fun p => .tuple [.int p.1, optI p.2] := by
  unfold zipD kps
  rw [List.zip_map, List.map_map]
  rfl
theorem zip_ps (fs : List Nat) (ps : List PyData) : zipD (fs.map fun (i : Nat) => PyData.int (i : Int)) ps = (fs.zip ps).map fun p => .tuple [.int p.1, p.2] := by
  unfold zipD
  induction fs generalizing ps with
  | nil => rfl
  | cons f fs ih =>
    cases ps with
    | nil => rfl
    | cons p ps =>
      rw [List.map_cons, List.zip_cons_cons, List.map_cons, ih, List.zip_cons_cons, List.map_cons]
theorem isNone_optI (o : Option Int) : isNone (optI o) = o.isNone := by cases o <;> rfl
theorem atI_kps {ks : List (Option Int)} {i : Nat} {o : Option Int} (h : ks[i]? = some o) : atI (kps ks) (i : Int) = some (optI o) := atI_nat (by rw [List.getElem?_map, h]; rfl)
theorem atI_ns {ns : List Int} {i : Nat} (h : i < ns.length) : atI (ns.map PyData.int) (i : Int) = some (.int (ns.getD i 0)) := atI_nat (by rw [List.getElem?_map, List.getD_eq_getElem?_getD, List.getElem?_eq_getElem h]; rfl)
theorem getD_pos {ns : List Int} {i : Nat} (hs : ∀ s ∈ ns, 0 < s) (h : i < ns.length) : 0 < ns.getD i 0 := by
  rw [List.getD_eq_getElem?_getD, List.getElem?_eq_getElem h]
  exact hs _ (List.getElem_mem h)
/-- what both look at -/
def CdR (n : Nat) (xs ys : List PyData) (d : PyData) (K : Bool → Prop) : Prop := ∃ (ns : List Int) (ks : List (Option Int)), xs = ns.map .int ∧ ys = kps ks ∧ (∀ s ∈ ns, 0 < s) ∧ ns.length = ks.length ∧ ks.length ≤ 6 ∧ nC ks ≤ n ∧ K (cdB (n + 1) ns ks d)
def spA_shows_none (n : Nat) : Spc := fun avs Kr Kx => match avs with
  | [.val (.list xs), .val (.list ys), .val d] => CdR n xs ys d fun b => Kr [] (.val (.bool b))
  | _ => False
def sp_shows_none : Nat → Spc
  | 0 => fun _ _ _ => False
  | n + 1 => spA_shows_none n
def w_shows_none_C1 (n : Nat) : WE :=
  wLc [8, 9] (wIZip (wFCons (wVar 0) (wFCons (wVar 1) wFNil))) (gT 2 (gCons' (gN 8) (gCons' (gN 9) gNil'))) wYes ((wAndV (wBin oIsNot (wVar 9) (wC .none)) (wBin oEq (wBin oMod (wVar 3) (wVar 8)) (wVar 9))))
def w_shows_none_C2 (n : Nat) : WE :=
  wLc [6] (wIRng1 (wCallB oLen (wACons (wVar 0) wANil))) (gN 6) (wTB (wBin oIs (wBin oIx (wVar 1) (wVar 6)) (wC .none))) (wVar 6)
def w_shows_none_B1 (n : Nat) : WS :=
  (wIfS (wNot (wTB (wCall 3 (sp_shows_none n) (wMCons (wVar 0) (wMCons (wBin oAdd (wBin oAdd (wSl (wVar 1) wONo (wOSo (wVar 6))) (wLst (wFCons (wBin oMod (wVar 3) (wBin oIx (wVar 0) (wVar 6))) wFNil))) (wSl (wVar 1) (wOSo (wBin oAdd (wVar 6) (wC (.int 1)))) wONo)) (wMCons (wVar 7) wMNil)))))) (wRet (wC (.bool false))) wNext)
def w_shows_none_L1 (n : Nat) : WS :=
  wFor (wIZip (wFCons (wVar 5) (wFCons (wVar 4) wFNil))) (gT 2 (gCons' (gN 6) (gCons' (gN 7) gNil'))) (w_shows_none_B1 n)
def w_shows_none_R1 (n : Nat) : WS :=
  (wRet (wC (.bool true)))
/-- shows_none: 0 steps, 1 kept, 2 thing, 3 number, 4 papers, 5 left, 6 place, 7 paper, 8 step, 9 rest -/
def w_shows_none (n : Nat) : WS :=
  (wSeq (wIfS (wOr (wNot (wTB (wIsi "tuple" (wVar 2)))) (wOr (wTB (wBin oNe (wCallB oLen (wACons (wVar 2) wANil)) (wC (.int 2)))) (wOr (wNot (wTB (wCall 1 sp_is_whole (wMCons (wBin oIx (wVar 2) (wC (.int 0))) wMNil)))) (wNot (wTB (wIsi "tuple" (wBin oIx (wVar 2) (wC (.int 1))))))))) (wRet (wC (.bool false))) wNext)
    (wSeq (wAsgT (wVar 2) (gT 2 (gCons' (gN 3) (gCons' (gN 4) gNil'))))
    (wSeq (wIfS (wTB (wCallB oAny (wACons ((w_shows_none_C1 n)) wANil))) (wRet (wC (.bool false))) wNext)
    (wSeq (wSet 5 ((w_shows_none_C2 n)))
    (wSeq (wIfS (wTB (wBin oNe (wCallB oLen (wACons (wVar 4) wANil)) (wCallB oLen (wACons (wVar 5) wANil)))) (wRet (wC (.bool false))) wNext)
    (wSeq (w_shows_none_L1 n)
    (w_shows_none_R1 n)))))))

theorem vc_shows_none : ∀ n avs Kr Kx, avs.length = 3 → sp_shows_none (n + 1) avs Kr Kx → lsFrom 0 avs = [] ∧ w_shows_none n (startEv 10 avs) (kenD [] Kr Kx) := by
  intro n avs Kr Kx hl h
  replace h : spA_shows_none n avs Kr Kx := h
  unfold spA_shows_none at h
  split at h
  · rename_i xs ys d
    obtain ⟨ns, ks, rfl, rfl, hs, hkl, h6, hc, q⟩ := h
    refine ⟨rfl, ?_⟩
    have l1 : (ns.map PyData.int).length = ns.length := List.length_map _
    have l2 : (kps ks).length = ks.length := List.length_map _
    unfold w_shows_none
    refine seq_cut fun R hR => ?_
    have main : ∀ m ps, d = .tuple [.int m, .tuple ps] → R [.val (.list (ns.map .int)), .val (.list (kps ks)), .val d, .un, .un, .un, .un, .un, .un, .un] := by
      rintro m ps rfl
      rw [cdB_at] at q
      refine hR _ ?_
      refine seq_cut fun R hR => ?_
      dsimp? []
      refine hR _ ?_
      refine seq_cut fun R hR => ?_
      dsimp? [w_shows_none_C1, wLc]
      rw [zip_ks]
      refine lc_map (fun (p : Int × Option Int) => PyData.tuple [.int p.1, optI p.2]) (fun p => .bool (clP m p)) (ns.zip ks) (fun p hp A hA => ?_) (small100000 (by rw [List.length_zip]; omega)) ?_
      · obtain ⟨a, b⟩ := p
        have ha := hs a (List.of_mem_zip hp).1
        cases b with
        | none =>
          dsimp? [optI]
          exact hA
        | some r =>
          dsimp? [optI]
          refine ⟨ha, ?_⟩
          exact hA
      dsimp? [oAny]
      refine ⟨(ns.zip ks).map (clP m), by rw [List.map_map]; rfl, ?_⟩
      rw [List.any_map, show ((ns.zip ks).any (id ∘ clP m)) = clB ns ks m from rfl]
      cases hcl : clB ns ks m with
      | true =>
        rw [hcl] at q
        exact q
      | false =>
        rw [hcl] at q
        dsimp? []
        refine hR _ ?_
        refine seq_cut fun R hR => ?_
        dsimp? [w_shows_none_C2, wLc, l1]
        refine ⟨by omega, by omega, ?_⟩
        rw [Int.toNat_natCast, hkl]
        refine lc_fl (fun (i : Nat) => PyData.int (i : Int)) (fr ks) (List.range ks.length) (by rw [List.length_range]; omega) (fun i hi A N hA => ?_) ?_
        · have hi := List.mem_range.mp hi
          have ho := List.getElem?_eq_getElem hi
          generalize ks[i] = o at ho
          dsimp? [atI_kps ho]
          rw [isNone_optI]
          unfold fr at hA
          rw [ho] at hA
          cases o <;> exact hA
        dsimp? []
        refine hR _ ?_
        rw [show (List.range ks.length).filter (fr ks) = freeI ks from rfl]
        refine seq_cut fun R hR => ?_
        dsimp? [List.length_map]
        rw [Bool.not_false, Bool.true_and] at q
        have fl := freeU_len ks ks.length
        by_cases hpl : ps.length = (freeI ks).length
        · rw [decide_eq_true hpl, Bool.true_and] at q
          rw [if_neg (by omega)]
          refine hR _ ?_
          dsimp? [w_shows_none_L1, wFor]
          rw [zip_ps]
          refine each_find (fun (p : Nat × PyData) => PyData.tuple [.int p.1, p.2]) ((freeI ks).zip ps) (fun p => !cdB n ns (ks.set p.1 (some (m % ns.getD p.1 0))) p.2) (fun e => ∃ x6 x7 x8 x9, e = [.val (.list (ns.map .int)), .val (.list (kps ks)), .val (.tuple [.int m, .tuple ps]), .val (.int m), .val (.tuple ps), .val (.list ((freeI ks).map fun (i : Nat) => PyData.int (i : Int))), x6, x7, x8, x9]) ?_ ?_ _ ⟨_, _, _, _, rfl⟩
          · rintro e ⟨x6, x7, x8, x9, rfl⟩ hf
            dsimp? [w_shows_none_R1]
            rw [show ((freeI ks).zip ps).all (fun p => cdB n ns (ks.set p.1 (some (m % ns.getD p.1 0))) p.2) = true from List.all_eq_true.mpr fun p hp => by
              have := List.find?_eq_none.mp hf p hp
              simpa using this] at q
            exact q
          · rintro ⟨i, pd⟩ hp e R9 ⟨x6, x7, x8, x9, rfl⟩ hf ih
            have hin := (List.of_mem_zip hp).1
            obtain ⟨hi, hi2⟩ := free_mem hin
            have hcs := nC_set (v := m % ns.getD i 0) hi2
            obtain ⟨n', rfl⟩ : ∃ n', n = n' + 1 := ⟨n - 1, by omega⟩
            have hin2 : i < ns.length := by omega
            have spos := getD_pos hs hin2
            have c1 := cut_lenN (kps ks) none (some (i : Int))
            have c2 := cut_lenN (kps ks) (some ((i : Int) + 1)) none
            have sz := sizeLine_eq
            dsimp? [w_shows_none_B1, atI_ns hin2]
            refine ⟨spos, by decide, by omega, by rw [List.length_append, List.length_singleton]; omega, ?_⟩
            rw [kps_set _ (by omega)]
            dsimp? [sp_shows_none, spA_shows_none]
            refine ⟨ns, ks.set i (some (m % ns.getD i 0)), rfl, rfl, hs, by rw [List.length_set]; exact hkl, by rw [List.length_set]; exact h6, by omega, ?_⟩
            cases hb : cdB (n' + 1) ns (ks.set i (some (m % ns.getD i 0))) pd with
            | true =>
              dsimp? []
              exact ih (by rw [hb]; rfl) _ ⟨_, _, _, _, rfl⟩
            | false =>
              dsimp? []
              have hz := hf (by rw [hb]; rfl)
              rw [show ((freeI ks).zip ps).all (fun p => cdB (n' + 1) ns (ks.set p.1 (some (m % ns.getD p.1 0))) p.2) = false from Bool.eq_false_iff.mpr fun h => by
                have h2 := List.all_eq_true.mp h _ hp
                simp only at h2
                rw [hb] at h2
                cases h2] at q
              exact q
        · rw [decide_eq_false hpl, Bool.false_and] at q
          rw [if_pos (by omega)]
          exact q
    have no : (∀ m ps, d ≠ .tuple [.int m, .tuple ps]) → Kr [] (.val (.bool false)) := fun h => by
      rw [cdB_no h] at q
      exact q
    cases d with
    | tuple xs =>
      match xs, main, no with
      | [], _, no => dsimp? []; rw [if_pos (by decide)]; exact no fun _ _ h => by cases h
      | [a], _, no => dsimp? []; rw [if_pos (by decide)]; exact no fun _ _ h => by cases h
      | a :: b :: c :: l, _, no => dsimp? []; rw [if_pos (by omega)]; exact no fun _ _ h => by cases h
      | [a, b], main, no =>
        dsimp? [sp_is_whole]
        by_cases ha : isI a = true
        · obtain ⟨m, rfl⟩ := isI_int ha
          cases b with
          | tuple ps =>
            dsimp? [isI]
            exact main m ps rfl
          | _ => dsimp? [isI, isTy, tyN]; exact no fun _ _ h => by cases h
        · have e : isI a = false := eq_false_of_ne_true ha
          rw [e]
          dsimp? []
          exact no fun _ _ h => by cases h; exact ha rfl
    | _ => dsimp? [isTy, tyN]; exact no fun _ _ h => by cases h
  · exact h.elim
end Dl
end L2

/-! The plain half, 24: comprehensions that draw. -/
namespace L2
namespace Dl
open PySem PySem.Spec PyProof.Rows
/-- a comprehension whose items draw (no if) -/
theorem lc_st {β : Type} {vs : List Nat} {g : WG} {we : WE} {K : Ev → List PyData → Prop} (en : β → PyData) (Q : PyData → Prop) (J : Ev → Prop) : ∀ (xs : List β) (acc : List PyData) (e : Ev), J e → (∀ d ∈ acc, Q d) → acc.length + xs.length ≤ 100000 →
    (∀ acc' e, J e → (∀ d ∈ acc', Q d) → acc'.length = acc.length + xs.length → K e acc') →
    (∀ x ∈ xs, ∀ e, J e → ∀ (A : PyData → Ev → Prop), (∀ y e2, Q y → J e2 → A y e2) → g (en x) e (fun e1 => wFz we e1 (fun e3 y => A y (wipeE e3 vs)) NoX)) → wLcE vs g wYes we (xs.map en) acc e K
  | [], acc, e, h1, h2, _, hf, _ => hf acc e h1 h2 (by rw [List.length_nil, Nat.add_zero])
  | x :: xs, acc, e, h1, h2, h3, hf, hs => by
    show g (en x) e (fun e1 => wFz we e1 (fun e3 y => acc.length < sizeLine ∧ wLcE vs g wYes we (xs.map en) (acc ++ [y]) (wipeE e3 vs) K) NoX)
    refine hs x List.mem_cons_self e h1 (fun y e2 => acc.length < sizeLine ∧ wLcE vs g wYes we (xs.map en) (acc ++ [y]) e2 K) fun y e2 hy he => ?_
    rw [List.length_cons] at h3
    refine ⟨Nat.lt_of_lt_of_le (by omega : acc.length < 100000) (by decide), lc_st en Q J xs _ e2 he (fun d hd => ?_) (by rw [List.length_append, List.length_singleton]; omega) (fun acc' e' j1 j2 j3 => hf acc' e' j1 j2 (by rw [j3, List.length_append, List.length_singleton, List.length_cons]; omega)) fun x hx => hs x (List.mem_cons_of_mem _ hx)⟩
    rcases List.mem_append.mp hd with z | z
    · exact h2 d z
    · simp only [List.mem_singleton] at z
      subst z
      exact hy
theorem ints_of {P : Int → Prop} : ∀ {acc : List PyData}, (∀ d ∈ acc, ∃ s, d = .int s ∧ P s) → ∃ ns : List Int, acc = ns.map .int ∧ ∀ s ∈ ns, P s
  | [], _ => ⟨[], rfl, fun _ z => (by cases z)⟩
  | d :: acc, h => by
    obtain ⟨s, rfl, hs⟩ := h d List.mem_cons_self
    obtain ⟨ns, rfl, hn⟩ := ints_of fun d hd => h d (List.mem_cons_of_mem _ hd)
    refine ⟨s :: ns, rfl, fun t ht => ?_⟩
    rcases List.mem_cons.mp ht with rfl | ht
    · exact hs
    · exact hn t ht

end Dl
end L2

/-! The plain half, 25: steps, and rests that cover. -/
namespace L2
namespace Dl
open PySem PySem.Spec PyProof.Rows
local macro_rules | `(tactic| dsimp? [$xs,*] $[$l]?) => `(tactic| simp only [wSeq, wNext, wBreak, wCont, wDrop, wRet, wRetN, wIfS, wSet, wAsgT, e_aug, e_setIx, e_par, e_gN, getS_0, getS_s, setS_0, setS_s, e_var, varK_v, varK_o, varK_u, wC, wBin, rdK_v, rdK_t, rdK_s, rdS_v, rdS_o, rdS_u, fzK_v, fzK_t, fzK_s, fzS_v, fzS_o, fzS_l, fzS_u, e_fz, asg_v, asg_t, asg_s, e_tb, tbK_b, wAnd, wOr, wNot, e_notV, e_andV, e_orV, wBV, wIf, e_neg, intK_i, e_oso, wONo, e_rng1, e_rng2, wFNil, wFCons, wANil, wACons, wTup, wLst, e_callB, rdAllK_n, rdAllK_c, wIsi, e_call, wMNil, wMCons, e_ld, lnsOf, avsK_n, avsK_f, avsK_l, lnS_o, lnS_v, lnS_u, poK_n, poK_c, poS_o, inS_0, inS_s, rsK_v, rsK_o, wSl, e_ownF, e_own0, ownB_o, oS_o, oS_v, oS_u, agS_i, muApp, oAdd_i, oAdd_l, oAdd_t, oAdd_s, oSub_i, oMul_i, oFdiv_i, oMod_i, oPow_i, oShl_i, oShr_i, oOr_i, oAndB_i, oLt_i, oLe_i, oGt_i, oGe_i, oEq_i, oNe_i, oEq, oNe, oIx_l, oIx_t, oLen_l, oLen_t, oInt_i, oInt_b, oMax_i, oMin_i, oList_l, oList_t, oTuple_l, oTuple_t, oSorted_l, oSorted_t, oIs_n, oIsN_n, oIs_b, oIsN_b, isNone_n, isNone_t, isNone_l, isNone_i, isNone_s, isNone_b, oSl_l, oSl_t, oIn, gT_t, gC_c, gNil', e_iseq, sqK_l, sqK_t, e_isq, sq2K_l, sq2K_t, e_sset, ssK_l, ssK_t, e_chain, e_lr1, e_lr2, wRev, rvD_l, rvD_t, e_in1, e_in2, negB_f, negB_t, wIZip, zpK_l, zpK_t, zpK_m, e_extend, extR_t, wYes, startEv, kenD_nx, kenD_rt, kenD_bk, kenD_ct, kenD_ex, outK_n, outK_c, otS_o, rvK_v, rvK_t, rvK_s, rvS_v, rvS_o, slOf, lsFrom, wipeE, restE, List.map_cons, List.map_nil, List.length_cons, List.length_nil, List.replicate, List.append_nil, List.cons_append, List.nil_append, List.getElem?_cons_zero, List.getElem?_cons_succ, List.getElem?_nil, List.set_cons_zero, List.set_cons_succ, List.set_nil, Option.getD_some, Option.getD_none, Option.map_some, Option.map_none, Option.some.injEq, Rs.val.injEq, Rs.tmp.injEq, Rs.slot.injEq, Sl.own.injEq, Sl.val.injEq, PyData.int.injEq, PyData.bool.injEq, PyData.str.injEq, PyData.list.injEq, PyData.tuple.injEq, Prod.mk.injEq, Nat.sub_self, Nat.zero_add, Nat.reduceAdd, Nat.reduceSub, Nat.add_zero, isTy_int_int, isTy_bool_int, isTy_int_bool, isTy_bool_bool, isTy_int_tup, isTy_int_lst, isTy_int_non, isTy_int_str, isTy_tup_tup, isTy_tup_lst, isTy_tup_int, isTy_tup_bool, isTy_tup_non, isTy_tup_str, isTy_lst_lst, isTy_lst_tup, isTy_lst_int, exists_eq_left', exists_eq_left, exists_and_left, exists_eq_right, exists_eq, exists_eq', exists_const, true_and, and_true, and_self, Bool.not_true, Bool.not_false, if_true, if_false, Bool.false_eq_true, reduceIte, reduceCtorEq, List.nodup_nil, decide_eq_true_eq, atI_0, atI_1, atI_2, atI_3, atI_4, atI_5, atI_6, atI_7, atI_8, atI_9, atI_10, atI_11, ixN_3_0, ixN_3_1, ixN_3_2, sh_int, sh_bool, sh_non, and_assoc, nd1, nd_true, eq_self, decide_true, decide_false, Int.cast_ofNat_Int, not_true_eq_false, not_false_eq_true, eqv_ii, eqv_bb, wRaise0, e_raiseG, grK_i, e_raise1, onK_i, e_callX, xa_1, xa_2, xa_3, xa_4, xa_5, xa_6, xa_7, e_many, e_most, e_number, e_row, isLst_l, lsK_l, e_rd, e_br, brS_o, brS_v, arS_o, arS_v, avbK_n, avbK_f, avbK_l, scK_b, scK_i, scK_n, scK_s, e_callS, tmK_t, e_rep, enK_l, e_ienum, wTry, eqv_ss, tpK_v, txK_1, tutK_t, e_repT, e_callT, enTK_t, e_ienumT, r3K_i, e_rng3, e_newD, e_putD, e_lenD, e_listD, dcS_d, dcB_d, pvK_b, pvK_i, tkK_m, tkK_2, e_ssetI, oMinL_c, e_lset, e_lstZ, zlK_c, e_ins, $xs,*] $[$l]?)
def st0 (ns : List Int) : List (Int × Int) := ns.map fun s => (s, 0)
def szI (ns : List Int) : Int := rnd 1 (st0 ns)
theorem st0_ok {m : Int} {ns : List Int} (h : ∀ s ∈ ns, 1 ≤ s ∧ s ≤ m) : ∀ c ∈ st0 ns, CkOk m c := fun c hc => by
  obtain ⟨s, hs, rfl⟩ := List.mem_map.mp hc
  have := h s hs
  unfold CkOk
  simp only
  omega
theorem st0_len (ns : List Int) : (st0 ns).length = ns.length := List.length_map _
theorem st0_cks (ns : List Int) : (ns.map fun s => PyData.tuple [.int s, .int 0]) = cks (st0 ns) := by
  unfold st0 cks
  rw [List.map_map]
  rfl
theorem szI_pos {ns : List Int} (h : ∀ s ∈ ns, 1 ≤ s) : 0 < szI ns := (rnd_spec (st0 ns) 1 (by decide) (fun c hc => by
  obtain ⟨s, hs, rfl⟩ := List.mem_map.mp hc
  exact h s hs)).1
theorem szI_dvd {ns : List Int} (h : ∀ s ∈ ns, 1 ≤ s) : ∀ s ∈ ns, s ∣ szI ns := fun s hs =>
  (rnd_spec (st0 ns) 1 (by decide) (fun c hc => by
    obtain ⟨s, hs, rfl⟩ := List.mem_map.mp hc
    exact h s hs)).2.2.1 (s, 0) (List.mem_map.mpr ⟨s, hs, rfl⟩)
theorem szI_b {ns : List Int} (h : ∀ s ∈ ns, 1 ≤ s ∧ s ≤ 1000) (hl : ns.length ≤ 100) : (prodS (st0 ns)).natAbs < 2 ^ 8000 := prodS_b (st0_ok h) (by rw [st0_len]; exact hl)
def stp : PyData → Bool
  | .int s => decide (2 ≤ s) && decide (s ≤ 24)
  | _ => false
def stB : PyData → Bool
  | .list xs => decide (1 ≤ xs.length) && (decide (xs.length ≤ 6) && xs.all stp)
  | _ => false
theorem stB_at (xs : List PyData) : stB (.list xs) = (decide (1 ≤ xs.length) && (decide (xs.length ≤ 6) && xs.all stp)) := rfl
theorem stB_ints {ns : List Int} (h1 : 1 ≤ ns.length) (h6 : ns.length ≤ 6) (hs : ∀ s ∈ ns, 2 ≤ s ∧ s ≤ 24) : stB (.list (ns.map .int)) = true := by
  rw [stB_at, List.length_map, decide_eq_true h1, decide_eq_true h6, Bool.true_and, Bool.true_and, List.all_map, List.all_eq_true]
  intro s h
  have := hs s h
  show (decide (2 ≤ s) && decide (s ≤ 24)) = true
  rw [decide_eq_true this.1, decide_eq_true this.2]
  rfl
theorem stB_inv {d : PyData} (h : stB d = true) : ∃ ns : List Int, d = .list (ns.map .int) ∧ 1 ≤ ns.length ∧ ns.length ≤ 6 ∧ ∀ s ∈ ns, 2 ≤ s ∧ s ≤ 24 := by
  cases d with
  | list xs =>
    unfold stB at h
    rw [Bool.and_eq_true, Bool.and_eq_true, decide_eq_true_iff, decide_eq_true_iff, List.all_eq_true] at h
    obtain ⟨h1, h2, h3⟩ := h
    obtain ⟨ns, rfl, hn⟩ := ints_of (P := fun s => 2 ≤ s ∧ s ≤ 24) (acc := xs) fun d hd => by
      have := h3 d hd
      cases d with
      | int s =>
        have z : (decide (2 ≤ s) && decide (s ≤ 24)) = true := this
        rw [Bool.and_eq_true, decide_eq_true_iff, decide_eq_true_iff] at z
        exact ⟨s, rfl, z⟩
      | _ => cases this
    rw [List.length_map] at h1 h2
    exact ⟨ns, rfl, h1, h2, hn⟩
  | _ => cases h
theorem each_fi {g : WG} {t : WS} {k : Ken} (xs : List PyData) (p : PyData → Bool) (J : Ev → Prop) (fin : ∀ e, J e → xs.find? p = none → k.nx e)
    (step : ∀ n ∈ xs, ∀ e (R : Ev → Prop), J e → (p n = true → xs.find? p = some n) → (p n = false → ∀ e2, J e2 → R e2) → g n e (fun e1 => t e1 { k with nx := R, ct := R, bk := k.nx })) (e : Ev) (h : J e) : wEach g t xs e k := by
  have := each_find (g := g) (t := t) (k := k) (fun d => d) xs p J fin step e h
  rwa [List.map_id'] at this
def sp_check_steps : Spc := fun avs Kr Kx => match avs with
  | [.val d] => (stB d = true → Kr [] (.val .none)) ∧ (stB d = false → False)
  | _ => False
def w_check_steps_B1 : WS :=
  (wIfS (wOr (wNot (wTB (wCall 1 sp_is_whole (wMCons (wVar 1) wMNil)))) (wOr (wTB (wBin oLt (wVar 1) (wC (.int 2)))) (wTB (wBin oGt (wVar 1) (wC (.int 24)))))) wNever wNext)
def w_check_steps_L1 : WS :=
  wFor (wISeq (wVar 0)) (gN 1) w_check_steps_B1
/-- check_steps: 0 thing, 1 step -/
def w_check_steps : WS :=
  (wSeq (wIfS (wOr (wNot (wTB (wIsi "list" (wVar 0)))) (wNot (wTB (wChain oLe oLe (wC (.int 1)) (wCallB oLen (wACons (wVar 0) wANil)) (wC (.int 6)))))) wNever wNext)
    w_check_steps_L1)

theorem vc_check_steps : ∀ avs Kr Kx, avs.length = 1 → sp_check_steps avs Kr Kx → lsFrom 0 avs = [] ∧ w_check_steps (startEv 2 avs) (kenD [] Kr Kx) := by
  intro avs Kr Kx hl h
  unfold sp_check_steps at h
  split at h
  · rename_i d
    obtain ⟨q1, q2⟩ := h
    refine ⟨rfl, ?_⟩
    unfold w_check_steps
    refine seq_cut fun R hR => ?_
    cases d with
    | list xs =>
      dsimp? []
      by_cases h1 : 1 ≤ xs.length
      · rw [if_pos (show (1 : Int) ≤ (xs.length : Int) by omega)]
        by_cases h6 : xs.length ≤ 6
        · rw [if_neg (fun h => h (by omega))]
          have e : stB (.list xs) = xs.all stp := by rw [stB_at, decide_eq_true h1, decide_eq_true h6]; rfl
          rw [e] at q1 q2
          refine hR _ ?_
          dsimp? [w_check_steps_L1, wFor]
          refine each_fi xs (fun d => !stp d) (fun e => ∃ x1, e = [.val (.list xs), x1]) ?_ ?_ _ ⟨_, rfl⟩
          · rintro e ⟨x1, rfl⟩ hf
            dsimp? []
            refine q1 (List.all_eq_true.mpr fun d hd => ?_)
            have := List.find?_eq_none.mp hf d hd
            simpa using this
          · rintro d hd e R9 ⟨x1, rfl⟩ hf ih
            have bad : stp d = false → False := fun h => q2 (Bool.eq_false_iff.mpr fun z => by
              have := List.all_eq_true.mp z d hd
              rw [h] at this
              cases this)
            cases d with
            | int s =>
              dsimp? [w_check_steps_B1, sp_is_whole, isI]
              have es : stp (.int s) = (decide (2 ≤ s) && decide (s ≤ 24)) := rfl
              rw [es] at bad ih
              split
              · exact bad (by rw [decide_eq_false (show ¬ 2 ≤ s by omega)]; rfl)
              · split
                · exact bad (by rw [decide_eq_false (show ¬ s ≤ 24 by omega), Bool.and_false])
                · exact ih (by rw [decide_eq_true (show 2 ≤ s by omega), decide_eq_true (show s ≤ 24 by omega)]; rfl) _ ⟨_, rfl⟩
            | _ => dsimp? [w_check_steps_B1, sp_is_whole, isI]; exact bad rfl
        · rw [if_pos (by omega)]
          exact q2 (by rw [stB_at, decide_eq_false h6]; simp)
      · rw [if_neg (show ¬ (1 : Int) ≤ (xs.length : Int) by omega)]
        exact q2 (by rw [stB_at, decide_eq_false h1]; rfl)
    | _ => dsimp? [isTy, tyN]; exact q2 rfl
  · exact h.elim
def StL (ns : List Int) : Prop := (∀ s ∈ ns, 1 ≤ s ∧ s ≤ 1000) ∧ ns.length ≤ 100
def sp_size_of : Spc := fun avs Kr Kx => match avs with
  | [.val (.list xs)] => ∃ ns : List Int, xs = ns.map .int ∧ StL ns ∧ Kr [] (.val (.int (szI ns)))
  | _ => False
def w_size_of_C1 : WE :=
  wLc [1] (wISeq (wVar 0)) (gN 1) wYes (wTup (wFCons (wVar 1) (wFCons (wC (.int 0)) wFNil)))
/-- size_of: 0 steps, 1 step -/
def w_size_of : WS :=
  (wRet (wCall 1 sp_round_of (wMCons w_size_of_C1 wMNil)))

theorem vc_size_of : ∀ avs Kr Kx, avs.length = 1 → sp_size_of avs Kr Kx → lsFrom 0 avs = [] ∧ w_size_of (startEv 2 avs) (kenD [] Kr Kx) := by
  intro avs Kr Kx hl h
  unfold sp_size_of at h
  split at h
  · rename_i xs
    obtain ⟨ns, rfl, ⟨hs, hl⟩, q⟩ := h
    refine ⟨rfl, ?_⟩
    dsimp? [w_size_of, w_size_of_C1, wLc]
    refine lc_map PyData.int (fun s => .tuple [.int s, .int 0]) ns (fun s hs A hA => ?_) (small100000 (by omega)) ?_
    · dsimp? []
      exact ⟨by decide, hA⟩
    · rw [st0_cks]
      dsimp? [sp_round_of]
      exact ⟨_, rfl, fun c hc => (st0_ok hs c hc).1, szI_b hs hl, q⟩
  · exact h.elim
def sp_check_size : Spc := fun avs Kr Kx => match avs with
  | [.val (.list xs)] => ∃ ns : List Int, xs = ns.map .int ∧ StL ns ∧ (szI ns ≤ 10000 → Kr [] (.val .none)) ∧ (10000 < szI ns → False)
  | _ => False
/-- check_size: 0 steps -/
def w_check_size : WS :=
  (wIfS (wTB (wBin oGt (wCall 1 sp_size_of (wMCons (wVar 0) wMNil)) (wC (.int 10000)))) wNever wNext)

theorem vc_check_size : ∀ avs Kr Kx, avs.length = 1 → sp_check_size avs Kr Kx → lsFrom 0 avs = [] ∧ w_check_size (startEv 1 avs) (kenD [] Kr Kx) := by
  intro avs Kr Kx hl h
  unfold sp_check_size at h
  split at h
  · rename_i xs
    obtain ⟨ns, rfl, hs, q1, q2⟩ := h
    refine ⟨rfl, ?_⟩
    dsimp? [w_check_size, sp_size_of]
    refine ⟨ns, rfl, hs, ?_⟩
    split
    · rename_i h
      first | exact ⟨ns, rfl, hs, q2 h⟩ | exact q2 h
    · rename_i h
      exact q1 (by omega)
  · exact h.elim
/-- the first rests that cover what is left -/
def rfF (size : Int) : List Int → List Int → Option (List Int)
  | [], lf => if lf = [] then some [] else none
  | s :: ss, lf => if ((s :: ss).map fun t => size / t).sum < (lf.length : Int) then none else
      (List.range s.toNat).findSome? fun (r : Nat) => (rfF size ss (lf.filter fun n => decide (n % s ≠ (r : Int)))).map ((r : Int) :: ·)
def optT : Option (List Int) → PyData
  | none => .none
  | some l => .tuple (l.map .int)
theorem fs_none {β : Type} {f : Nat → Option β} {n : Nat} (h : ∀ j < n, f j = none) : (List.range n).findSome? f = none := by
  rw [List.findSome?_eq_none_iff]
  exact fun j hj => h j (List.mem_range.mp hj)
theorem fs_some {β : Type} {f : Nat → Option β} {n i : Nat} {v : β} (h : ∀ j < i, f j = none) (hi : i < n) (hv : f i = some v) : (List.range n).findSome? f = some v := by
  have e : List.range n = List.range i ++ (List.range (n - i)).map (i + ·) := by
    rw [← List.range_add]
    congr 1
    omega
  rw [e, List.findSome?_append, fs_none h]
  obtain ⟨k, hk⟩ : ∃ k, n - i = k + 1 := ⟨n - i - 1, by omega⟩
  rw [hk, List.range_succ_eq_map, List.map_cons, List.findSome?_cons, Nat.add_zero, hv]
  rfl
theorem drop_cons {α : Type} {xs : List α} {i : Nat} (d : α) (h : i < xs.length) : xs.drop i = xs.getD i d :: xs.drop (i + 1) := by
  rw [List.drop_eq_getElem_cons h, List.getD_eq_getElem?_getD, List.getElem?_eq_getElem h]
  rfl
def spA_rests_from (n : Nat) : Spc := fun avs Kr Kx => match avs with
  | [.val (.list xs), .val (.int size), .val (.tuple bs), .val (.list ls)] => ∃ (ns bg lf : List Int), xs = ns.map .int ∧ bs = bg.map .int ∧ ls = lf.map .int ∧ (∀ s ∈ ns, 1 ≤ s ∧ s ≤ 1000) ∧ bg.length ≤ ns.length ∧ ns.length ≤ 10 ∧ ns.length ≤ bg.length + n ∧ lf.length ≤ 10000 ∧ 0 ≤ size ∧ size < 2 ^ 60 ∧ Kr [] (.val (optT ((rfF size (ns.drop bg.length) lf).map (bg ++ ·))))
  | _ => False
def sp_rests_from : Nat → Spc
  | 0 => fun _ _ _ => False
  | n + 1 => spA_rests_from n
def w_rests_from_C1 (n : Nat) : WE :=
  wLc [4] (wISeq (wSl (wVar 0) (wOSo (wCallB oLen (wACons (wVar 2) wANil))) wONo)) (gN 4) wYes (wBin oFdiv (wVar 1) (wVar 4))
def w_rests_from_C2 (n : Nat) : WE :=
  wLc [8] (wISeq (wVar 3)) (gN 8) (wTB (wBin oNe (wBin oMod (wVar 8) (wVar 4)) (wVar 5))) (wVar 8)
def w_rests_from_B1 (n : Nat) : WS :=
  (wSeq (wSet 6 ((w_rests_from_C2 n)))
    (wSeq (wSet 7 (wCall 4 (sp_rests_from n) (wMCons (wVar 0) (wMCons (wVar 1) (wMCons (wBin oAdd (wVar 2) (wTup (wFCons (wVar 5) wFNil))) (wMCons (wVar 6) wMNil))))))
    (wIfS (wTB (wBin oIsNot (wVar 7) (wC .none))) (wRet (wVar 7)) wNext)))
def w_rests_from_L1 (n : Nat) : WS :=
  wFor (wIRng1 (wVar 4)) (gN 5) (w_rests_from_B1 n)
def w_rests_from_R1 (n : Nat) : WS :=
  (wRet (wC .none))
/-- rests_from: 0 steps, 1 size, 2 begun, 3 left, 4 step, 5 rest, 6 more, 7 found, 8 number -/
def w_rests_from (n : Nat) : WS :=
  (wSeq (wIfS (wTB (wBin oEq (wCallB oLen (wACons (wVar 2) wANil)) (wCallB oLen (wACons (wVar 0) wANil)))) (wRet (wIf (wTB (wBin oEq (wVar 3) (wLst wFNil))) (wVar 2) (wC .none))) wNext)
    (wSeq (wIfS (wTB (wBin oGt (wCallB oLen (wACons (wVar 3) wANil)) (wCallB oSum (wACons ((w_rests_from_C1 n)) wANil)))) (wRet (wC .none)) wNext)
    (wSeq (wSet 4 (wBin oIx (wVar 0) (wCallB oLen (wACons (wVar 2) wANil))))
    (wSeq (w_rests_from_L1 n)
    (w_rests_from_R1 n)))))

theorem vc_rests_from : ∀ n avs Kr Kx, avs.length = 4 → sp_rests_from (n + 1) avs Kr Kx → lsFrom 0 avs = [] ∧ w_rests_from n (startEv 9 avs) (kenD [] Kr Kx) := by
  intro n avs Kr Kx hl h
  replace h : spA_rests_from n avs Kr Kx := h
  unfold spA_rests_from at h
  split at h
  · rename_i xs size bs ls
    obtain ⟨ns, bg, lf, rfl, rfl, rfl, hs, hb, h10, hn, hl, s0, s1, q⟩ := h
    refine ⟨rfl, ?_⟩
    unfold w_rests_from
    refine seq_cut fun R hR => ?_
    dsimp? [List.length_map]
    by_cases hbn : bg.length = ns.length
    · rw [if_pos (show (bg.length : Int) = (ns.length : Int) by omega)]
      rw [hbn, List.drop_length] at q
      refine ⟨by decide, sh_lin _, sh_lin [], ?_⟩
      rw [eqv_lnil]
      cases lf with
      | nil =>
        rw [if_pos (by rfl)]
        rw [show rfF size [] [] = some [] from rfl, Option.map_some, List.append_nil] at q
        exact q
      | cons a l =>
        rw [if_neg (by exact Bool.false_ne_true)]
        rw [show rfF size [] (a :: l) = none from rfl, Option.map_none] at q
        exact q
    · rw [if_neg (show ¬ (bg.length : Int) = (ns.length : Int) by omega)]
      have hlt : bg.length < ns.length := by omega
      obtain ⟨n', rfl⟩ : ∃ n', n = n' + 1 := ⟨n - 1, by omega⟩
      have hss := drop_cons (0 : Int) hlt
      have hsm : ns.getD bg.length 0 ∈ ns := by
        rw [List.getD_eq_getElem?_getD, List.getElem?_eq_getElem hlt]
        exact List.getElem_mem hlt
      have hat := atI_ns hlt
      generalize ns.getD bg.length 0 = s at hss hsm hat
      have hs1 := hs s hsm
      refine hR _ ?_
      refine seq_cut fun R hR => ?_
      dsimp? [w_rests_from_C1, wLc, List.length_map]
      rw [take_ints, cut_from ns (by omega)]
      refine lc_map PyData.int (fun t => .int (size / t)) (ns.drop bg.length) (fun t ht A hA => ?_) (small100000 (by rw [List.length_drop]; omega)) ?_
      · have := hs t (List.mem_of_mem_drop ht)
        dsimp? []
        exact ⟨by omega, log_small (by omega) (by omega), hA⟩
      · dsimp? [oSum]
        refine ⟨(ns.drop bg.length).map fun t => size / t, by rw [List.map_map]; rfl, ?_⟩
        rw [hss] at q ⊢
        unfold rfF at q
        split
        · rename_i hp
          rw [if_pos hp] at q
          exact q
        · rename_i hp
          rw [if_neg hp] at q
          refine hR _ ?_
          refine seq_cut fun R hR => ?_
          dsimp? [List.length_map, hat]
          refine hR _ ?_
          refine seq_cut fun R hR => ?_
          dsimp? [w_rests_from_L1, wFor]
          refine ⟨by omega, by omega, ?_⟩
          refine each_range1 (fun i e => (∃ x5 x6 x7, e = [.val (.list (ns.map .int)), .val (.int size), .val (.tuple (bg.map .int)), .val (.list (lf.map .int)), .val (.int s), x5, x6, x7, .un]) ∧ ∀ j < i, ((rfF size (ns.drop (bg.length + 1)) (lf.filter fun n => decide (n % s ≠ (j : Int)))).map ((j : Int) :: ·)) = none) ⟨⟨_, _, _, rfl⟩, fun j h => by omega⟩ ?_ ?_
          · rintro e ⟨⟨x5, x6, x7, rfl⟩, hno⟩
            refine hR _ ?_
            dsimp? [w_rests_from_R1]
            rw [fs_none hno] at q
            exact q
          · rintro i e R9 hi ⟨⟨x5, x6, x7, rfl⟩, hno⟩ ih
            have fl := List.length_filter_le (fun n => decide (n % s ≠ (i : Int))) lf
            unfold w_rests_from_B1
            refine seq_cut fun R hR => ?_
            dsimp? [w_rests_from_C2, wLc]
            refine lc_fl PyData.int (fun n => decide (n % s ≠ (i : Int))) lf (by omega) (fun n hn A N hA => ?_) ?_
            · dsimp? []
              refine ⟨by omega, ?_⟩
              by_cases z : n % s = (i : Int)
              · rw [decide_eq_false (fun h => h z)] at hA
                rw [if_neg (fun h => h z)]
                exact hA
              · rw [decide_eq_true z] at hA
                rw [if_pos z]
                exact hA
            · dsimp? []
              refine hR _ ?_
              refine seq_cut fun R hR => ?_
              dsimp? [sp_rests_from, spA_rests_from]
              have el : (bg ++ [(i : Int)]).length = bg.length + 1 := by rw [List.length_append, List.length_singleton]
              have sz := sizeLine_eq
              refine ⟨by decide, by rw [List.length_map]; omega, ns, rfl, bg ++ [(i : Int)], by rw [List.map_append]; rfl, lf.filter fun n => decide (n % s ≠ (i : Int)), rfl, hs, by omega, h10, by omega, by omega, s0, s1, hR _ ?_⟩
              rw [el]
              cases e : rfF size (ns.drop (bg.length + 1)) (lf.filter fun n => decide (n % s ≠ (i : Int))) with
              | none =>
                dsimp? [optT]
                refine ih _ ⟨⟨_, _, _, rfl⟩, fun j hj => ?_⟩
                by_cases z : j = i
                · subst z
                  rw [e]
                  rfl
                · exact hno j (by omega)
              | some l =>
                rw [fs_some (v := (i : Int) :: l) hno (by omega) (by rw [e]; rfl)] at q
                dsimp? [optT]
                rw [List.append_assoc]
                exact q
  · exact h.elim
/-- what steps are refused, and what is told of the others -/
def StK (d : PyData) (X : Prop) (K : List Int → Prop) : Prop := (stB d = false → X) ∧ ∀ ns : List Int, d = .list (ns.map .int) → 1 ≤ ns.length → ns.length ≤ 6 → (∀ s ∈ ns, 2 ≤ s ∧ s ≤ 24) → K ns
theorem stL_of {ns : List Int} (h6 : ns.length ≤ 6) (hs : ∀ s ∈ ns, 2 ≤ s ∧ s ≤ 24) : StL ns := ⟨fun s h => by have := hs s h; omega, by omega⟩
theorem rgD0 (n : Int) : rgD 0 n = (rgI n).map .int := by
  unfold rgD
  rw [← rgI_d, Int.sub_zero]
  refine List.map_congr_left fun i _ => ?_
  rw [Int.zero_add]
def sp_rests_for : Spc := fun avs Kr Kx => match avs with
  | [.val d] => StK d (False) fun ns => (10000 < szI ns → False) ∧ (szI ns ≤ 10000 → Kr [] (.val (optT (rfF (szI ns) ns (rgI (szI ns))))))
  | _ => False
/-- rests_for: 0 steps, 1 size -/
def w_rests_for : WS :=
  (wSeq (wDrop (wCall 1 sp_check_steps (wMCons (wVar 0) wMNil)))
    (wSeq (wDrop (wCall 1 sp_check_size (wMCons (wVar 0) wMNil)))
    (wSeq (wSet 1 (wCall 1 sp_size_of (wMCons (wVar 0) wMNil)))
    (wRet (wCall 4 (sp_rests_from 9) (wMCons (wVar 0) (wMCons (wVar 1) (wMCons (wTup wFNil) (wMCons (wLR1 false (wVar 1)) wMNil)))))))))

theorem vc_rests_for : ∀ avs Kr Kx, avs.length = 1 → sp_rests_for avs Kr Kx → lsFrom 0 avs = [] ∧ w_rests_for (startEv 2 avs) (kenD [] Kr Kx) := by
  intro avs Kr Kx hl h
  unfold sp_rests_for at h
  split at h
  · rename_i d
    obtain ⟨q1, q2⟩ := h
    refine ⟨rfl, ?_⟩
    unfold w_rests_for
    refine seq_cut fun R hR => ?_
    dsimp? [sp_check_steps]
    refine ⟨fun hb => ?_, q1⟩
    obtain ⟨ns, rfl, h1, h6, hs⟩ := stB_inv hb
    obtain ⟨g1, g2⟩ := q2 ns rfl h1 h6 hs
    have hL := stL_of h6 hs
    refine hR _ ?_
    refine seq_cut fun R hR => ?_
    dsimp? [sp_check_size]
    refine ⟨ns, rfl, hL, fun hz => hR _ ?_, g1⟩
    refine seq_cut fun R hR => ?_
    dsimp? [sp_size_of]
    refine ⟨ns, rfl, hL, hR _ ?_⟩
    have z0 := szI_pos (fun s h => (hL.1 s h).1)
    have g3 := g2 hz
    dsimp? [rgK]
    rw [rgD0]
    have sz := sizeLine_eq
    refine ⟨by decide, ?_, ?_⟩
    · unfold RgOk
      omega
    dsimp? [sp_rests_from, spA_rests_from]
    refine ⟨ns, rfl, [], rfl, rgI (szI ns), rfl, hL.1, Nat.zero_le _, by omega, by rw [List.length_nil]; omega, by rw [rgI_len]; omega, by omega, by omega, ?_⟩
    rw [show (fun x : List Int => [] ++ x) = id from rfl, Option.map_id, List.length_nil, List.drop_zero]
    exact g3
  · exact h.elim
def sp_steps_share : Spc := fun avs Kr Kx => match avs with
  | [.val d] => StK d (False) fun ns => Kr [] (.val (ck (sumS (rnd 1 (st0 ns)) (st0 ns) / topG (st0 ns), rnd 1 (st0 ns) / topG (st0 ns))))
  | _ => False
def w_steps_share_C1 : WE :=
  wLc [1] (wISeq (wVar 0)) (gN 1) wYes (wTup (wFCons (wVar 1) (wFCons (wC (.int 0)) wFNil)))
/-- steps_share: 0 steps, 1 step -/
def w_steps_share : WS :=
  (wSeq (wDrop (wCall 1 sp_check_steps (wMCons (wVar 0) wMNil)))
    (wRet (wCall 1 sp_shares_of (wMCons w_steps_share_C1 wMNil))))

theorem vc_steps_share : ∀ avs Kr Kx, avs.length = 1 → sp_steps_share avs Kr Kx → lsFrom 0 avs = [] ∧ w_steps_share (startEv 2 avs) (kenD [] Kr Kx) := by
  intro avs Kr Kx hl h
  unfold sp_steps_share at h
  split at h
  · rename_i d
    obtain ⟨q1, q2⟩ := h
    refine ⟨rfl, ?_⟩
    unfold w_steps_share
    refine seq_cut fun R hR => ?_
    dsimp? [sp_check_steps]
    refine ⟨fun hb => ?_, q1⟩
    obtain ⟨ns, rfl, h1, h6, hs⟩ := stB_inv hb
    have g := q2 ns rfl h1 h6 hs
    have hL := stL_of h6 hs
    refine hR _ ?_
    dsimp? [w_steps_share_C1, wLc]
    refine lc_map PyData.int (fun s => .tuple [.int s, .int 0]) ns (fun s hs A hA => ?_) (small100000 (by omega)) ?_
    · dsimp? []
      exact ⟨by decide, hA⟩
    · rw [st0_cks]
      dsimp? [sp_shares_of]
      exact ⟨_, rfl, fun c hc => (st0_ok hL.1 c hc).1, szI_b hL.1 hL.2, by rw [st0_len]; omega, g⟩
  · exact h.elim
end Dl
end L2

/-! The plain half, 26: rests found and not found; papers of cases. -/
namespace L2
namespace Dl
open PySem PySem.Spec PyProof.Rows
local macro_rules | `(tactic| dsimp? [$xs,*] $[$l]?) => `(tactic| simp only [wSeq, wNext, wBreak, wCont, wDrop, wRet, wRetN, wIfS, wSet, wAsgT, e_aug, e_setIx, e_par, e_gN, getS_0, getS_s, setS_0, setS_s, e_var, varK_v, varK_o, varK_u, wC, wBin, rdK_v, rdK_t, rdK_s, rdS_v, rdS_o, rdS_u, fzK_v, fzK_t, fzK_s, fzS_v, fzS_o, fzS_l, fzS_u, e_fz, asg_v, asg_t, asg_s, e_tb, tbK_b, wAnd, wOr, wNot, e_notV, e_andV, e_orV, wBV, wIf, e_neg, intK_i, e_oso, wONo, e_rng1, e_rng2, wFNil, wFCons, wANil, wACons, wTup, wLst, e_callB, rdAllK_n, rdAllK_c, wIsi, e_call, wMNil, wMCons, e_ld, lnsOf, avsK_n, avsK_f, avsK_l, lnS_o, lnS_v, lnS_u, poK_n, poK_c, poS_o, inS_0, inS_s, rsK_v, rsK_o, wSl, e_ownF, e_own0, ownB_o, oS_o, oS_v, oS_u, agS_i, muApp, oAdd_i, oAdd_l, oAdd_t, oAdd_s, oSub_i, oMul_i, oFdiv_i, oMod_i, oPow_i, oShl_i, oShr_i, oOr_i, oAndB_i, oLt_i, oLe_i, oGt_i, oGe_i, oEq_i, oNe_i, oEq, oNe, oIx_l, oIx_t, oLen_l, oLen_t, oInt_i, oInt_b, oMax_i, oMin_i, oList_l, oList_t, oTuple_l, oTuple_t, oSorted_l, oSorted_t, oIs_n, oIsN_n, oIs_b, oIsN_b, isNone_n, isNone_t, isNone_l, isNone_i, isNone_s, isNone_b, oSl_l, oSl_t, oIn, gT_t, gC_c, gNil', e_iseq, sqK_l, sqK_t, e_isq, sq2K_l, sq2K_t, e_sset, ssK_l, ssK_t, e_chain, e_lr1, e_lr2, wRev, rvD_l, rvD_t, e_in1, e_in2, negB_f, negB_t, wIZip, zpK_l, zpK_t, zpK_m, e_extend, extR_t, wYes, startEv, kenD_nx, kenD_rt, kenD_bk, kenD_ct, kenD_ex, outK_n, outK_c, otS_o, rvK_v, rvK_t, rvK_s, rvS_v, rvS_o, slOf, lsFrom, wipeE, restE, List.map_cons, List.map_nil, List.length_cons, List.length_nil, List.replicate, List.append_nil, List.cons_append, List.nil_append, List.getElem?_cons_zero, List.getElem?_cons_succ, List.getElem?_nil, List.set_cons_zero, List.set_cons_succ, List.set_nil, Option.getD_some, Option.getD_none, Option.map_some, Option.map_none, Option.some.injEq, Rs.val.injEq, Rs.tmp.injEq, Rs.slot.injEq, Sl.own.injEq, Sl.val.injEq, PyData.int.injEq, PyData.bool.injEq, PyData.str.injEq, PyData.list.injEq, PyData.tuple.injEq, Prod.mk.injEq, Nat.sub_self, Nat.zero_add, Nat.reduceAdd, Nat.reduceSub, Nat.add_zero, isTy_int_int, isTy_bool_int, isTy_int_bool, isTy_bool_bool, isTy_int_tup, isTy_int_lst, isTy_int_non, isTy_int_str, isTy_tup_tup, isTy_tup_lst, isTy_tup_int, isTy_tup_bool, isTy_tup_non, isTy_tup_str, isTy_lst_lst, isTy_lst_tup, isTy_lst_int, exists_eq_left', exists_eq_left, exists_and_left, exists_eq_right, exists_eq, exists_eq', exists_const, true_and, and_true, and_self, Bool.not_true, Bool.not_false, if_true, if_false, Bool.false_eq_true, reduceIte, reduceCtorEq, List.nodup_nil, decide_eq_true_eq, atI_0, atI_1, atI_2, atI_3, atI_4, atI_5, atI_6, atI_7, atI_8, atI_9, atI_10, atI_11, ixN_3_0, ixN_3_1, ixN_3_2, sh_int, sh_bool, sh_non, and_assoc, nd1, nd_true, eq_self, decide_true, decide_false, Int.cast_ofNat_Int, not_true_eq_false, not_false_eq_true, eqv_ii, eqv_bb, wRaise0, e_raiseG, grK_i, e_raise1, onK_i, e_callX, xa_1, xa_2, xa_3, xa_4, xa_5, xa_6, xa_7, e_many, e_most, e_number, e_row, isLst_l, lsK_l, e_rd, e_br, brS_o, brS_v, arS_o, arS_v, avbK_n, avbK_f, avbK_l, scK_b, scK_i, scK_n, scK_s, e_callS, tmK_t, e_rep, enK_l, e_ienum, wTry, eqv_ss, tpK_v, txK_1, tutK_t, e_repT, e_callT, enTK_t, e_ienumT, r3K_i, e_rng3, e_newD, e_putD, e_lenD, e_listD, dcS_d, dcB_d, pvK_b, pvK_i, tkK_m, tkK_2, e_ssetI, oMinL_c, e_lset, e_lstZ, zlK_c, e_ins, $xs,*] $[$l]?)
theorem rfF_some : ∀ {size : Int} {ss lf rs : List Int}, rfF size ss lf = some rs → rs.length = ss.length ∧ (∀ p ∈ ss.zip rs, 0 ≤ p.2 ∧ p.2 < p.1) ∧ ∀ n ∈ lf, ∃ p ∈ ss.zip rs, n % p.1 = p.2
  | _, [], lf, rs, h => by
    unfold rfF at h
    split at h
    · rename_i e
      cases h
      subst e
      exact ⟨rfl, fun p hp => (by cases hp), fun n hn => (by cases hn)⟩
    · cases h
  | size, s :: ss, lf, rs, h => by
    unfold rfF at h
    split at h
    · cases h
    · obtain ⟨r, hr, h2⟩ := List.exists_of_findSome?_eq_some h
      have hr := List.mem_range.mp hr
      obtain ⟨rs', h3, rfl⟩ := Option.map_eq_some_iff.mp h2
      obtain ⟨a, b, c⟩ := rfF_some h3
      refine ⟨by rw [List.length_cons, List.length_cons, a], fun p hp => ?_, fun n hn => ?_⟩
      · rw [List.zip_cons_cons] at hp
        rcases List.mem_cons.mp hp with rfl | hp
        · simp only
          omega
        · exact b p hp
      · by_cases e : n % s = (r : Int)
        · exact ⟨(s, (r : Int)), by rw [List.zip_cons_cons]; exact List.mem_cons_self, e⟩
        · obtain ⟨p, hp, hq⟩ := c n (List.mem_filter.mpr ⟨hn, decide_eq_true e⟩)
          exact ⟨p, by rw [List.zip_cons_cons]; exact List.mem_cons_of_mem _ hp, hq⟩
theorem len_split {α : Type} (p : α → Bool) (l : List α) : l.length = (l.filter p).length + (l.filter fun x => !p x).length := by
  induction l with
  | nil => rfl
  | cons a l ih =>
    rw [List.filter_cons, List.filter_cons]
    cases p a with
    | true => simp only [if_true, Bool.not_true, Bool.false_eq_true, if_false, List.length_cons]; omega
    | false => simp only [if_true, Bool.not_false, Bool.false_eq_true, if_false, List.length_cons]; omega
theorem cls_len {size s r : Int} (h0 : 0 ≤ size) (hs : 1 ≤ s) (hd : s ∣ size) {l : List Int} (nd : l.Nodup) (h : ∀ n ∈ l, 0 ≤ n ∧ n < size ∧ n % s = r) : (l.length : Int) ≤ size / s := by
  have h1 : (l.map (· / s)).length ≤ (rgI (size / s)).length := nodup_sub_len (List.pairwise_map.mpr (List.Pairwise.imp_of_mem (fun {a b} ha hb hab e => hab (by
      have e1 := Int.mul_ediv_add_emod a s
      have e2 := Int.mul_ediv_add_emod b s
      rw [(h a ha).2.2] at e1
      rw [(h b hb).2.2] at e2
      rw [← e1, ← e2, e])) nd)) fun q hq => by
    obtain ⟨n, hn, rfl⟩ := List.mem_map.mp hq
    obtain ⟨n0, n1, _⟩ := h n hn
    refine rgI_mem.mpr ⟨Int.ediv_nonneg n0 (by omega), ?_⟩
    obtain ⟨k, rfl⟩ := hd
    rw [Int.mul_ediv_cancel_left _ (by omega : s ≠ 0)]
    exact Int.ediv_lt_of_lt_mul (by omega) (by rw [Int.mul_comm]; exact n1)
  rw [List.length_map, rgI_len] at h1
  cases l with
  | nil => exact Int.ediv_nonneg h0 (by omega)
  | cons a l =>
    rw [List.length_cons] at h1 ⊢
    omega
theorem cov_len {size : Int} (h0 : 0 ≤ size) : ∀ {ss rs lf : List Int}, (∀ s ∈ ss, 1 ≤ s ∧ s ∣ size) → rs.length = ss.length → lf.Nodup → (∀ n ∈ lf, 0 ≤ n ∧ n < size) → (∀ n ∈ lf, ∃ p ∈ ss.zip rs, n % p.1 = p.2) → (lf.length : Int) ≤ (ss.map fun t => size / t).sum
  | [], rs, lf, _, _, _, _, hc => by
    cases lf with
    | nil => exact Int.le_refl _
    | cons n lf =>
      obtain ⟨p, hp, _⟩ := hc n List.mem_cons_self
      cases hp
  | s :: ss, [], lf, _, hl, _, _, _ => by cases hl
  | s :: ss, r :: rs, lf, hs, hl, nd, hr, hc => by
    have hs1 := hs s List.mem_cons_self
    have a := len_split (fun n => decide (n % s = r)) lf
    have b := cls_len h0 hs1.1 hs1.2 (r := r) (l := lf.filter fun n => decide (n % s = r)) (nd.sublist List.filter_sublist) fun n hn => by
      obtain ⟨h1, h2⟩ := List.mem_filter.mp hn
      have := hr n h1
      exact ⟨this.1, this.2, of_decide_eq_true h2⟩
    have c := cov_len h0 (ss := ss) (rs := rs) (lf := lf.filter fun n => !decide (n % s = r)) (fun t ht => hs t (List.mem_cons_of_mem _ ht)) (by simpa using hl) (nd.sublist List.filter_sublist) (fun n hn => hr n (List.mem_filter.mp hn).1) fun n hn => by
      obtain ⟨h1, h2⟩ := List.mem_filter.mp hn
      obtain ⟨p, hp, hq⟩ := hc n h1
      rw [List.zip_cons_cons] at hp
      rcases List.mem_cons.mp hp with rfl | hp
      · rw [decide_eq_true hq] at h2
        cases h2
      · exact ⟨p, hp, hq⟩
    rw [List.map_cons, List.sum_cons]
    omega
theorem rfF_none {size : Int} (h0 : 0 ≤ size) : ∀ {ss lf : List Int}, (∀ s ∈ ss, 1 ≤ s ∧ s ∣ size) → lf.Nodup → (∀ n ∈ lf, 0 ≤ n ∧ n < size) → rfF size ss lf = none → ∀ rs : List Int, rs.length = ss.length → (∀ p ∈ ss.zip rs, 0 ≤ p.2 ∧ p.2 < p.1) → ∃ n ∈ lf, ∀ p ∈ ss.zip rs, n % p.1 ≠ p.2
  | [], lf, _, _, _, h, rs, _, _ => by
    cases lf with
    | nil => cases h
    | cons n lf => exact ⟨n, List.mem_cons_self, fun p hp => (by cases hp)⟩
  | s :: ss, lf, _, _, _, h, [], hl, _ => by cases hl
  | s :: ss, lf, hs, nd, hr, h, r :: rs, hl, hb => by
    unfold rfF at h
    split at h
    · rename_i hp
      refine Classical.byContradiction fun no => ?_
      have := cov_len h0 hs hl nd hr fun n hn => Classical.byContradiction fun h2 => no ⟨n, hn, fun p hp e => h2 ⟨p, hp, e⟩⟩
      omega
    · rw [List.findSome?_eq_none_iff] at h
      have hb1 := hb (s, r) (by rw [List.zip_cons_cons]; exact List.mem_cons_self)
      simp only at hb1
      have h2 := h r.toNat (List.mem_range.mpr (by omega))
      rw [Option.map_eq_none_iff] at h2
      rw [Int.toNat_of_nonneg hb1.1] at h2
      obtain ⟨n, hn, hq⟩ := rfF_none h0 (fun t ht => hs t (List.mem_cons_of_mem _ ht)) (nd.sublist List.filter_sublist) (fun n hn => hr n (List.mem_filter.mp hn).1) h2 rs (by simpa using hl) fun p hp => hb p (by rw [List.zip_cons_cons]; exact List.mem_cons_of_mem _ hp)
      obtain ⟨h3, h4⟩ := List.mem_filter.mp hn
      refine ⟨n, h3, fun p hp => ?_⟩
      rw [List.zip_cons_cons] at hp
      rcases List.mem_cons.mp hp with rfl | hp
      · exact of_decide_eq_true h4
      · exact hq p hp
/-! ### papers of cases -/
theorem rep_none (k : Nat) : (List.replicate k [PyData.none]).flatten = kps (List.replicate k none) := by
  unfold kps
  rw [List.map_replicate]
  induction k with
  | zero => rfl
  | succ k ih =>
    rw [List.replicate_succ, List.replicate_succ, List.flatten_cons, ih]
    rfl
def flF (b : Nat) (ns : List Int) (ks : List (Option Int)) : Nat := ((List.range b).find? fun (m : Nat) => !clB ns ks (m : Int)).getD 0
theorem flF_spec {b : Nat} {ns : List Int} {ks : List (Option Int)} (h : ∃ m < b, clB ns ks ((m : Nat) : Int) = false) : clB ns ks (flF b ns ks : Int) = false ∧ ∀ j < flF b ns ks, clB ns ks ((j : Nat) : Int) = true := by
  obtain ⟨m, hm, hc⟩ := h
  unfold flF
  cases e : (List.range b).find? fun (m : Nat) => !clB ns ks (m : Int) with
  | none =>
    have := List.find?_eq_none.mp e m (List.mem_range.mpr hm)
    rw [hc] at this
    exact absurd rfl this
  | some i =>
    obtain ⟨a, _, c⟩ := List.find?_range_eq_some.mp e
    refine ⟨by simpa using a, fun j hj => ?_⟩
    have := c j hj
    simpa using this
def KsIn (ns : List Int) (ks : List (Option Int)) : Prop := ∀ (i : Nat) (s r : Int), ns[i]? = some s → ks[i]? = some (some r) → 0 ≤ r ∧ r < s
def NoCv (b : Nat) (ns : List Int) (ks : List (Option Int)) : Prop := ∀ rs : List Int, rs.length = ns.length → (∀ p ∈ ns.zip rs, 0 ≤ p.2 ∧ p.2 < p.1) → (∀ (i : Nat) (r : Int), ks[i]? = some (some r) → rs[i]? = some r) → ∃ m < b, ∀ p ∈ ns.zip rs, ((m : Nat) : Int) % p.1 ≠ p.2
theorem noCv_ex {b : Nat} {ns : List Int} {ks : List (Option Int)} (hs : ∀ s ∈ ns, 0 < s) (hl : ns.length = ks.length) (hk : KsIn ns ks) (h : NoCv b ns ks) : ∃ m < b, clB ns ks ((m : Nat) : Int) = false := by
  obtain ⟨m, hm, hq⟩ := h (ks.map (·.getD 0)) (by rw [List.length_map, hl]) (fun p hp => by
    obtain ⟨s1, r1⟩ := p
    obtain ⟨i, hi⟩ := List.getElem?_of_mem hp
    obtain ⟨h1, h2⟩ := List.getElem?_zip_eq_some.mp hi
    rw [List.getElem?_map] at h2
    have hsp := hs s1 (List.mem_of_getElem? h1)
    cases e : ks[i]? with
    | none => rw [e] at h2; cases h2
    | some o =>
      rw [e] at h2
      cases o with
      | none =>
        simp only [Option.map_some, Option.getD_none, Option.some.injEq] at h2
        subst h2
        simp only
        omega
      | some r =>
        simp only [Option.map_some, Option.getD_some, Option.some.injEq] at h2
        subst h2
        exact hk i _ _ h1 e) fun i r e => by rw [List.getElem?_map, e]; rfl
  refine ⟨m, hm, ?_⟩
  unfold clB
  rw [List.any_eq_false]
  rintro ⟨s, o⟩ hp
  obtain ⟨i, hi⟩ := List.getElem?_of_mem hp
  obtain ⟨h1, h2⟩ := List.getElem?_zip_eq_some.mp hi
  cases o with
  | none => exact Bool.false_ne_true
  | some r =>
    have := hq (s, r) (List.mem_of_getElem? (List.getElem?_zip_eq_some.mpr ⟨h1, by rw [List.getElem?_map, h2]; rfl⟩))
    unfold clP
    simpa using this
theorem noCv_set {b : Nat} {ns : List Int} {ks : List (Option Int)} {i : Nat} (v : Int) (hi : ks[i]? = some none) (h : NoCv b ns ks) : NoCv b ns (ks.set i (some v)) := fun rs a c d => h rs a c fun j r e => by
  by_cases hj : i = j
  · subst hj
    rw [hi] at e
    cases e
  · exact d j r (by rw [List.getElem?_set_ne hj]; exact e)
theorem ksIn_set {ns : List Int} {ks : List (Option Int)} {i : Nat} {m : Int} (hs : ∀ s ∈ ns, 0 < s) (hi : i < ns.length) (hk : KsIn ns ks) : KsIn ns (ks.set i (some (m % ns.getD i 0))) := fun j s r h1 h2 => by
  by_cases hj : i = j
  · subst hj
    have sp := getD_pos hs hi
    have e : ns.getD i 0 = s := by rw [List.getD_eq_getElem?_getD, h1]; rfl
    rw [e] at h2 sp
    by_cases hlt : i < ks.length
    · rw [List.getElem?_set_self hlt] at h2
      cases h2
      exact ⟨Int.emod_nonneg _ (by omega), Int.emod_lt_of_pos _ sp⟩
    · rw [List.getElem?_eq_none (by rw [List.length_set]; omega)] at h2
      cases h2
  · rw [List.getElem?_set_ne hj] at h2
    exact hk j s r h1 h2
def cfF (b : Nat) (ns : List Int) : Nat → List (Option Int) → PyData
  | 0, _ => .none
  | n + 1, ks => .tuple [.int (flF b ns ks : Int), .tuple ((freeI ks).map fun i => cfF b ns n (ks.set i (some ((flF b ns ks : Int) % ns.getD i 0))))]
theorem cfF_good {b : Nat} {ns : List Int} (hs : ∀ s ∈ ns, 0 < s) : ∀ (n : Nat) (ks : List (Option Int)), ns.length = ks.length → nC ks ≤ n → KsIn ns ks → NoCv b ns ks → cdB (n + 1) ns ks (cfF b ns (n + 1) ks) = true
  | n, ks, hl, hn, hk, hc => by
    have fs := flF_spec (noCv_ex hs hl hk hc)
    unfold cfF
    rw [cdB_at, fs.1, List.length_map, decide_eq_true rfl, Bool.not_false, Bool.true_and, Bool.true_and, List.all_eq_true]
    rintro ⟨i, d⟩ hp
    obtain ⟨j, hj⟩ := List.getElem?_of_mem hp
    obtain ⟨h1, h2⟩ := List.getElem?_zip_eq_some.mp hj
    rw [List.getElem?_map, h1] at h2
    simp only [Option.map_some, Option.some.injEq] at h2
    subst h2
    obtain ⟨hi, hi2⟩ := free_mem (List.mem_of_getElem? h1)
    replace hi : i < ks.length := hi
    replace hi2 : ks[i]? = some none := hi2
    have hcs := nC_set (v := (flF b ns ks : Int) % ns.getD i 0) hi2
    obtain ⟨n', rfl⟩ : ∃ n', n = n' + 1 := ⟨n - 1, by omega⟩
    exact cfF_good hs n' (ks.set i (some ((flF b ns ks : Int) % ns.getD i 0))) (by rw [List.length_set]; exact hl) (by omega) (ksIn_set hs (by omega) hk) (noCv_set _ hi2 hc)
def sp_first_left : Spc := fun avs Kr Kx => match avs with
  | [.val (.list xs), .val (.list ys)] => ∃ (ns : List Int) (ks : List (Option Int)) (m : Nat), xs = ns.map .int ∧ ys = kps ks ∧ (∀ s ∈ ns, 0 < s) ∧ ns.length ≤ 1000 ∧ clB ns ks (m : Int) = false ∧ (∀ j < m, clB ns ks ((j : Nat) : Int) = true) ∧ Kr [] (.val (.int (m : Int)))
  | _ => False
def w_first_left_C1 : WE :=
  wLc [3, 4] (wIZip (wFCons (wVar 0) (wFCons (wVar 1) wFNil))) (gT 2 (gCons' (gN 3) (gCons' (gN 4) gNil'))) wYes ((wAndV (wBin oIsNot (wVar 4) (wC .none)) (wBin oEq (wBin oMod (wVar 2) (wVar 3)) (wVar 4))))
def w_first_left_T1 : WT :=
  (wTB (wCallB oAny (wACons w_first_left_C1 wANil)))
def w_first_left_B1 : WS :=
  (wAug 2 (fun a b => a + b) (wC (.int 1)))
def w_first_left_L1 : WS :=
  wWhile w_first_left_T1 w_first_left_B1
def w_first_left_R1 : WS :=
  (wRet (wVar 2))
/-- first_left: 0 steps, 1 kept, 2 number, 3 step, 4 rest -/
def w_first_left : WS :=
  (wSeq (wSet 2 (wC (.int 0)))
    (wSeq w_first_left_L1
    w_first_left_R1))

theorem vc_first_left : ∀ avs Kr Kx, avs.length = 2 → sp_first_left avs Kr Kx → lsFrom 0 avs = [] ∧ w_first_left (startEv 5 avs) (kenD [] Kr Kx) := by
  intro avs Kr Kx hl h
  unfold sp_first_left at h
  split at h
  · rename_i xs ys
    obtain ⟨ns, ks, m, rfl, rfl, hs, hl, hm, hj, q⟩ := h
    refine ⟨rfl, ?_⟩
    unfold w_first_left
    refine seq_cut fun R hR => ?_
    dsimp? []
    refine hR _ ?_
    refine seq_cut fun R hR => ?_
    unfold w_first_left_L1
    refine ⟨fun k e => ∃ j : Nat, e = [.val (.list (ns.map .int)), .val (.list (kps ks)), .val (.int (j : Int)), .un, .un] ∧ j ≤ m ∧ k = m - j, ⟨m, 0, rfl, Nat.zero_le _, rfl⟩, ?_⟩
    rintro k e ⟨j, rfl, hjm, rfl⟩
    dsimp? [w_first_left_T1, w_first_left_C1, wLc]
    rw [zip_ks]
    refine lc_map (fun (p : Int × Option Int) => PyData.tuple [.int p.1, optI p.2]) (fun p => .bool (clP (j : Int) p)) (ns.zip ks) (fun p hp A hA => ?_) (small100000 (by rw [List.length_zip]; omega)) ?_
    · obtain ⟨a, o⟩ := p
      have ha := hs a (List.of_mem_zip hp).1
      cases o with
      | none =>
        dsimp? [optI]
        exact hA
      | some r =>
        dsimp? [optI]
        exact ⟨ha, hA⟩
    dsimp? [oAny]
    refine ⟨(ns.zip ks).map (clP (j : Int)), by rw [List.map_map]; rfl, ?_⟩
    rw [List.any_map, show ((ns.zip ks).any (id ∘ clP (j : Int))) = clB ns ks (j : Int) from rfl]
    by_cases e : j = m
    · subst e
      rw [hm]
      dsimp? []
      refine hR _ ?_
      dsimp? [w_first_left_R1]
      exact q
    · rw [hj j (by omega)]
      dsimp? [w_first_left_B1]
      exact ⟨_, by omega, j + 1, rfl, by omega, rfl⟩
  · exact h.elim
theorem each_rg {g : WG} {t : WS} {k : Ken} {n : Nat} (f : Nat → PyData) (J : Nat → Ev → Prop) (fin : ∀ e, J n e → k.nx e)
    (step : ∀ (i : Nat) e (R : Ev → Prop), i < n → J i e → (∀ e2, J (i + 1) e2 → R e2) → g (f i) e (fun e1 => t e1 { k with nx := R, ct := R, bk := k.nx })) (env : Ev) (h : J 0 env) : wEach g t ((List.range n).map f) env k := by
  have gen : ∀ (c a : Nat) e, a + c = n → J a e → wEach g t ((List.range' a c).map f) e k := by
    intro c
    induction c with
    | zero =>
      intro a e ha hJ
      have : a = n := by omega
      subst this
      exact fin e hJ
    | succ c ih =>
      intro a e ha hJ
      rw [List.range'_succ]
      exact step a e _ (by omega) hJ fun e2 h2 => ih (a + 1) e2 (by omega) h2
  rw [List.range_eq_range']
  exact gen n 0 env (by omega) h
theorem enD_rg (xs : List PyData) (d : PyData) : enD xs = (List.range xs.length).map fun (i : Nat) => PyData.tuple [.int (i : Int), xs.getD i d] := by
  refine List.ext_getElem (by rw [enD_len, List.length_map, List.length_range]) fun i h1 h2 => ?_
  rw [enD_len] at h1
  have := enD_at (List.getElem?_eq_getElem h1)
  rw [List.getElem_map, List.getElem_range, List.getD_eq_getElem?_getD, List.getElem?_eq_getElem h1]
  rw [List.getElem?_eq_getElem (by rw [enD_len]; exact h1)] at this
  exact Option.some.inj this
theorem enD_ns (ns : List Int) : enD (ns.map .int) = (List.range ns.length).map fun (i : Nat) => PyData.tuple [.int (i : Int), .int (ns.getD i 0)] := by
  rw [enD_rg _ (.int 0), List.length_map]
  refine List.map_congr_left fun i _ => ?_
  rw [List.getD_eq_getElem?_getD, List.getD_eq_getElem?_getD, List.getElem?_map]
  cases ns[i]? <;> rfl
def spA_cases_from (n : Nat) : Spc := fun avs Kr Kx => match avs with
  | [.val (.list xs), .val (.list ys)] => ∃ (ns : List Int) (ks : List (Option Int)) (b : Nat), xs = ns.map .int ∧ ys = kps ks ∧ (∀ s ∈ ns, 0 < s) ∧ ns.length = ks.length ∧ ks.length ≤ 6 ∧ nC ks ≤ n ∧ KsIn ns ks ∧ NoCv b ns ks ∧ Kr [] (.val (cfF b ns (n + 1) ks))
  | _ => False
def sp_cases_from : Nat → Spc
  | 0 => fun _ _ _ => False
  | n + 1 => spA_cases_from n
def w_cases_from_B1 (n : Nat) : WS :=
  (wIfS (wTB (wBin oIs (wBin oIx (wVar 1) (wVar 4)) (wC .none))) (wDrop (wOwnF 3 (wCall 2 (sp_cases_from n) (wMCons (wVar 0) (wMCons (wBin oAdd (wBin oAdd (wSl (wVar 1) wONo (wOSo (wVar 4))) (wLst (wFCons (wBin oMod (wVar 2) (wVar 5)) wFNil))) (wSl (wVar 1) (wOSo (wBin oAdd (wVar 4) (wC (.int 1)))) wONo)) wMNil))) muApp)) wNext)
def w_cases_from_L1 (n : Nat) : WS :=
  wFor (wIEnum (wFCons (wVar 0) wFNil)) (gT 2 (gCons' (gN 4) (gCons' (gN 5) gNil'))) (w_cases_from_B1 n)
def w_cases_from_R1 (n : Nat) : WS :=
  (wRet (wTup (wFCons (wVar 2) (wFCons (wCallB oTuple (wACons (wVar 3) wANil)) wFNil))))
/-- cases_from: 0 steps, 1 kept, 2 number, 3 papers, 4 place, 5 step -/
def w_cases_from (n : Nat) : WS :=
  (wSeq (wSet 2 (wCall 2 sp_first_left (wMCons (wVar 0) (wMCons (wVar 1) wMNil))))
    (wSeq (wSet 3 (wLst wFNil))
    (wSeq (w_cases_from_L1 n)
    (w_cases_from_R1 n))))

theorem vc_cases_from : ∀ n avs Kr Kx, avs.length = 2 → sp_cases_from (n + 1) avs Kr Kx → lsFrom 0 avs = [] ∧ w_cases_from n (startEv 6 avs) (kenD [] Kr Kx) := by
  intro n avs Kr Kx hl h
  replace h : spA_cases_from n avs Kr Kx := h
  unfold spA_cases_from at h
  split at h
  · rename_i xs ys
    obtain ⟨ns, ks, b, rfl, rfl, hs, hkl, h6, hc, hk, hv, q⟩ := h
    refine ⟨rfl, ?_⟩
    have fs := flF_spec (noCv_ex hs hkl hk hv)
    have l1 : (ns.map PyData.int).length = ns.length := List.length_map _
    have l2 : (kps ks).length = ks.length := List.length_map _
    have q : Kr [] (.val (.tuple [.int (flF b ns ks : Int), .tuple ((freeI ks).map fun i => cfF b ns n (ks.set i (some ((flF b ns ks : Int) % ns.getD i 0))))])) := q
    unfold w_cases_from
    refine seq_cut fun R hR => ?_
    dsimp? [sp_first_left]
    refine ⟨ns, rfl, ks, rfl, hs, by omega, flF b ns ks, fs.1, fs.2, hR _ ?_⟩
    clear fs
    generalize flF b ns ks = m at *
    refine seq_cut fun R hR => ?_
    dsimp? []
    refine ⟨by decide, hR _ ?_⟩
    refine seq_cut fun R hR => ?_
    dsimp? [w_cases_from_L1, wFor]
    rw [enD_ns]
    refine each_rg (fun (i : Nat) => PyData.tuple [.int (i : Int), .int (ns.getD i 0)]) (fun i e => ∃ x4 x5, e = [.val (.list (ns.map .int)), .val (.list (kps ks)), .val (.int (m : Int)), .own false ((freeU ks i).map fun j => cfF b ns n (ks.set j (some ((m : Int) % ns.getD j 0)))), x4, x5]) ?_ ?_ _ ⟨_, _, rfl⟩
    · rintro e ⟨x4, x5, rfl⟩
      refine hR _ ?_
      have fl := freeU_len ks ks.length
      dsimp? [w_cases_from_R1, List.length_map]
      rw [hkl]
      exact ⟨by decide, q⟩
    · rintro i e R9 hi ⟨x4, x5, rfl⟩ ih
      have ho := List.getElem?_eq_getElem (show i < ks.length by omega)
      generalize ks[i] = o at ho
      have fu := freeU_len ks i
      have fs := freeU_succ ks i
      dsimp? [w_cases_from_B1, atI_kps ho]
      cases o with
      | some r =>
        dsimp? [optI]
        rw [show fr ks i = false by unfold fr; rw [ho], if_neg (by decide), List.append_nil] at fs
        rw [← fs]
        exact ih _ ⟨_, _, rfl⟩
      | none =>
        rw [fr_iff.mpr ho, if_pos rfl] at fs
        have hcs := nC_set (v := (m : Int) % ns.getD i 0) ho
        obtain ⟨n', rfl⟩ : ∃ n', n = n' + 1 := ⟨n - 1, by omega⟩
        have spos := getD_pos hs hi
        have c1 := cut_lenN (kps ks) none (some (i : Int))
        have c2 := cut_lenN (kps ks) (some ((i : Int) + 1)) none
        have sz := sizeLine_eq
        dsimp? [optI]
        refine ⟨spos, by decide, by omega, by rw [List.length_append, List.length_singleton]; omega, ?_⟩
        rw [kps_set _ (by omega)]
        dsimp? [sp_cases_from, spA_cases_from]
        refine ⟨ns, rfl, ks.set i (some ((m : Int) % ns.getD i 0)), rfl, hs, by rw [List.length_set]; exact hkl, by rw [List.length_set]; exact h6, by omega, ksIn_set hs hi hk, b, noCv_set _ ho hv, ?_⟩
        refine ⟨by rw [List.length_map]; omega, ?_⟩
        rw [show (freeU ks i).map (fun j => cfF b ns (n' + 1) (ks.set j (some ((m : Int) % ns.getD j 0)))) ++ [cfF b ns (n' + 1) (ks.set i (some ((m : Int) % ns.getD i 0)))] = (freeU ks (i + 1)).map (fun j => cfF b ns (n' + 1) (ks.set j (some ((m : Int) % ns.getD j 0)))) by rw [fs, List.map_append]; rfl]
        exact ih _ ⟨_, _, rfl⟩
  · exact h.elim
/-- what cases_for tells -/
def cdD (ns : List Int) : PyData := match rfF (szI ns) ns (rgI (szI ns)) with
  | some _ => .none
  | none => cfF (szI ns).toNat ns 9 (List.replicate ns.length none)
theorem rgI_nodup (n : Int) : (rgI n).Nodup := by
  unfold rgI
  refine List.pairwise_map.mpr (List.nodup_range.imp fun {a b} h e => h (by omega))
theorem noCv_of {ns : List Int} (hs : ∀ s ∈ ns, 1 ≤ s) (h : rfF (szI ns) ns (rgI (szI ns)) = none) (ks : List (Option Int)) : NoCv (szI ns).toNat ns ks := fun rs a b _ => by
  have z := szI_pos hs
  obtain ⟨n, hn, hq⟩ := rfF_none (by omega) (fun s h => ⟨hs s h, szI_dvd hs s h⟩) (rgI_nodup _) (fun n hn => rgI_mem.mp hn) h rs a b
  obtain ⟨n0, n1⟩ := rgI_mem.mp hn
  exact ⟨n.toNat, by omega, by rw [Int.toNat_of_nonneg n0]; exact hq⟩
theorem nC_rep (n : Nat) : nC (List.replicate n none) = n := by
  unfold nC
  rw [List.countP_replicate]
  simp
theorem ksIn_rep (ns : List Int) (n : Nat) : KsIn ns (List.replicate n none) := fun i s r _ h => by
  have := List.mem_of_getElem? h
  rw [List.mem_replicate] at this
  cases this.2
def sp_cases_for : Spc := fun avs Kr Kx => match avs with
  | [.val d] => StK d (False) fun ns => (10000 < szI ns → False) ∧ (szI ns ≤ 10000 → Kr [] (.val (cdD ns)))
  | _ => False
/-- cases_for: 0 steps -/
def w_cases_for : WS :=
  (wSeq (wIfS (wTB (wBin oIsNot (wCall 1 sp_rests_for (wMCons (wVar 0) wMNil)) (wC .none))) (wRet (wC .none)) wNext)
    (wRet (wCall 2 (sp_cases_from 9) (wMCons (wVar 0) (wMCons (wRep (wLst (wFCons (wC .none) wFNil)) (wCallB oLen (wACons (wVar 0) wANil))) wMNil)))))

theorem vc_cases_for : ∀ avs Kr Kx, avs.length = 1 → sp_cases_for avs Kr Kx → lsFrom 0 avs = [] ∧ w_cases_for (startEv 1 avs) (kenD [] Kr Kx) := by
  intro avs Kr Kx hl h
  unfold sp_cases_for at h
  split at h
  · rename_i d
    obtain ⟨q1, q2⟩ := h
    refine ⟨rfl, ?_⟩
    unfold w_cases_for
    refine seq_cut fun R hR => ?_
    dsimp? [sp_rests_for]
    refine ⟨q1, fun ns hd h1 h6 hs => ?_⟩
    subst hd
    obtain ⟨g1, g2⟩ := q2 ns rfl h1 h6 hs
    refine ⟨g1, fun hz => ?_⟩
    have g := g2 hz
    unfold cdD at g
    cases e : rfF (szI ns) ns (rgI (szI ns)) with
    | some l =>
      rw [e] at g
      dsimp? [optT]
      exact g
    | none =>
      rw [e] at g
      dsimp? [optT]
      refine hR _ ?_
      have hp : ∀ s ∈ ns, 0 < s := fun s h => by have := hs s h; omega
      have sz := sizeLine_eq
      dsimp? [List.length_map]
      rw [Int.toNat_natCast, rep_none]
      refine ⟨by decide, by omega, by omega, by omega, ?_⟩
      dsimp? [sp_cases_from, spA_cases_from]
      exact ⟨ns, rfl, List.replicate ns.length none, rfl, hp, List.length_replicate.symm, by rw [List.length_replicate]; exact h6, by rw [nC_rep]; omega, ksIn_rep _ _, _, noCv_of (fun s h => hp s h) e _, g⟩
  · exact h.elim
end Dl
end L2

/-! The plain half, 27: marks. -/
namespace L2
namespace Dl
open PySem PySem.Spec PyProof.Rows
local macro_rules | `(tactic| dsimp? [$xs,*] $[$l]?) => `(tactic| simp only [wSeq, wNext, wBreak, wCont, wDrop, wRet, wRetN, wIfS, wSet, wAsgT, e_aug, e_setIx, e_par, e_gN, getS_0, getS_s, setS_0, setS_s, e_var, varK_v, varK_o, varK_u, wC, wBin, rdK_v, rdK_t, rdK_s, rdS_v, rdS_o, rdS_u, fzK_v, fzK_t, fzK_s, fzS_v, fzS_o, fzS_l, fzS_u, e_fz, asg_v, asg_t, asg_s, e_tb, tbK_b, wAnd, wOr, wNot, e_notV, e_andV, e_orV, wBV, wIf, e_neg, intK_i, e_oso, wONo, e_rng1, e_rng2, wFNil, wFCons, wANil, wACons, wTup, wLst, e_callB, rdAllK_n, rdAllK_c, wIsi, e_call, wMNil, wMCons, e_ld, lnsOf, avsK_n, avsK_f, avsK_l, lnS_o, lnS_v, lnS_u, poK_n, poK_c, poS_o, inS_0, inS_s, rsK_v, rsK_o, wSl, e_ownF, e_own0, ownB_o, oS_o, oS_v, oS_u, agS_i, muApp, oAdd_i, oAdd_l, oAdd_t, oAdd_s, oSub_i, oMul_i, oFdiv_i, oMod_i, oPow_i, oShl_i, oShr_i, oOr_i, oAndB_i, oLt_i, oLe_i, oGt_i, oGe_i, oEq_i, oNe_i, oEq, oNe, oIx_l, oIx_t, oLen_l, oLen_t, oInt_i, oInt_b, oMax_i, oMin_i, oList_l, oList_t, oTuple_l, oTuple_t, oSorted_l, oSorted_t, oIs_n, oIsN_n, oIs_b, oIsN_b, isNone_n, isNone_t, isNone_l, isNone_i, isNone_s, isNone_b, oSl_l, oSl_t, oIn, gT_t, gC_c, gNil', e_iseq, sqK_l, sqK_t, e_isq, sq2K_l, sq2K_t, e_sset, ssK_l, ssK_t, e_chain, e_lr1, e_lr2, wRev, rvD_l, rvD_t, e_in1, e_in2, negB_f, negB_t, wIZip, zpK_l, zpK_t, zpK_m, e_extend, extR_t, wYes, startEv, kenD_nx, kenD_rt, kenD_bk, kenD_ct, kenD_ex, outK_n, outK_c, otS_o, rvK_v, rvK_t, rvK_s, rvS_v, rvS_o, slOf, lsFrom, wipeE, restE, List.map_cons, List.map_nil, List.length_cons, List.length_nil, List.replicate, List.append_nil, List.cons_append, List.nil_append, List.getElem?_cons_zero, List.getElem?_cons_succ, List.getElem?_nil, List.set_cons_zero, List.set_cons_succ, List.set_nil, Option.getD_some, Option.getD_none, Option.map_some, Option.map_none, Option.some.injEq, Rs.val.injEq, Rs.tmp.injEq, Rs.slot.injEq, Sl.own.injEq, Sl.val.injEq, PyData.int.injEq, PyData.bool.injEq, PyData.str.injEq, PyData.list.injEq, PyData.tuple.injEq, Prod.mk.injEq, Nat.sub_self, Nat.zero_add, Nat.reduceAdd, Nat.reduceSub, Nat.add_zero, isTy_int_int, isTy_bool_int, isTy_int_bool, isTy_bool_bool, isTy_int_tup, isTy_int_lst, isTy_int_non, isTy_int_str, isTy_tup_tup, isTy_tup_lst, isTy_tup_int, isTy_tup_bool, isTy_tup_non, isTy_tup_str, isTy_lst_lst, isTy_lst_tup, isTy_lst_int, exists_eq_left', exists_eq_left, exists_and_left, exists_eq_right, exists_eq, exists_eq', exists_const, true_and, and_true, and_self, Bool.not_true, Bool.not_false, if_true, if_false, Bool.false_eq_true, reduceIte, reduceCtorEq, List.nodup_nil, decide_eq_true_eq, atI_0, atI_1, atI_2, atI_3, atI_4, atI_5, atI_6, atI_7, atI_8, atI_9, atI_10, atI_11, ixN_3_0, ixN_3_1, ixN_3_2, sh_int, sh_bool, sh_non, and_assoc, nd1, nd_true, eq_self, decide_true, decide_false, Int.cast_ofNat_Int, not_true_eq_false, not_false_eq_true, eqv_ii, eqv_bb, wRaise0, e_raiseG, grK_i, e_raise1, onK_i, e_callX, xa_1, xa_2, xa_3, xa_4, xa_5, xa_6, xa_7, e_many, e_most, e_number, e_row, isLst_l, lsK_l, e_rd, e_br, brS_o, brS_v, arS_o, arS_v, avbK_n, avbK_f, avbK_l, scK_b, scK_i, scK_n, scK_s, e_callS, tmK_t, e_rep, enK_l, e_ienum, wTry, eqv_ss, tpK_v, txK_1, tutK_t, e_repT, e_callT, enTK_t, e_ienumT, r3K_i, e_rng3, e_newD, e_putD, e_lenD, e_listD, dcS_d, dcB_d, pvK_b, pvK_i, tkK_m, tkK_2, e_ssetI, oMinL_c, e_lset, e_lstZ, zlK_c, e_ins, $xs,*] $[$l]?)
def gsN (s : Nat) : Nat → Nat
  | 0 => 0
  | q + 1 => gsN s q + 2 ^ (s * q)
theorem gsN_mul (s : Nat) : ∀ q, gsN s q * (2 ^ s - 1) + 1 = 2 ^ (s * q)
  | 0 => by rw [Nat.mul_zero]; show 0 * _ + 1 = _; rw [Nat.zero_mul]
  | q + 1 => by
    have ih := gsN_mul s q
    have h1 := Nat.one_le_two_pow (n := s)
    show (gsN s q + 2 ^ (s * q)) * (2 ^ s - 1) + 1 = _
    rw [Nat.add_mul, Nat.add_right_comm, ih, Nat.mul_succ, Nat.pow_add, Nat.mul_sub, Nat.mul_one]
    have h2 : 2 ^ (s * q) * 1 ≤ 2 ^ (s * q) * 2 ^ s := Nat.mul_le_mul_left _ h1
    omega
theorem two_pow_pos {s : Nat} (h : 0 < s) : 0 < 2 ^ s - 1 := by
  have : 2 ^ 1 ≤ 2 ^ s := Nat.pow_le_pow_right (by decide) h
  omega
theorem gsN_div {s : Nat} (h : 0 < s) (q : Nat) : (2 ^ (s * q) - 1) / (2 ^ s - 1) = gsN s q := by
  have e := gsN_mul s q
  have : 2 ^ (s * q) - 1 = gsN s q * (2 ^ s - 1) := by omega
  rw [this, Nat.mul_div_cancel _ (two_pow_pos h)]
theorem gsN_lt {s : Nat} (h : 0 < s) (q : Nat) : gsN s q < 2 ^ (s * q) := by
  have e := gsN_mul s q
  have h2 : gsN s q * 1 ≤ gsN s q * (2 ^ s - 1) := Nat.mul_le_mul_left _ (two_pow_pos h)
  omega
theorem gsN_bit {s : Nat} (h : 0 < s) (m : Nat) : ∀ q, (gsN s q).testBit m = (decide (m % s = 0) && decide (m / s < q))
  | 0 => by
    show (0 : Nat).testBit m = _
    rw [Nat.zero_testBit, decide_eq_false (Nat.not_lt_zero _), Bool.and_false]
  | q + 1 => by
    have e : gsN s (q + 1) = 2 ^ (s * q) * 1 ||| gsN s q := by
      rw [← Nat.two_pow_add_eq_or_of_lt (gsN_lt h q) 1, Nat.mul_one]
      exact Nat.add_comm _ _
    rw [e, Nat.mul_one, Nat.testBit_or, Nat.testBit_two_pow, gsN_bit h m q, Bool.eq_iff_iff, Bool.or_eq_true, Bool.and_eq_true, Bool.and_eq_true, decide_eq_true_iff, decide_eq_true_iff, decide_eq_true_iff, decide_eq_true_iff]
    have d := Nat.div_add_mod m s
    constructor
    · rintro (z | ⟨a, b⟩)
      · subst z
        rw [Nat.mul_mod_right, Nat.mul_div_cancel_left _ h]
        exact ⟨rfl, Nat.lt_succ_self _⟩
      · exact ⟨a, by omega⟩
    · rintro ⟨a, b⟩
      by_cases z : m / s = q
      · left
        rw [a, z] at d
        omega
      · exact .inr ⟨a, by omega⟩
/-- the bits of a clock over a round -/
def mkN (size s r : Nat) : Nat := (2 ^ size - 1) / (2 ^ s - 1) * 2 ^ r
theorem mkN_bit {size s r : Nat} (h : 0 < s) (hd : s ∣ size) (hr : r < s) (n : Nat) : (mkN size s r).testBit n = (decide (n < size) && decide (n % s = r)) := by
  obtain ⟨q, rfl⟩ := hd
  unfold mkN
  rw [gsN_div h, ← Nat.shiftLeft_eq, Nat.testBit_shiftLeft, gsN_bit h, Bool.eq_iff_iff]
  simp only [Bool.and_eq_true, decide_eq_true_iff]
  have d := Nat.div_add_mod n s
  constructor
  · rintro ⟨a, b, c⟩
    have d2 := Nat.div_add_mod (n - r) s
    rw [b] at d2
    have e : n = r + s * ((n - r) / s) := by omega
    have e2 : n % s = r := by
      rw [e, Nat.add_mul_mod_self_left, Nat.mod_eq_of_lt hr]
    refine ⟨?_, e2⟩
    have : s * ((n - r) / s + 1) ≤ s * q := Nat.mul_le_mul_left _ c
    rw [Nat.mul_succ] at this
    omega
  · rintro ⟨a, b⟩
    have e : n - r = s * (n / s) := by omega
    refine ⟨by omega, ?_, ?_⟩
    · rw [e, Nat.mul_mod_right]
    · rw [e, Nat.mul_div_cancel_left _ h]
      exact Nat.div_lt_of_lt_mul a
theorem pow1_cast (k : Nat) : (2 : Int) ^ k - 1 = ((2 ^ k - 1 : Nat) : Int) := by
  rw [Int.natCast_sub Nat.one_le_two_pow, Int.natCast_pow]
  rfl
theorem one_shl (k : Int) : (1 : Int) * 2 ^ k.toNat - 1 = ((2 ^ k.toNat - 1 : Nat) : Int) := by rw [Int.one_mul, pow1_cast]
theorem cshl_one {k : Int} (h0 : 0 ≤ k) (h1 : k ≤ 100000) : CShl 1 k := by
  have := shl_ok (i := 1) (j := k.toNat) (n := 1) (by decide) (by omega)
  rwa [Int.toNat_of_nonneg h0] at this
def sp_mark_of : Spc := fun avs Kr Kx => match avs with
  | [.val (.tuple [.int s, .int r]), .val (.int size)] => 0 < s ∧ s ≤ 1000 ∧ 0 ≤ r ∧ r ≤ 1000 ∧ 0 ≤ size ∧ size ≤ 10000 ∧ Kr [] (.val (.int (mkN size.toNat s.toNat r.toNat : Nat)))
  | _ => False
/-- mark_of: 0 clock, 1 size -/
def w_mark_of : WS :=
  (wRet (wBin oShl (wBin oFdiv (wBin oSub (wBin oShl (wC (.int 1)) (wVar 1)) (wC (.int 1))) (wBin oSub (wBin oShl (wC (.int 1)) (wBin oIx (wVar 0) (wC (.int 0)))) (wC (.int 1)))) (wBin oIx (wVar 0) (wC (.int 1)))))

theorem vc_mark_of : ∀ avs Kr Kx, avs.length = 2 → sp_mark_of avs Kr Kx → lsFrom 0 avs = [] ∧ w_mark_of (startEv 2 avs) (kenD [] Kr Kx) := by
  intro avs Kr Kx hl h
  unfold sp_mark_of at h
  split at h
  · rename_i s r size
    obtain ⟨s0, s1, r0, r1, z0, z1, q⟩ := h
    refine ⟨rfl, ?_⟩
    dsimp? [w_mark_of]
    have p1 := two_pow_pos (s := s.toNat) (by omega)
    have l1 : ((2 ^ s.toNat - 1 : Nat) : Int).natAbs < 2 ^ 8000 := by
      rw [Int.natAbs_natCast]
      exact Nat.lt_of_lt_of_le (Nat.sub_lt Nat.one_le_two_pow (by decide)) (Nat.pow_le_pow_right (by decide) (by omega))
    refine ⟨cshl_one z0 (by omega), cshl_one (by omega) (by omega), ?_⟩
    rw [one_shl, one_shl]
    refine ⟨by omega, log_of (by omega) l1, ?_, ?_⟩
    · have := shl_ok (i := ((2 ^ size.toNat - 1 : Nat) : Int) / ((2 ^ s.toNat - 1 : Nat) : Int)) (j := r.toNat) (n := size.toNat) (by
        rw [← Int.natCast_ediv, Int.natAbs_natCast]
        exact Nat.lt_of_le_of_lt (Nat.div_le_self _ _) (Nat.sub_lt Nat.one_le_two_pow (by decide))) (by omega)
      rwa [Int.toNat_of_nonneg r0] at this
    · unfold mkN at q
      rw [Int.natCast_mul, Int.natCast_ediv, Int.natCast_pow] at q
      exact q
  · exact h.elim
/-- a for that folds -/
theorem each_fold {α β : Type} {g : WG} {t : WS} {k : Ken} (en : β → PyData) (f : α → β → α) (all : List β) (J : α → Ev → Prop) (step : ∀ a, ∀ x ∈ all, ∀ e (R : Ev → Prop), J a e → (∀ e2, J (f a x) e2 → R e2) → g (en x) e (fun e1 => t e1 { k with nx := R, ct := R, bk := k.nx })) :
    ∀ (xs : List β) (a : α) (e : Ev), (∀ x ∈ xs, x ∈ all) → (∀ e, J (xs.foldl f a) e → k.nx e) → J a e → wEach g t (xs.map en) e k
  | [], a, e, _, fin, h => fin e h
  | x :: xs, a, e, hs, fin, h => step a x (hs x List.mem_cons_self) e _ h fun e2 h2 => each_fold en f all J step xs (f a x) e2 (fun y hy => hs y (List.mem_cons_of_mem _ hy)) fin h2
theorem zip_ns (ns rs : List Int) : zipD (ns.map .int) (rs.map .int) = (ns.zip rs).map fun p => PyData.tuple [.int p.1, .int p.2] := by
  unfold zipD
  rw [List.zip_map, List.map_map]
  rfl
theorem zip_nd (ns : List Int) (ys : List PyData) : zipD (ns.map .int) ys = (ns.zip ys).map fun p => PyData.tuple [.int p.1, p.2] := by
  unfold zipD
  rw [List.zip_map_left, List.map_map]
  rfl
def orM (size : Nat) (a : Nat) (p : Int × Int) : Nat := a ||| mkN size p.1.toNat p.2.toNat
def mksN (size : Nat) (ns rs : List Int) : Nat := (ns.zip rs).foldl (orM size) 0
theorem bitOr_c (a b : Nat) : Builtin.bitOr (a : Int) (b : Int) = ((a ||| b : Nat) : Int) := by
  rw [bitOr_nn (Int.natCast_nonneg _) (Int.natCast_nonneg _), Int.toNat_natCast, Int.toNat_natCast]
def RsIn (ns rs : List Int) : Prop := ∀ p ∈ ns.zip rs, 0 ≤ p.2 ∧ p.2 < p.1
def sp_marks_by : Spc := fun avs Kr Kx => match avs with
  | [.val (.list xs), .val (.tuple ys), .val (.int size)] => ∃ ns rs : List Int, xs = ns.map .int ∧ ys = rs.map .int ∧ StL ns ∧ RsIn ns rs ∧ 0 ≤ size ∧ size ≤ 10000 ∧ Kr [] (.val (.int (mksN size.toNat ns rs : Nat)))
  | _ => False
def w_marks_by_B1 : WS :=
  (wSet 3 (wBin oOr (wVar 3) (wCall 2 sp_mark_of (wMCons (wTup (wFCons (wVar 4) (wFCons (wVar 5) wFNil))) (wMCons (wVar 2) wMNil)))))
def w_marks_by_L1 : WS :=
  wFor (wIZip (wFCons (wVar 0) (wFCons (wVar 1) wFNil))) (gT 2 (gCons' (gN 4) (gCons' (gN 5) gNil'))) w_marks_by_B1
def w_marks_by_R1 : WS :=
  (wRet (wVar 3))
/-- marks_by: 0 steps, 1 rests, 2 size, 3 found, 4 step, 5 rest -/
def w_marks_by : WS :=
  (wSeq (wSet 3 (wC (.int 0)))
    (wSeq w_marks_by_L1
    w_marks_by_R1))

theorem vc_marks_by : ∀ avs Kr Kx, avs.length = 3 → sp_marks_by avs Kr Kx → lsFrom 0 avs = [] ∧ w_marks_by (startEv 6 avs) (kenD [] Kr Kx) := by
  intro avs Kr Kx hl h
  unfold sp_marks_by at h
  split at h
  · rename_i xs ys size
    obtain ⟨ns, rs, rfl, rfl, hs, hr, z0, z1, q⟩ := h
    refine ⟨rfl, ?_⟩
    unfold w_marks_by
    refine seq_cut fun R hR => ?_
    dsimp? []
    refine hR _ ?_
    refine seq_cut fun R hR => ?_
    dsimp? [w_marks_by_L1, wFor]
    rw [zip_ns]
    refine each_fold (fun (p : Int × Int) => PyData.tuple [.int p.1, .int p.2]) (orM size.toNat) (ns.zip rs) (fun a e => ∃ x4 x5, e = [.val (.list (ns.map .int)), .val (.tuple (rs.map .int)), .val (.int size), .val (.int (a : Int)), x4, x5]) ?_ _ 0 _ (fun _ h => h) ?_ ⟨_, _, rfl⟩
    · rintro a ⟨s, r⟩ hp e R9 ⟨x4, x5, rfl⟩ ih
      have h1 := hr _ hp
      have h2 := hs.1 s (List.of_mem_zip hp).1
      simp only at h1
      dsimp? [w_marks_by_B1, sp_mark_of]
      refine ⟨by decide, by omega, by omega, by omega, by omega, z0, z1, ?_⟩
      rw [bitOr_c]
      exact ih _ ⟨_, _, rfl⟩
    · rintro e ⟨x4, x5, rfl⟩
      refine hR _ ?_
      dsimp? [w_marks_by_R1]
      exact q
  · exact h.elim
def rp : Int × PyData → Bool
  | (s, .int r) => decide (0 ≤ r) && decide (r < s)
  | _ => false
def arB (ns : List Int) : PyData → Bool
  | .tuple ys => decide (ys.length = ns.length) && (ns.zip ys).all rp
  | _ => false
theorem arB_at (ns : List Int) (ys : List PyData) : arB ns (.tuple ys) = (decide (ys.length = ns.length) && (ns.zip ys).all rp) := rfl
def sp_are_rests : Spc := fun avs Kr Kx => match avs with
  | [.val (.list xs), .val t] => ∃ ns : List Int, xs = ns.map .int ∧ ns.length ≤ 1000 ∧ Kr [] (.val (.bool (arB ns t)))
  | _ => False
def w_are_rests_C1 : WE :=
  wLc [2, 3] (wIZip (wFCons (wVar 0) (wFCons (wVar 1) wFNil))) (gT 2 (gCons' (gN 2) (gCons' (gN 3) gNil'))) wYes ((wAndV (wCall 1 sp_is_whole (wMCons (wVar 3) wMNil)) (wChain oLe oLt (wC (.int 0)) (wVar 3) (wVar 2))))
/-- are_rests: 0 steps, 1 thing, 2 step, 3 rest -/
def w_are_rests : WS :=
  (wSeq (wIfS (wOr (wNot (wTB (wIsi "tuple" (wVar 1)))) (wTB (wBin oNe (wCallB oLen (wACons (wVar 1) wANil)) (wCallB oLen (wACons (wVar 0) wANil))))) (wRet (wC (.bool false))) wNext)
    (wRet (wCallB oAll (wACons w_are_rests_C1 wANil))))

theorem vc_are_rests : ∀ avs Kr Kx, avs.length = 2 → sp_are_rests avs Kr Kx → lsFrom 0 avs = [] ∧ w_are_rests (startEv 4 avs) (kenD [] Kr Kx) := by
  intro avs Kr Kx hl h
  unfold sp_are_rests at h
  split at h
  · rename_i xs t
    obtain ⟨ns, rfl, hl, q⟩ := h
    refine ⟨rfl, ?_⟩
    unfold w_are_rests
    refine seq_cut fun R hR => ?_
    cases t with
    | tuple ys =>
      rw [arB_at] at q
      dsimp? [List.length_map]
      split
      · rename_i hne
        rw [decide_eq_false (by omega)] at q
        exact q
      · rename_i he
        rw [decide_eq_true (by omega), Bool.true_and] at q
        refine hR _ ?_
        dsimp? [w_are_rests_C1, wLc]
        rw [zip_nd]
        refine lc_map (fun (p : Int × PyData) => PyData.tuple [.int p.1, p.2]) (fun p => .bool (rp p)) (ns.zip ys) (fun p hp A hA => ?_) (small100000 (by rw [List.length_zip]; omega)) ?_
        · obtain ⟨s, y⟩ := p
          cases y with
          | int r =>
            have e : rp (s, .int r) = (decide (0 ≤ r) && decide (r < s)) := rfl
            rw [e] at hA
            dsimp? [sp_is_whole, isI]
            by_cases h0 : 0 ≤ r
            · rw [if_pos h0]
              rw [decide_eq_true h0, Bool.true_and] at hA
              exact hA
            · rw [if_neg h0]
              rw [decide_eq_false h0, Bool.false_and] at hA
              exact hA
          | _ => dsimp? [sp_is_whole, isI]; exact hA
        · dsimp? [oAll]
          refine ⟨(ns.zip ys).map rp, by rw [List.map_map]; rfl, ?_⟩
          rw [List.all_map]
          exact q
    | _ => dsimp? [isTy, tyN]; exact q
  · exact h.elim
def rsB (ns rs : List Int) : Bool := (rgI (szI ns)).all fun n => (ns.zip rs).any fun p => decide (n % p.1 = p.2)
theorem mks_bit {size : Nat} (n : Nat) : ∀ (ps : List (Int × Int)) (a : Nat), (∀ p ∈ ps, 0 < p.1 ∧ p.1.toNat ∣ size ∧ 0 ≤ p.2 ∧ p.2 < p.1) → (ps.foldl (orM size) a).testBit n = (a.testBit n || ps.any fun p => decide (n < size) && decide ((n : Int) % p.1 = p.2))
  | [], a, _ => by rw [List.foldl_nil, List.any_nil, Bool.or_false]
  | p :: ps, a, h => by
    obtain ⟨h1, h2, h3, h4⟩ := h p List.mem_cons_self
    rw [List.foldl_cons, mks_bit n ps _ fun q hq => h q (List.mem_cons_of_mem _ hq), List.any_cons, orM, Nat.testBit_or, mkN_bit (by omega) h2 (by omega), Bool.or_assoc]
    congr 3
    obtain ⟨s, r⟩ := p
    simp only at h1 h3 h4 ⊢
    obtain ⟨s, rfl⟩ := Int.eq_ofNat_of_zero_le (Int.le_of_lt h1)
    obtain ⟨r, rfl⟩ := Int.eq_ofNat_of_zero_le h3
    rw [Int.toNat_natCast, Int.toNat_natCast]
    refine decide_eq_decide.mpr ?_
    omega
theorem mks_full {ns rs : List Int} (hs : ∀ s ∈ ns, 1 ≤ s) (hr : RsIn ns rs) : mksN (szI ns).toNat ns rs = 2 ^ (szI ns).toNat - 1 ↔ rsB ns rs = true := by
  have z0 := szI_pos hs
  have hp : ∀ p ∈ ns.zip rs, 0 < p.1 ∧ p.1.toNat ∣ (szI ns).toNat ∧ 0 ≤ p.2 ∧ p.2 < p.1 := fun p hp => by
    have h1 := hr p hp
    have hm := (List.of_mem_zip (show (p.1, p.2) ∈ ns.zip rs from hp)).1
    have h2 := szI_dvd hs p.1 hm
    have h3 := hs p.1 hm
    refine ⟨by omega, ?_, h1.1, h1.2⟩
    rw [show p.1.toNat = p.1.natAbs by omega, show (szI ns).toNat = (szI ns).natAbs by omega]
    exact Int.natAbs_dvd_natAbs.mpr h2
  have bit : ∀ n : Nat, (mksN (szI ns).toNat ns rs).testBit n = (decide (n < (szI ns).toNat) && (ns.zip rs).any fun p => decide ((n : Int) % p.1 = p.2)) := fun n => by
    unfold mksN
    rw [mks_bit n _ _ hp, Nat.zero_testBit, Bool.false_or]
    cases decide (n < (szI ns).toNat) with
    | true => simp only [Bool.true_and]
    | false => simp only [Bool.false_and, List.any_eq_false]; exact fun _ _ => Bool.false_ne_true
  unfold rsB
  rw [List.all_eq_true]
  constructor
  · intro e n hn
    obtain ⟨n0, n1⟩ := rgI_mem.mp hn
    have b := bit n.toNat
    rw [e, Nat.testBit_two_pow_sub_one, decide_eq_true (by omega : n.toNat < (szI ns).toNat), Bool.true_and, Int.toNat_of_nonneg n0] at b
    exact b.symm
  · intro h
    refine Nat.eq_of_testBit_eq fun n => ?_
    rw [bit n, Nat.testBit_two_pow_sub_one]
    by_cases hn : n < (szI ns).toNat
    · rw [decide_eq_true hn, Bool.true_and]
      exact h (n : Int) (rgI_mem.mpr ⟨by omega, by omega⟩)
    · rw [decide_eq_false hn, Bool.false_and]
def rgB (ns : List Int) : PyData → Bool
  | .tuple ys => arB ns (.tuple ys) && rsB ns (ys.map iv)
  | _ => false
theorem arB_inv {ns : List Int} {t : PyData} (h : arB ns t = true) : ∃ rs : List Int, t = .tuple (rs.map .int) ∧ rs.length = ns.length ∧ RsIn ns rs := by
  cases t with
  | tuple ys =>
    rw [arB_at, Bool.and_eq_true, decide_eq_true_iff, List.all_eq_true] at h
    obtain ⟨h1, h2⟩ := h
    obtain ⟨rs, rfl, _⟩ := ints_of (P := fun _ => True) (acc := ys) fun d hd => by
      obtain ⟨i, hi⟩ := List.getElem?_of_mem hd
      have hlt := (List.getElem?_eq_some_iff.mp hi).1
      have := h2 (ns[i]'(by omega), d) (List.mem_of_getElem? (i := i) (List.getElem?_zip_eq_some.mpr ⟨List.getElem?_eq_getElem _, hi⟩))
      cases d with
      | int r => exact ⟨r, rfl, trivial⟩
      | _ => cases this
    rw [List.length_map] at h1
    refine ⟨rs, rfl, h1, fun p hp => ?_⟩
    obtain ⟨s, r⟩ := p
    have : (s, PyData.int r) ∈ ns.zip (rs.map PyData.int) := by
      rw [List.zip_map_right]
      exact List.mem_map.mpr ⟨(s, r), hp, rfl⟩
    have h3 : (decide (0 ≤ r) && decide (r < s)) = true := h2 _ this
    rw [Bool.and_eq_true, decide_eq_true_iff, decide_eq_true_iff] at h3
    exact h3
  | _ => cases h
theorem iv_ns (rs : List Int) : (rs.map PyData.int).map iv = rs := by
  rw [List.map_map]
  exact List.map_id' rs
def sp_rests_good : Spc := fun avs Kr Kx => match avs with
  | [.val d, .val t] => StK d (False) fun ns => (10000 < szI ns → False) ∧ (szI ns ≤ 10000 → Kr [] (.val (.bool (rgB ns t))))
  | _ => False
/-- rests_good: 0 steps, 1 thing, 2 size -/
def w_rests_good : WS :=
  (wSeq (wDrop (wCall 1 sp_check_steps (wMCons (wVar 0) wMNil)))
    (wSeq (wDrop (wCall 1 sp_check_size (wMCons (wVar 0) wMNil)))
    (wSeq (wSet 2 (wCall 1 sp_size_of (wMCons (wVar 0) wMNil)))
    (wRet ((wAndV (wCall 2 sp_are_rests (wMCons (wVar 0) (wMCons (wVar 1) wMNil))) (wBin oEq (wCall 3 sp_marks_by (wMCons (wVar 0) (wMCons (wVar 1) (wMCons (wVar 2) wMNil)))) (wBin oSub (wBin oShl (wC (.int 1)) (wVar 2)) (wC (.int 1))))))))))

theorem vc_rests_good : ∀ avs Kr Kx, avs.length = 2 → sp_rests_good avs Kr Kx → lsFrom 0 avs = [] ∧ w_rests_good (startEv 3 avs) (kenD [] Kr Kx) := by
  intro avs Kr Kx hl h
  unfold sp_rests_good at h
  split at h
  · rename_i d t
    obtain ⟨q1, q2⟩ := h
    refine ⟨rfl, ?_⟩
    unfold w_rests_good
    refine seq_cut fun R hR => ?_
    dsimp? [sp_check_steps]
    refine ⟨fun hb => ?_, q1⟩
    obtain ⟨ns, rfl, h1, h6, hs⟩ := stB_inv hb
    obtain ⟨g1, g2⟩ := q2 ns rfl h1 h6 hs
    have hL := stL_of h6 hs
    refine hR _ ?_
    refine seq_cut fun R hR => ?_
    dsimp? [sp_check_size]
    refine ⟨ns, rfl, hL, fun hz => hR _ ?_, g1⟩
    refine seq_cut fun R hR => ?_
    dsimp? [sp_size_of]
    refine ⟨ns, rfl, hL, hR _ ?_⟩
    have z0 := szI_pos (fun s h => (hL.1 s h).1)
    have g3 := g2 hz
    dsimp? [sp_are_rests]
    refine ⟨ns, rfl, by omega, ?_⟩
    cases hb : arB ns t with
    | false =>
      have e : rgB ns t = false := by
        cases t with
        | tuple ys => show (arB ns (.tuple ys) && _) = false; rw [hb]; rfl
        | _ => rfl
      rw [e] at g3
      exact g3
    | true =>
      obtain ⟨rs, rfl, hl, hr⟩ := arB_inv hb
      have e : rgB ns (.tuple (rs.map .int)) = rsB ns rs := by
        show (arB ns (.tuple (rs.map .int)) && rsB ns ((rs.map .int).map iv)) = _
        rw [hb, iv_ns, Bool.true_and]
      rw [e] at g3
      dsimp? [sp_marks_by]
      refine ⟨ns, rfl, rs, rfl, hL, hr, by omega, hz, cshl_one (by omega) (by omega), ?_⟩
      rw [one_shl]
      have e2 : decide ((mksN (szI ns).toNat ns rs : Int) = ((2 ^ (szI ns).toNat - 1 : Nat) : Int)) = rsB ns rs := by
        rw [Bool.eq_iff_iff, decide_eq_true_iff, ← mks_full (fun s h => (hL.1 s h).1) hr]
        omega
      rw [e2]
      exact g3
  · exact h.elim
end Dl
end L2

/-! The plain half, 28: all rests, counted. -/
namespace L2
namespace Dl
open PySem PySem.Spec PyProof.Rows
local macro_rules | `(tactic| dsimp? [$xs,*] $[$l]?) => `(tactic| simp only [wSeq, wNext, wBreak, wCont, wDrop, wRet, wRetN, wIfS, wSet, wAsgT, e_aug, e_setIx, e_par, e_gN, getS_0, getS_s, setS_0, setS_s, e_var, varK_v, varK_o, varK_u, wC, wBin, rdK_v, rdK_t, rdK_s, rdS_v, rdS_o, rdS_u, fzK_v, fzK_t, fzK_s, fzS_v, fzS_o, fzS_l, fzS_u, e_fz, asg_v, asg_t, asg_s, e_tb, tbK_b, wAnd, wOr, wNot, e_notV, e_andV, e_orV, wBV, wIf, e_neg, intK_i, e_oso, wONo, e_rng1, e_rng2, wFNil, wFCons, wANil, wACons, wTup, wLst, e_callB, rdAllK_n, rdAllK_c, wIsi, e_call, wMNil, wMCons, e_ld, lnsOf, avsK_n, avsK_f, avsK_l, lnS_o, lnS_v, lnS_u, poK_n, poK_c, poS_o, inS_0, inS_s, rsK_v, rsK_o, wSl, e_ownF, e_own0, ownB_o, oS_o, oS_v, oS_u, agS_i, muApp, oAdd_i, oAdd_l, oAdd_t, oAdd_s, oSub_i, oMul_i, oFdiv_i, oMod_i, oPow_i, oShl_i, oShr_i, oOr_i, oAndB_i, oLt_i, oLe_i, oGt_i, oGe_i, oEq_i, oNe_i, oEq, oNe, oIx_l, oIx_t, oLen_l, oLen_t, oInt_i, oInt_b, oMax_i, oMin_i, oList_l, oList_t, oTuple_l, oTuple_t, oSorted_l, oSorted_t, oIs_n, oIsN_n, oIs_b, oIsN_b, isNone_n, isNone_t, isNone_l, isNone_i, isNone_s, isNone_b, oSl_l, oSl_t, oIn, gT_t, gC_c, gNil', e_iseq, sqK_l, sqK_t, e_isq, sq2K_l, sq2K_t, e_sset, ssK_l, ssK_t, e_chain, e_lr1, e_lr2, wRev, rvD_l, rvD_t, e_in1, e_in2, negB_f, negB_t, wIZip, zpK_l, zpK_t, zpK_m, e_extend, extR_t, wYes, startEv, kenD_nx, kenD_rt, kenD_bk, kenD_ct, kenD_ex, outK_n, outK_c, otS_o, rvK_v, rvK_t, rvK_s, rvS_v, rvS_o, slOf, lsFrom, wipeE, restE, List.map_cons, List.map_nil, List.length_cons, List.length_nil, List.replicate, List.append_nil, List.cons_append, List.nil_append, List.getElem?_cons_zero, List.getElem?_cons_succ, List.getElem?_nil, List.set_cons_zero, List.set_cons_succ, List.set_nil, Option.getD_some, Option.getD_none, Option.map_some, Option.map_none, Option.some.injEq, Rs.val.injEq, Rs.tmp.injEq, Rs.slot.injEq, Sl.own.injEq, Sl.val.injEq, PyData.int.injEq, PyData.bool.injEq, PyData.str.injEq, PyData.list.injEq, PyData.tuple.injEq, Prod.mk.injEq, Nat.sub_self, Nat.zero_add, Nat.reduceAdd, Nat.reduceSub, Nat.add_zero, isTy_int_int, isTy_bool_int, isTy_int_bool, isTy_bool_bool, isTy_int_tup, isTy_int_lst, isTy_int_non, isTy_int_str, isTy_tup_tup, isTy_tup_lst, isTy_tup_int, isTy_tup_bool, isTy_tup_non, isTy_tup_str, isTy_lst_lst, isTy_lst_tup, isTy_lst_int, exists_eq_left', exists_eq_left, exists_and_left, exists_eq_right, exists_eq, exists_eq', exists_const, true_and, and_true, and_self, Bool.not_true, Bool.not_false, if_true, if_false, Bool.false_eq_true, reduceIte, reduceCtorEq, List.nodup_nil, decide_eq_true_eq, atI_0, atI_1, atI_2, atI_3, atI_4, atI_5, atI_6, atI_7, atI_8, atI_9, atI_10, atI_11, ixN_3_0, ixN_3_1, ixN_3_2, sh_int, sh_bool, sh_non, and_assoc, nd1, nd_true, eq_self, decide_true, decide_false, Int.cast_ofNat_Int, not_true_eq_false, not_false_eq_true, eqv_ii, eqv_bb, wRaise0, e_raiseG, grK_i, e_raise1, onK_i, e_callX, xa_1, xa_2, xa_3, xa_4, xa_5, xa_6, xa_7, e_many, e_most, e_number, e_row, isLst_l, lsK_l, e_rd, e_br, brS_o, brS_v, arS_o, arS_v, avbK_n, avbK_f, avbK_l, scK_b, scK_i, scK_n, scK_s, e_callS, tmK_t, e_rep, enK_l, e_ienum, wTry, eqv_ss, tpK_v, txK_1, tutK_t, e_repT, e_callT, enTK_t, e_ienumT, r3K_i, e_rng3, e_newD, e_putD, e_lenD, e_listD, dcS_d, dcB_d, pvK_b, pvK_i, tkK_m, tkK_2, e_ssetI, oMinL_c, e_lset, e_lstZ, zlK_c, e_ins, $xs,*] $[$l]?)
/-- a for, by what it has gone over -/
theorem each_pre {β : Type} {g : WG} {t : WS} {k : Ken} (en : β → PyData) (all : List β) (J : List β → Ev → Prop) (fin : ∀ e, J all e → k.nx e)
    (step : ∀ (pre : List β) (x : β) (post : List β), all = pre ++ x :: post → ∀ e (R : Ev → Prop), J pre e → (∀ e2, J (pre ++ [x]) e2 → R e2) → g (en x) e (fun e1 => t e1 { k with nx := R, ct := R, bk := k.nx })) (e : Ev) (h : J [] e) : wEach g t (all.map en) e k := by
  have gen : ∀ (post pre : List β) (e : Ev), all = pre ++ post → J pre e → wEach g t (post.map en) e k := by
    intro post
    induction post with
    | nil =>
      intro pre e he hJ
      rw [List.append_nil] at he
      subst he
      exact fin e hJ
    | cons x post ih =>
      intro pre e he hJ
      exact step pre x post he e _ hJ fun e2 h2 => ih (pre ++ [x]) e2 (by rw [he, List.append_assoc]; rfl) h2
  exact gen all [] e rfl h
def prI (ns : List Int) : Int := prodS (st0 ns)
theorem prI_cons (s : Int) (ns : List Int) : prI (s :: ns) = s * prI ns := rfl
theorem prI_app : ∀ a b : List Int, prI (a ++ b) = prI a * prI b
  | [], b => by rw [List.nil_append]; exact (Int.one_mul _).symm
  | s :: a, b => by rw [List.cons_append, prI_cons, prI_app a b, prI_cons, Int.mul_assoc]
theorem prI_pos {ns : List Int} (h : ∀ s ∈ ns, 1 ≤ s) : 1 ≤ prI ns := prodS_pos fun c hc => by
  obtain ⟨s, hs, rfl⟩ := List.mem_map.mp hc
  exact h s hs
theorem prI_le {pre : List Int} {s : Int} {post : List Int} (h : ∀ t ∈ pre ++ s :: post, 1 ≤ t) : prI pre * s ≤ prI (pre ++ s :: post) ∧ prI pre ≤ prI pre * s := by
  rw [prI_app, prI_cons, ← Int.mul_assoc]
  have h1 := prI_pos (ns := pre) fun t ht => h t (List.mem_append_left _ ht)
  have h2 := prI_pos (ns := post) fun t ht => h t (List.mem_append_right _ (List.mem_cons_of_mem _ ht))
  have h3 := h s (List.mem_append_right _ List.mem_cons_self)
  have h4 : 0 ≤ prI pre * s := Int.mul_nonneg (by omega) (by omega)
  have h5 := Int.mul_le_mul_of_nonneg_left h2 h4
  have h6 := Int.mul_le_mul_of_nonneg_left h3 (show 0 ≤ prI pre by omega)
  constructor <;> omega
theorem szI_le {ns : List Int} (h : ∀ s ∈ ns, 1 ≤ s) : szI ns ≤ prI ns := by
  have := rnd_le (cs := st0 ns) (f := 1) (by decide) fun c hc => by
    obtain ⟨s, hs, rfl⟩ := List.mem_map.mp hc
    exact h s hs
  rw [Int.one_mul] at this
  exact this
def mstep (size : Nat) (ms : List Nat) (s : Int) : List Nat := ms.flatMap fun m => (rgI s).map fun r => m ||| mkN size s.toNat r.toNat
def mkL (size : Nat) (ns : List Int) : List Nat := ns.foldl (mstep size) [0]
def rmN (ns : List Int) : Nat := (mkL (szI ns).toNat ns).countP fun m => decide (m = 2 ^ (szI ns).toNat - 1)
theorem fm_len {α β : Type} (f : α → List β) (c : Nat) : ∀ xs : List α, (∀ x ∈ xs, (f x).length = c) → (xs.flatMap f).length = xs.length * c
  | [], _ => by rw [List.flatMap_nil, List.length_nil, List.length_nil, Nat.zero_mul]
  | x :: xs, h => by
    rw [List.flatMap_cons, List.length_append, fm_len f c xs fun y hy => h y (List.mem_cons_of_mem _ hy), h x List.mem_cons_self, List.length_cons, Nat.succ_mul, Nat.add_comm]
theorem mstep_len (size : Nat) (ms : List Nat) (s : Int) : (mstep size ms s).length = ms.length * s.toNat := fm_len _ _ _ fun m _ => by rw [List.length_map, rgI_len]
theorem mkL_len (size : Nat) {pre : List Int} (h : ∀ s ∈ pre, 1 ≤ s) : ((mkL size pre).length : Int) = prI pre := by
  unfold mkL
  have gen : ∀ (pre : List Int) (ms : List Nat), (∀ s ∈ pre, 1 ≤ s) → ((pre.foldl (mstep size) ms).length : Int) = ms.length * prI pre := by
    intro pre
    induction pre with
    | nil => intro ms _; rw [List.foldl_nil]; exact (Int.mul_one _).symm
    | cons s pre ih =>
      intro ms h
      have h1 := h s List.mem_cons_self
      rw [List.foldl_cons, ih _ fun t ht => h t (List.mem_cons_of_mem _ ht), mstep_len, prI_cons, Int.natCast_mul, Int.toNat_of_nonneg (by omega), Int.mul_assoc]
  rw [gen pre [0] h]
  exact Int.one_mul _
abbrev nats (ms : List Nat) : List PyData := ms.map fun (m : Nat) => PyData.int (m : Int)
theorem nats_cnt (ms : List Nat) (b : Nat) : ((nats ms).countP fun y => PyData.eqv y (.int (b : Int))) = ms.countP fun m => decide (m = b) := by
  rw [List.countP_map]
  congr 1
  funext m
  show PyData.eqv (.int (m : Int)) (.int (b : Int)) = _
  rw [eqv_ii]
  exact decide_eq_decide.mpr (by omega)
def sp_rests_many : Spc := fun avs Kr Kx => match avs with
  | [.val d] => StK d (False) fun ns => (3000 < prI ns → False) ∧ (prI ns ≤ 3000 → Kr [] (.val (.int (rmN ns : Nat))))
  | _ => False
def w_rests_many_B1 : WS :=
  (wSet 1 (wBin oMul (wVar 1) (wVar 2)))
def w_rests_many_L1 : WS :=
  wFor (wISeq (wVar 0)) (gN 2) w_rests_many_B1
def w_rests_many_C1 : WE :=
  wLc [7] (wIRng1 (wVar 2)) (gN 7) wYes (wBin oOr (wVar 6) (wCall 2 sp_mark_of (wMCons (wTup (wFCons (wVar 2) (wFCons (wVar 7) wFNil))) (wMCons (wVar 3) wMNil))))
def w_rests_many_B2 : WS :=
  (wDrop (wExtend 5 w_rests_many_C1))
def w_rests_many_L2 : WS :=
  wFor (wISeq (wVar 4)) (gN 6) w_rests_many_B2
def w_rests_many_R1 : WS :=
  (wSet 4 (wVar 5))
def w_rests_many_B3 : WS :=
  (wSeq (wSet 5 (wLst wFNil))
    (wSeq w_rests_many_L2
    w_rests_many_R1))
def w_rests_many_L3 : WS :=
  wFor (wISeq (wVar 0)) (gN 2) w_rests_many_B3
def w_rests_many_R2 : WS :=
  (wRet (wRd (wVar 4) (wBin oSub (wBin oShl (wC (.int 1)) (wVar 3)) (wC (.int 1))) muCount))
def w_rests_many_R3 : WS :=
  (wSeq (wIfS (wTB (wBin oGt (wVar 1) (wC (.int 3000)))) wNever wNext)
    (wSeq (wSet 3 (wCall 1 sp_size_of (wMCons (wVar 0) wMNil)))
    (wSeq (wSet 4 (wLst (wFCons (wC (.int 0)) wFNil)))
    (wSeq w_rests_many_L3
    w_rests_many_R2))))
/-- rests_many: 0 steps, 1 product, 2 step, 3 size, 4 marks, 5 longer, 6 mark, 7 rest -/
def w_rests_many : WS :=
  (wSeq (wDrop (wCall 1 sp_check_steps (wMCons (wVar 0) wMNil)))
    (wSeq (wSet 1 (wC (.int 1)))
    (wSeq w_rests_many_L1
    w_rests_many_R3)))

theorem l_rests_many2 {ns : List Int} {ms : List Nat} {pr s size : Int} {x6 : Sl} {k : Ken} (s0 : 2 ≤ s) (s1 : s ≤ 1000) (z0 : 0 ≤ size) (z1 : size ≤ 10000) (hl : ms.length * s.toNat ≤ 100000)
    (hk : ∀ x6, k.nx [.val (.list (ns.map .int)), .val (.int pr), .val (.int s), .val (.int size), .val (.list (nats ms)), .own false (nats (mstep size.toNat ms s)), x6, .un]) :
    wEach (gN 6) w_rests_many_B2 (nats ms) [.val (.list (ns.map .int)), .val (.int pr), .val (.int s), .val (.int size), .val (.list (nats ms)), .own false [], x6, .un] k := by
  refine each_pre (fun (m : Nat) => PyData.int (m : Int)) ms (fun pre e => ∃ x6, e = [.val (.list (ns.map .int)), .val (.int pr), .val (.int s), .val (.int size), .val (.list (nats ms)), .own false (nats (mstep size.toNat pre s)), x6, .un]) ?_ ?_ _ ⟨_, rfl⟩
  · rintro e ⟨x6, rfl⟩
    exact hk _
  · rintro pre m post he e R9 ⟨x6, rfl⟩ ih
    have ml := mstep_len size.toNat pre s
    have pl : pre.length + 1 ≤ ms.length := by rw [he, List.length_append, List.length_cons]; omega
    have pl2 : (pre.length + 1) * s.toNat ≤ ms.length * s.toNat := Nat.mul_le_mul_right _ pl
    rw [Nat.succ_mul] at pl2
    dsimp? [w_rests_many_B2, w_rests_many_C1, wLc]
    refine ⟨by omega, by omega, ?_⟩
    rw [rgI_d]
    refine lc_map PyData.int (fun r => .int ((m ||| mkN size.toNat s.toNat r.toNat : Nat) : Int)) (rgI s) (fun r hr A hA => ?_) (small100000 (by rw [rgI_len]; omega)) ?_
    · obtain ⟨r0, r1⟩ := rgI_mem.mp hr
      dsimp? [sp_mark_of]
      refine ⟨by decide, by omega, by omega, r0, by omega, z0, z1, ?_⟩
      rw [bitOr_c]
      exact hA
    · dsimp? []
      refine ⟨?_, ?_⟩
      · rw [List.length_map, List.length_map, rgI_len]
        exact small100000 (by omega)
      have e1 : nats (mstep size.toNat pre s) ++ (rgI s).map (fun r => PyData.int ((m ||| mkN size.toNat s.toNat r.toNat : Nat) : Int)) = nats (mstep size.toNat (pre ++ [m]) s) := by
        unfold mstep nats
        rw [List.flatMap_append, List.map_append, List.flatMap_cons, List.flatMap_nil, List.append_nil, List.map_map]
        rfl
      rw [e1]
      exact ih _ ⟨_, rfl⟩
theorem vc_rests_many : ∀ avs Kr Kx, avs.length = 1 → sp_rests_many avs Kr Kx → lsFrom 0 avs = [] ∧ w_rests_many (startEv 8 avs) (kenD [] Kr Kx) := by
  intro avs Kr Kx hl h
  unfold sp_rests_many at h
  split at h
  · rename_i d
    obtain ⟨q1, q2⟩ := h
    refine ⟨rfl, ?_⟩
    unfold w_rests_many
    refine seq_cut fun R hR => ?_
    dsimp? [sp_check_steps]
    refine ⟨fun hb => ?_, q1⟩
    obtain ⟨ns, rfl, h1, h6, hs⟩ := stB_inv hb
    obtain ⟨g1, g2⟩ := q2 ns rfl h1 h6 hs
    have hL := stL_of h6 hs
    have hs1 : ∀ s ∈ ns, 1 ≤ s := fun s h => (hL.1 s h).1
    have pb : (prI ns).natAbs < 2 ^ 8000 := szI_b hL.1 hL.2
    refine hR _ ?_
    refine seq_cut fun R hR => ?_
    dsimp? []
    refine hR _ ?_
    refine seq_cut fun R hR => ?_
    dsimp? [w_rests_many_L1, wFor]
    refine each_pre PyData.int ns (fun pre e => ∃ x2, e = [.val (.list (ns.map .int)), .val (.int (prI pre)), x2, .un, .un, .un, .un, .un]) ?_ ?_ _ ⟨_, rfl⟩
    · rintro e ⟨x2, rfl⟩
      refine hR _ ?_
      unfold w_rests_many_R3
      refine seq_cut fun R hR => ?_
      dsimp? []
      split
      · rename_i h
        exact g1 h
      · rename_i h
        have g3 := g2 (by omega)
        have zl := szI_le hs1
        have z0 := szI_pos hs1
        refine hR _ ?_
        refine seq_cut fun R hR => ?_
        dsimp? [sp_size_of]
        refine ⟨ns, rfl, hL, hR _ ?_⟩
        refine seq_cut fun R hR => ?_
        dsimp? []
        refine ⟨by decide, hR _ ?_⟩
        refine seq_cut fun R hR => ?_
        dsimp? [w_rests_many_L3, wFor]
        refine each_pre PyData.int ns (fun pre e => ∃ x2 x4 x5 x6, e = [.val (.list (ns.map .int)), .val (.int (prI ns)), x2, .val (.int (szI ns)), x4, x5, x6, .un] ∧ (x4 = .own false (nats (mkL (szI ns).toNat pre)) ∨ x4 = .val (.list (nats (mkL (szI ns).toNat pre))))) ?_ ?_ _ ⟨_, _, _, _, rfl, .inl rfl⟩
        · rintro e ⟨x2, x4, x5, x6, rfl, h4⟩
          refine hR _ ?_
          have e1 : ((2 ^ (szI ns).toNat - 1 : Nat) : Int) = 1 * 2 ^ (szI ns).toNat - 1 := (one_shl _).symm
          have shp : SeqAt.shaped (.list (nats (mkL (szI ns).toNat ns))) = true := (ShN.lst (n := 0) fun d hd => by
            obtain ⟨m, _, rfl⟩ := List.mem_map.mp hd
            exact ShN.int _).sh (by decide)
          rcases h4 with rfl | rfl <;> dsimp? [w_rests_many_R2, muCount]
          · refine ⟨cshl_one (by omega) (by omega), shp, ?_⟩
            rw [one_shl, nats_cnt]
            exact g3
          · refine ⟨cshl_one (by omega) (by omega), shp, ?_⟩
            rw [one_shl, nats_cnt]
            exact g3
        · rintro pre s post he e R9 ⟨x2, x4, x5, x6, rfl, h4⟩ ih
          have hsm := hs s (by rw [he]; exact List.mem_append_right _ List.mem_cons_self)
          obtain ⟨l1, l2⟩ := prI_le (pre := pre) (s := s) (post := post) (by rw [← he]; exact hs1)
          rw [← he] at l1
          have ml := mkL_len (szI ns).toNat (pre := pre) fun t ht => hs1 t (by rw [he]; exact List.mem_append_left _ ht)
          have ml2 : ((mkL (szI ns).toNat pre).length * s.toNat : Nat) ≤ 100000 := by
            have : (((mkL (szI ns).toNat pre).length * s.toNat : Nat) : Int) = prI pre * s := by rw [Int.natCast_mul, ml, Int.toNat_of_nonneg (by omega)]
            omega
          unfold w_rests_many_B3
          have e3 : mstep (szI ns).toNat (mkL (szI ns).toNat pre) s = mkL (szI ns).toNat (pre ++ [s]) := by
            unfold mkL
            rw [List.foldl_append]
            rfl
          have fin : ∀ x6, R9 [.val (.list (ns.map .int)), .val (.int (prI ns)), .val (.int s), .val (.int (szI ns)), .val (.list (nats (mstep (szI ns).toNat (mkL (szI ns).toNat pre) s))), .val (.list (nats (mstep (szI ns).toNat (mkL (szI ns).toNat pre) s))), x6, .un] := fun x6 => by
            rw [e3]
            exact ih _ ⟨_, _, _, _, rfl, .inr rfl⟩
          rcases h4 with rfl | rfl
          · refine seq_cut fun R hR => ?_
            dsimp? []
            refine ⟨by decide, hR _ ?_⟩
            refine seq_cut fun R hR => ?_
            dsimp? [w_rests_many_L2, wFor]
            refine l_rests_many2 (size := szI ns) hsm.1 (by omega) (by omega) (by omega) ml2 fun x6 => hR _ ?_
            dsimp? [w_rests_many_R1]
            exact fin _
          · refine seq_cut fun R hR => ?_
            dsimp? []
            refine ⟨by decide, hR _ ?_⟩
            refine seq_cut fun R hR => ?_
            dsimp? [w_rests_many_L2, wFor]
            refine l_rests_many2 (size := szI ns) hsm.1 (by omega) (by omega) (by omega) ml2 fun x6 => hR _ ?_
            dsimp? [w_rests_many_R1]
            exact fin _
    · rintro pre s post he e R9 ⟨x2, rfl⟩ ih
      dsimp? [w_rests_many_B1]
      have hsm := hs s (by rw [he]; exact List.mem_append_right _ List.mem_cons_self)
      obtain ⟨l1, l2⟩ := prI_le (pre := pre) (s := s) (post := post) (by rw [← he]; exact hs1)
      rw [← he] at l1
      have p0 := prI_pos (ns := pre) fun t ht => hs1 t (by rw [he]; exact List.mem_append_left _ ht)
      refine ⟨mulx_ok (a := 8000) (b := 60) (nab_lt (by omega) (by omega) pb) (by omega) (by decide), ?_⟩
      have e2 : prI pre * s = prI (pre ++ [s]) := by rw [prI_app, prI_cons]; exact congrArg _ (Int.mul_one s).symm
      rw [e2]
      exact ih _ ⟨_, rfl⟩
  · exact h.elim
def sp_cases_good : Spc := fun avs Kr Kx => match avs with
  | [.val d, .val t] => StK d (False) fun ns => Kr [] (.val (.bool (cdB 9 ns (List.replicate ns.length none) t)))
  | _ => False
/-- cases_good: 0 steps, 1 thing -/
def w_cases_good : WS :=
  (wSeq (wDrop (wCall 1 sp_check_steps (wMCons (wVar 0) wMNil)))
    (wRet (wCall 3 (sp_shows_none 9) (wMCons (wVar 0) (wMCons (wRep (wLst (wFCons (wC .none) wFNil)) (wCallB oLen (wACons (wVar 0) wANil))) (wMCons (wVar 1) wMNil))))))

theorem vc_cases_good : ∀ avs Kr Kx, avs.length = 2 → sp_cases_good avs Kr Kx → lsFrom 0 avs = [] ∧ w_cases_good (startEv 2 avs) (kenD [] Kr Kx) := by
  intro avs Kr Kx hl h
  unfold sp_cases_good at h
  split at h
  · rename_i d t
    obtain ⟨q1, q2⟩ := h
    refine ⟨rfl, ?_⟩
    unfold w_cases_good
    refine seq_cut fun R hR => ?_
    dsimp? [sp_check_steps]
    refine ⟨fun hb => ?_, q1⟩
    obtain ⟨ns, rfl, h1, h6, hs⟩ := stB_inv hb
    have g := q2 ns rfl h1 h6 hs
    refine hR _ ?_
    have sz := sizeLine_eq
    dsimp? [List.length_map]
    rw [Int.toNat_natCast, rep_none]
    refine ⟨by decide, by omega, by omega, by omega, ?_⟩
    dsimp? [sp_shows_none, spA_shows_none]
    exact ⟨ns, List.replicate ns.length none, rfl, rfl, fun s h => by have := hs s h; omega, List.length_replicate.symm, by rw [List.length_replicate]; exact h6, by rw [nC_rep]; omega, g⟩
  · exact h.elim
theorem StK.bad {d : PyData} {X : Prop} {K : List Int → Prop} (hb : stB d = false) (x : X) : StK d X K := by
  refine ⟨fun _ => x, fun ns e h1 h6 hs => ?_⟩
  subst e
  rw [stB_ints h1 h6 hs] at hb
  cases hb
theorem StK.good {ns : List Int} {X : Prop} {K : List Int → Prop} (h1 : 1 ≤ ns.length) (h6 : ns.length ≤ 6) (hs : ∀ s ∈ ns, 2 ≤ s ∧ s ≤ 24) (k : K ns) : StK (.list (ns.map .int)) X K := by
  refine ⟨fun h => ?_, fun ms e _ _ _ => ?_⟩
  · rw [stB_ints h1 h6 hs] at h
    cases h
  · have e2 : ns = ms := ints_inj (PyData.list.inj e)
    rw [← e2]
    exact k
end Dl
end L2

/-! The plain half, 29: the law's own look at rests. -/
namespace L2
namespace Dl
open PySem PySem.Spec PyProof.Rows
local macro_rules | `(tactic| dsimp? [$xs,*] $[$l]?) => `(tactic| simp only [wSeq, wNext, wBreak, wCont, wDrop, wRet, wRetN, wIfS, wSet, wAsgT, e_aug, e_setIx, e_par, e_gN, getS_0, getS_s, setS_0, setS_s, e_var, varK_v, varK_o, varK_u, wC, wBin, rdK_v, rdK_t, rdK_s, rdS_v, rdS_o, rdS_u, fzK_v, fzK_t, fzK_s, fzS_v, fzS_o, fzS_l, fzS_u, e_fz, asg_v, asg_t, asg_s, e_tb, tbK_b, wAnd, wOr, wNot, e_notV, e_andV, e_orV, wBV, wIf, e_neg, intK_i, e_oso, wONo, e_rng1, e_rng2, wFNil, wFCons, wANil, wACons, wTup, wLst, e_callB, rdAllK_n, rdAllK_c, wIsi, e_call, wMNil, wMCons, e_ld, lnsOf, avsK_n, avsK_f, avsK_l, lnS_o, lnS_v, lnS_u, poK_n, poK_c, poS_o, inS_0, inS_s, rsK_v, rsK_o, wSl, e_ownF, e_own0, ownB_o, oS_o, oS_v, oS_u, agS_i, muApp, oAdd_i, oAdd_l, oAdd_t, oAdd_s, oSub_i, oMul_i, oFdiv_i, oMod_i, oPow_i, oShl_i, oShr_i, oOr_i, oAndB_i, oLt_i, oLe_i, oGt_i, oGe_i, oEq_i, oNe_i, oEq, oNe, oIx_l, oIx_t, oLen_l, oLen_t, oInt_i, oInt_b, oMax_i, oMin_i, oList_l, oList_t, oTuple_l, oTuple_t, oSorted_l, oSorted_t, oIs_n, oIsN_n, oIs_b, oIsN_b, isNone_n, isNone_t, isNone_l, isNone_i, isNone_s, isNone_b, oSl_l, oSl_t, oIn, gT_t, gC_c, gNil', e_iseq, sqK_l, sqK_t, e_isq, sq2K_l, sq2K_t, e_sset, ssK_l, ssK_t, e_chain, e_lr1, e_lr2, wRev, rvD_l, rvD_t, e_in1, e_in2, negB_f, negB_t, wIZip, zpK_l, zpK_t, zpK_m, e_extend, extR_t, wYes, startEv, kenD_nx, kenD_rt, kenD_bk, kenD_ct, kenD_ex, outK_n, outK_c, otS_o, rvK_v, rvK_t, rvK_s, rvS_v, rvS_o, slOf, lsFrom, wipeE, restE, List.map_cons, List.map_nil, List.length_cons, List.length_nil, List.replicate, List.append_nil, List.cons_append, List.nil_append, List.getElem?_cons_zero, List.getElem?_cons_succ, List.getElem?_nil, List.set_cons_zero, List.set_cons_succ, List.set_nil, Option.getD_some, Option.getD_none, Option.map_some, Option.map_none, Option.some.injEq, Rs.val.injEq, Rs.tmp.injEq, Rs.slot.injEq, Sl.own.injEq, Sl.val.injEq, PyData.int.injEq, PyData.bool.injEq, PyData.str.injEq, PyData.list.injEq, PyData.tuple.injEq, Prod.mk.injEq, Nat.sub_self, Nat.zero_add, Nat.reduceAdd, Nat.reduceSub, Nat.add_zero, isTy_int_int, isTy_bool_int, isTy_int_bool, isTy_bool_bool, isTy_int_tup, isTy_int_lst, isTy_int_non, isTy_int_str, isTy_tup_tup, isTy_tup_lst, isTy_tup_int, isTy_tup_bool, isTy_tup_non, isTy_tup_str, isTy_lst_lst, isTy_lst_tup, isTy_lst_int, exists_eq_left', exists_eq_left, exists_and_left, exists_eq_right, exists_eq, exists_eq', exists_const, true_and, and_true, and_self, Bool.not_true, Bool.not_false, if_true, if_false, Bool.false_eq_true, reduceIte, reduceCtorEq, List.nodup_nil, decide_eq_true_eq, atI_0, atI_1, atI_2, atI_3, atI_4, atI_5, atI_6, atI_7, atI_8, atI_9, atI_10, atI_11, ixN_3_0, ixN_3_1, ixN_3_2, sh_int, sh_bool, sh_non, and_assoc, nd1, nd_true, eq_self, decide_true, decide_false, Int.cast_ofNat_Int, not_true_eq_false, not_false_eq_true, eqv_ii, eqv_bb, wRaise0, e_raiseG, grK_i, e_raise1, onK_i, e_callX, xa_1, xa_2, xa_3, xa_4, xa_5, xa_6, xa_7, e_many, e_most, e_number, e_row, isLst_l, lsK_l, e_rd, e_br, brS_o, brS_v, arS_o, arS_v, avbK_n, avbK_f, avbK_l, scK_b, scK_i, scK_n, scK_s, e_callS, tmK_t, e_rep, enK_l, e_ienum, wTry, eqv_ss, tpK_v, txK_1, tutK_t, e_repT, e_callT, enTK_t, e_ienumT, r3K_i, e_rng3, e_newD, e_putD, e_lenD, e_listD, dcS_d, dcB_d, pvK_b, pvK_i, tkK_m, tkK_2, e_ssetI, oMinL_c, e_lset, e_lstZ, zlK_c, e_ins, $xs,*] $[$l]?)

def sp__law_product : Spc := fun avs Kr Kx => match avs with
  | [.val (.list xs)] => ∃ ns : List Int, xs = ns.map .int ∧ StL ns ∧ Kr [] (.val (.int (prI ns)))
  | _ => False
def w__law_product_B1 : WS :=
  (wSet 1 (wBin oMul (wVar 1) (wVar 2)))
def w__law_product_L1 : WS :=
  wFor (wISeq (wVar 0)) (gN 2) w__law_product_B1
def w__law_product_R1 : WS :=
  (wRet (wVar 1))
/-- _law_product: 0 steps, 1 found, 2 step -/
def w__law_product : WS :=
  (wSeq (wSet 1 (wC (.int 1)))
    (wSeq w__law_product_L1
    w__law_product_R1))

theorem vc__law_product : ∀ avs Kr Kx, avs.length = 1 → sp__law_product avs Kr Kx → lsFrom 0 avs = [] ∧ w__law_product (startEv 3 avs) (kenD [] Kr Kx) := by
  intro avs Kr Kx hl h
  unfold sp__law_product at h
  split at h
  · rename_i xs
    obtain ⟨ns, rfl, hL, q⟩ := h
    refine ⟨rfl, ?_⟩
    have hs1 : ∀ s ∈ ns, 1 ≤ s := fun s h => (hL.1 s h).1
    have pb : (prI ns).natAbs < 2 ^ 8000 := szI_b hL.1 hL.2
    unfold w__law_product
    refine seq_cut fun R hR => ?_
    dsimp? []
    refine hR _ ?_
    dsimp? [w__law_product_L1, wFor]
    refine each_pre PyData.int ns (fun pre e => ∃ x2, e = [.val (.list (ns.map .int)), .val (.int (prI pre)), x2]) ?_ ?_ _ ⟨_, rfl⟩
    · rintro e ⟨x2, rfl⟩
      dsimp? [w__law_product_R1]
      exact q
    · rintro pre s post he e R9 ⟨x2, rfl⟩ ih
      dsimp? [w__law_product_B1]
      have hsm := hL.1 s (by rw [he]; exact List.mem_append_right _ List.mem_cons_self)
      obtain ⟨l1, l2⟩ := prI_le (pre := pre) (s := s) (post := post) (by rw [← he]; exact hs1)
      rw [← he] at l1
      have p0 := prI_pos (ns := pre) fun t ht => hs1 t (by rw [he]; exact List.mem_append_left _ ht)
      refine ⟨mulx_ok (a := 8000) (b := 60) (nab_lt (by omega) (by omega) pb) (by omega) (by decide), ?_⟩
      have e2 : prI pre * s = prI (pre ++ [s]) := by rw [prI_app, prI_cons]; exact congrArg _ (Int.mul_one s).symm
      rw [e2]
      exact ih _ ⟨_, rfl⟩
  · exact h.elim

def Stp7 (s : Int) : Prop := 2 ≤ s ∧ s ≤ 24 ∧ s ∣ 720
theorem szI_720 {ns : List Int} (h : ∀ s ∈ ns, Stp7 s) : szI ns ≤ 720 :=
  Int.le_of_dvd (by decide) ((rnd_spec (st0 ns) 1 (by decide) fun c hc => by
    obtain ⟨s, hs, rfl⟩ := List.mem_map.mp hc
    have := (h s hs).1
    show 1 ≤ s
    omega).2.2.2 720 (Int.one_dvd _) fun c hc => by
    obtain ⟨s, hs, rfl⟩ := List.mem_map.mp hc
    exact (h s hs).2.2)
def sp__law_steps_of : Spc := fun avs Kr Kx => match avs with
  | [.own pn] => pen3 pn ∧ ∀ pn' (ns : List Int), pen3 pn' → 1 ≤ ns.length → ns.length ≤ 6 → (∀ s ∈ ns, Stp7 s) → Kr [pn'] (.own (ns.map .int))
  | _ => False
def w__law_steps_of_C1 : WE :=
  wLc [3] (wISeq (wCall 2 sp__law_split (wLd 0 (wMCons (wBin oAdd (wC (.int 1)) (wCall 2 sp__law_draw (wLd 0 (wMCons (wC (.int 4)) wMNil)))) wMNil)))) (gN 3) wYes (wBin oIx (wVar 3) (wC (.int 0)))
def w__law_steps_of_C2 : WE :=
  wLc [4] (wISeq (wVar 2)) (gN 4) (wTB (wBin oGt (wVar 4) (wC (.int 1)))) (wVar 4)
def w__law_steps_of_R1 : WS :=
  (wIfS (wTB (wBin oNe (wVar 2) (wLst wFNil))) (wRet (wVar 2)) wNext)
def w__law_steps_of_C3 : WE :=
  wLc [5] (wIRng1 (wBin oAdd (wC (.int 1)) (wCall 2 sp__law_draw (wLd 0 (wMCons (wC (.int 5)) wMNil))))) (gN 5) wYes (wBin oIx (wLst (wFCons (wC (.int 2)) (wFCons (wC (.int 3)) (wFCons (wC (.int 4)) (wFCons (wC (.int 6)) (wFCons (wC (.int 2)) (wFCons (wC (.int 3)) (wFCons (wC (.int 5)) (wFCons (wC (.int 8)) wFNil))))))))) (wCall 2 sp__law_draw (wLd 0 (wMCons (wC (.int 8)) wMNil))))
def w__law_steps_of_R2 : WS :=
  (wRet w__law_steps_of_C3)
/-- _law_steps_of: 0 pen, 1 way, 2 found, 3 clock, 4 step, 5 turn -/
def w__law_steps_of : WS :=
  (wSeq (wSet 1 (wCall 2 sp__law_draw (wLd 0 (wMCons (wC (.int 4)) wMNil))))
    (wSeq (wIfS (wTB (wBin oLt (wVar 1) (wC (.int 2)))) (wSeq (wSet 2 (wSl w__law_steps_of_C1 wONo (wOSo (wC (.int 6)))))
    (wSeq (wSet 2 w__law_steps_of_C2)
    (wSeq (wIfS (wAnd (wTB (wBin oEq (wVar 1) (wC (.int 1)))) (wTB (wBin oLt (wCallB oLen (wACons (wVar 2) wANil)) (wC (.int 6))))) (wDrop (wOwnF 2 (wBin oIx (wLst (wFCons (wC (.int 2)) (wFCons (wC (.int 3)) (wFCons (wC (.int 4)) (wFCons (wC (.int 6)) (wFCons (wC (.int 12)) wFNil)))))) (wCall 2 sp__law_draw (wLd 0 (wMCons (wC (.int 5)) wMNil)))) muApp)) wNext)
    w__law_steps_of_R1))) wNext)
    w__law_steps_of_R2))

theorem vc__law_steps_of : ∀ avs Kr Kx, avs.length = 1 → sp__law_steps_of avs Kr Kx → lsFrom 0 avs = [0] ∧ w__law_steps_of (startEv 6 avs) (kenD [0] Kr Kx) := by
  intro avs Kr Kx hl h
  unfold sp__law_steps_of at h
  split at h
  · rename_i pn
    obtain ⟨hp, q⟩ := h
    refine ⟨rfl, ?_⟩
    unfold w__law_steps_of
    refine seq_cut fun R hR => ?_
    dsimp? [sp__law_draw]
    refine ⟨hp, by decide, by decide, fun p1 way hp1 w0 w1 => hR _ ?_⟩
    refine seq_cut fun R hR => ?_
    have two : ∀ pn x2, pen3 pn → R [.own true pn, .val (.int way), x2, .un, .un, .un] := fun pn x2 hp => by
      refine hR _ ?_
      dsimp? [w__law_steps_of_R2, w__law_steps_of_C3, wLc, sp__law_draw]
      refine ⟨hp, by decide, by decide, fun p1 r hp1 r0 r1 => ⟨by omega, by omega, ?_⟩⟩
      refine lc_st (fun (i : Nat) => PyData.int (i : Int)) (fun d => ∃ s : Int, d = .int s ∧ Stp7 s) (fun e => ∃ pn, e = [.own true pn, .val (.int way), x2, .un, .un, .un] ∧ pen3 pn) _ [] _ ⟨_, rfl, hp1⟩ (fun _ z => (by cases z)) (by rw [List.length_nil, List.length_range]; omega) ?_ ?_
      · rintro acc e ⟨pn, rfl, hp⟩ hacc hl
        obtain ⟨ns, rfl, hns⟩ := ints_of hacc
        rw [List.length_nil, List.length_range, List.length_map] at hl
        dsimp? []
        exact q _ ns hp (by omega) (by omega) hns
      · rintro i hi e ⟨pn, rfl, hp⟩ A hA
        dsimp? [sp__law_draw]
        refine ⟨by decide, hp, by decide, by decide, fun p2 r2 hp2 r20 r21 => ?_⟩
        obtain ⟨x, hx, e⟩ := atI_in (xs := [PyData.int 2, .int 3, .int 4, .int 6, .int 2, .int 3, .int 5, .int 8]) r20 r21
        refine ⟨x, e, hA _ _ ?_ ⟨_, rfl, hp2⟩⟩
        simp only [List.mem_cons, List.not_mem_nil, or_false] at hx
        rcases hx with rfl | rfl | rfl | rfl | rfl | rfl | rfl | rfl <;> exact ⟨_, rfl, by decide, by decide, by decide⟩
    have fin : ∀ (pn : List PyData) (gs : List Int), pen3 pn → gs.length ≤ 6 → (∀ s ∈ gs, Stp7 s) → w__law_steps_of_R1 [.own true pn, .val (.int way), .own false (gs.map .int), .un, .un, .un] { nx := R, rt := (kenD [0] Kr Kx).rt, bk := (kenD [0] Kr Kx).bk, ct := (kenD [0] Kr Kx).ct, ex := (kenD [0] Kr Kx).ex } := fun pn gs hp h6 hg => by
      dsimp? [w__law_steps_of_R1]
      refine ⟨by decide, sh_lin _, sh_lin [], ?_⟩
      rw [eqv_lnil]
      cases gs with
      | nil => exact two _ _ hp
      | cons a l => exact q _ _ hp (Nat.succ_pos _) h6 hg
    dsimp? []
    split
    · dsimp? [w__law_steps_of_C1, wLc, sp__law_draw, sp__law_split]
      refine ⟨hp1, by decide, by decide, fun p2 r hp2 r0 r1 => ⟨hp2, by omega, by omega, fun p3 cs hp3 hc c1 c12 _ => ?_⟩⟩
      refine lc_map ck (fun c => .int c.1) cs (fun c hcm A hA => ?_) (small100000 (by omega)) ?_
      · dsimp? [ck]
        exact hA
      have e1 : (cs.map fun c => PyData.int c.1) = (cs.map (·.1)).map .int := by rw [List.map_map]; rfl
      rw [e1, take_ints, show (6 : Int) = ((6 : Nat) : Int) from rfl, cut_toN]
      have hms : ∀ m ∈ (cs.map (·.1)).take 6, 1 ≤ m ∧ m ≤ 24 ∧ m ∣ 720 := fun m hm => by
        obtain ⟨c, hcm, rfl⟩ := List.mem_map.mp (List.mem_of_mem_take hm)
        obtain ⟨⟨g1, g2, _, _⟩, g3⟩ := hc c hcm
        exact ⟨g1, g2, g3⟩
      have hml : ((cs.map (·.1)).take 6).length ≤ 6 := by rw [List.length_take]; omega
      generalize (cs.map (·.1)).take 6 = ms at *
      dsimp? [w__law_steps_of_C2, wLc]
      refine lc_fl PyData.int (fun m => decide (1 < m)) ms (by omega) (fun m hm A N hA => ?_) ?_
      · dsimp? []
        by_cases z : 1 < m
        · rw [decide_eq_true z] at hA
          rw [if_pos z]
          exact hA
        · rw [decide_eq_false z] at hA
          rw [if_neg z]
          exact hA
      have hfs : ∀ s ∈ ms.filter (fun m => decide (1 < m)), Stp7 s := fun s hs => by
        obtain ⟨g1, g2⟩ := List.mem_filter.mp hs
        have g3 := hms s g1
        have g4 := of_decide_eq_true g2
        exact ⟨by omega, g3.2⟩
      have hfl := List.length_filter_le (fun m => decide (1 < m)) ms
      generalize ms.filter (fun m => decide (1 < m)) = gs at *
      dsimp? [List.length_map]
      split
      · split
        · dsimp? [sp__law_draw]
          refine ⟨by decide, hp3, by decide, by decide, fun p4 r2 hp4 r20 r21 => ?_⟩
          obtain ⟨x, hx, e⟩ := atI_in (xs := [PyData.int 2, .int 3, .int 4, .int 6, .int 12]) r20 r21
          have sz := sizeLine_eq
          have hx2 : ∃ s : Int, x = .int s ∧ Stp7 s := by
            simp only [List.mem_cons, List.not_mem_nil, or_false] at hx
            rcases hx with rfl | rfl | rfl | rfl | rfl <;> exact ⟨_, rfl, by decide, by decide, by decide⟩
          obtain ⟨s, rfl, hs⟩ := hx2
          refine ⟨_, e, by omega, ?_⟩
          rw [show gs.map PyData.int ++ [.int s] = (gs ++ [s]).map .int by rw [List.map_append]; rfl]
          refine fin _ _ hp4 (by rw [List.length_append, List.length_singleton]; omega) fun t ht => ?_
          rcases List.mem_append.mp ht with z | z
          · exact hfs t z
          · simp only [List.mem_singleton] at z
            subst z
            exact hs
        · exact fin _ _ hp3 (by omega) hfs
      · exact fin _ _ hp3 (by omega) hfs
    · exact two _ _ hp1
  · exact h.elim
theorem rnd_c (f : Int) (c : Int × Int) (cs : List (Int × Int)) : rnd f (c :: cs) = rnd (f * c.1 / (Int.gcd f c.1 : Nat)) cs := rfl
end Dl
end L2

/-! The plain half, 30: clocks split; split papers. -/
namespace L2
namespace Dl
open PySem PySem.Spec PyProof.Rows
/-- no deeper than n, no wider than 8 -/
def SpN : Nat → PyData → Prop
  | 0, _ => False
  | n + 1, d => ∀ k ps, d = .tuple [k, .tuple ps] → ps.length ≤ 8 ∧ ∀ p ∈ ps, SpN n p
def pgB : Nat → PyData → Bool
  | 0, _ => false
  | _ + 1, .none => true
  | n + 1, .tuple [.int k, .tuple ps] => decide (2 ≤ k) && (decide ((ps.length : Int) = k) && ps.all (pgB n))
  | _ + 1, _ => false
theorem pgB_at (n : Nat) (k : Int) (ps : List PyData) : pgB (n + 1) (.tuple [.int k, .tuple ps]) = (decide (2 ≤ k) && (decide ((ps.length : Int) = k) && ps.all (pgB n))) := rfl
theorem SpN.up : ∀ {n : Nat} {d : PyData}, SpN n d → SpN (n + 1) d
  | 0, _, h => h.elim
  | n + 1, d, h => fun k ps e => ⟨(h k ps e).1, fun p hp => ((h k ps e).2 p hp).up⟩
theorem SpN.mono {m n : Nat} {d : PyData} (h : SpN m d) (hm : m ≤ n) : SpN n d := by
  induction n with
  | zero =>
    have : m = 0 := by omega
    subst this
    exact h
  | succ n ih =>
    by_cases e : m = n + 1
    · subst e
      exact h
    · exact (ih (by omega)).up
def PpN : Nat → PyData → Prop
  | 0, d => d = .none
  | n + 1, d => d = .none ∨ ∃ ps : List PyData, d = .tuple [.int (ps.length : Int), .tuple ps] ∧ 2 ≤ ps.length ∧ ps.length ≤ 7 ∧ ∀ p ∈ ps, PpN n p
theorem PpN.sp : ∀ {n : Nat} {d : PyData}, PpN n d → SpN (n + 1) d
  | 0, d, h => fun k ps e => by
    have h : d = .none := h
    subst h
    cases e
  | n + 1, d, h => fun k ps e => by
    rcases h with rfl | ⟨qs, rfl, h2, h7, hq⟩
    · cases e
    · cases e
      exact ⟨by omega, fun p hp => (hq p hp).sp⟩
theorem PpN.pg : ∀ {n : Nat} {d : PyData}, PpN n d → pgB (n + 1) d = true
  | 0, d, h => by
    have h : d = .none := h
    subst h
    rfl
  | n + 1, d, h => by
    rcases h with rfl | ⟨qs, rfl, h2, h7, hq⟩
    · rfl
    · rw [pgB_at, decide_eq_true (show (2 : Int) ≤ (qs.length : Int) by omega), decide_eq_true rfl, Bool.true_and, Bool.true_and, List.all_eq_true]
      exact fun p hp => (hq p hp).pg
end Dl
end L2

/-! The plain half, 31: split papers by least primes. -/
namespace L2
namespace Dl
open PySem PySem.Spec PyProof.Rows
end Dl
end L2

/-! The plain half, 33: cover papers looked at by anybody. -/
namespace L2
namespace Dl
open PySem PySem.Spec PyProof.Rows
end Dl
end L2

/-! The plain half, 34: cover papers found. -/
namespace L2
namespace Dl
open PySem PySem.Spec PyProof.Rows

def Cov (cs : List (Int × Int)) : Prop := ∀ x : Int, ∃ d ∈ cs, Rg d x
theorem cov_ms {cs : List (Int × Int)} (hc : GC cs) (h : msF cs = []) : Cov cs := fun x => by
  have rp := hc.rp
  have m0 := Int.emod_nonneg x (show rnd 1 cs ≠ 0 by omega)
  have m1 := Int.emod_lt_of_pos x rp
  have hn : rgF cs (x % rnd 1 cs) ≠ [] := fun e => by
    have : x % rnd 1 cs ∈ msF cs := List.mem_filter.mpr ⟨rgI_mem.mpr ⟨m0, m1⟩, decide_eq_true e⟩
    rw [h] at this
    cases this
  obtain ⟨d, hd⟩ := List.exists_mem_of_ne_nil _ hn
  obtain ⟨hd1, hd2⟩ := List.mem_filter.mp hd
  have ok := hc.ok d hd1
  have := (Rg_mod ok.2.2.1 ok.2.2.2).mpr (of_decide_eq_true hd2)
  refine ⟨d, hd1, (Rg.mod ?_).mp this⟩
  exact (rnd_spec cs 1 (by decide) hc.one).2.2.1 d hd1
end Dl
end L2

/-! The plain half, 35: misses, tallies, exactness, splits. -/
namespace L2
namespace Dl
open PySem PySem.Spec PyProof.Rows
local macro_rules | `(tactic| dsimp? [$xs,*] $[$l]?) => `(tactic| simp only [wSeq, wNext, wBreak, wCont, wDrop, wRet, wRetN, wIfS, wSet, wAsgT, e_aug, e_setIx, e_par, e_gN, getS_0, getS_s, setS_0, setS_s, e_var, varK_v, varK_o, varK_u, wC, wBin, rdK_v, rdK_t, rdK_s, rdS_v, rdS_o, rdS_u, fzK_v, fzK_t, fzK_s, fzS_v, fzS_o, fzS_l, fzS_u, e_fz, asg_v, asg_t, asg_s, e_tb, tbK_b, wAnd, wOr, wNot, e_notV, e_andV, e_orV, wBV, wIf, e_neg, intK_i, e_oso, wONo, e_rng1, e_rng2, wFNil, wFCons, wANil, wACons, wTup, wLst, e_callB, rdAllK_n, rdAllK_c, wIsi, e_call, wMNil, wMCons, e_ld, lnsOf, avsK_n, avsK_f, avsK_l, lnS_o, lnS_v, lnS_u, poK_n, poK_c, poS_o, inS_0, inS_s, rsK_v, rsK_o, wSl, e_ownF, e_own0, ownB_o, oS_o, oS_v, oS_u, agS_i, muApp, oAdd_i, oAdd_l, oAdd_t, oAdd_s, oSub_i, oMul_i, oFdiv_i, oMod_i, oPow_i, oShl_i, oShr_i, oOr_i, oAndB_i, oLt_i, oLe_i, oGt_i, oGe_i, oEq_i, oNe_i, oEq, oNe, oIx_l, oIx_t, oLen_l, oLen_t, oInt_i, oInt_b, oMax_i, oMin_i, oList_l, oList_t, oTuple_l, oTuple_t, oSorted_l, oSorted_t, oIs_n, oIsN_n, oIs_b, oIsN_b, isNone_n, isNone_t, isNone_l, isNone_i, isNone_s, isNone_b, oSl_l, oSl_t, oIn, gT_t, gC_c, gNil', e_iseq, sqK_l, sqK_t, e_isq, sq2K_l, sq2K_t, e_sset, ssK_l, ssK_t, e_chain, e_lr1, e_lr2, wRev, rvD_l, rvD_t, e_in1, e_in2, negB_f, negB_t, wIZip, zpK_l, zpK_t, zpK_m, e_extend, extR_t, wYes, startEv, kenD_nx, kenD_rt, kenD_bk, kenD_ct, kenD_ex, outK_n, outK_c, otS_o, rvK_v, rvK_t, rvK_s, rvS_v, rvS_o, slOf, lsFrom, wipeE, restE, List.map_cons, List.map_nil, List.length_cons, List.length_nil, List.replicate, List.append_nil, List.cons_append, List.nil_append, List.getElem?_cons_zero, List.getElem?_cons_succ, List.getElem?_nil, List.set_cons_zero, List.set_cons_succ, List.set_nil, Option.getD_some, Option.getD_none, Option.map_some, Option.map_none, Option.some.injEq, Rs.val.injEq, Rs.tmp.injEq, Rs.slot.injEq, Sl.own.injEq, Sl.val.injEq, PyData.int.injEq, PyData.bool.injEq, PyData.str.injEq, PyData.list.injEq, PyData.tuple.injEq, Prod.mk.injEq, Nat.sub_self, Nat.zero_add, Nat.reduceAdd, Nat.reduceSub, Nat.add_zero, isTy_int_int, isTy_bool_int, isTy_int_bool, isTy_bool_bool, isTy_int_tup, isTy_int_lst, isTy_int_non, isTy_int_str, isTy_tup_tup, isTy_tup_lst, isTy_tup_int, isTy_tup_bool, isTy_tup_non, isTy_tup_str, isTy_lst_lst, isTy_lst_tup, isTy_lst_int, exists_eq_left', exists_eq_left, exists_and_left, exists_eq_right, exists_eq, exists_eq', exists_const, true_and, and_true, and_self, Bool.not_true, Bool.not_false, if_true, if_false, Bool.false_eq_true, reduceIte, reduceCtorEq, List.nodup_nil, decide_eq_true_eq, atI_0, atI_1, atI_2, atI_3, atI_4, atI_5, atI_6, atI_7, atI_8, atI_9, atI_10, atI_11, ixN_3_0, ixN_3_1, ixN_3_2, sh_int, sh_bool, sh_non, and_assoc, nd1, nd_true, eq_self, decide_true, decide_false, Int.cast_ofNat_Int, not_true_eq_false, not_false_eq_true, eqv_ii, eqv_bb, wRaise0, e_raiseG, grK_i, e_raise1, onK_i, e_callX, xa_1, xa_2, xa_3, xa_4, xa_5, xa_6, xa_7, e_many, e_most, e_number, e_row, isLst_l, lsK_l, e_rd, e_br, brS_o, brS_v, arS_o, arS_v, avbK_n, avbK_f, avbK_l, scK_b, scK_i, scK_n, scK_s, e_callS, tmK_t, e_rep, enK_l, e_ienum, wTry, eqv_ss, tpK_v, txK_1, tutK_t, e_repT, e_callT, enTK_t, e_ienumT, r3K_i, e_rng3, e_newD, e_putD, e_lenD, e_listD, dcS_d, dcB_d, pvK_b, pvK_i, tkK_m, tkK_2, e_ssetI, oMinL_c, e_lset, e_lstZ, zlK_c, e_ins, $xs,*] $[$l]?)
theorem GC.put {cs : List (Int × Int)} {c : Int × Int} (h : GC cs) (hl : cs.length ≤ 90) (hc : CkOk 1000 c) : GC (cs ++ [c]) := ⟨fun d hd => by
  rcases List.mem_append.mp hd with z | z
  · exact h.ok d z
  · simp only [List.mem_singleton] at z
    rw [z]
    exact hc, by rw [List.length_append, List.length_singleton]; omega⟩
def ExC (cs : List (Int × Int)) : Prop := sumS (rnd 1 cs) cs = rnd 1 cs ∧ ∀ (i j : Nat) ci cj x, i < j → cs[i]? = some ci → cs[j]? = some cj → ¬ Meets ci cj x
/-- exact -/
noncomputable def exB (cs : List (Int × Int)) : Bool := open Classical in decide (ExC cs)
theorem exB_iff {cs : List (Int × Int)} : exB cs = true ↔ ExC cs := by
  unfold exB
  exact @decide_eq_true_iff _ (Classical.propDecidable _)
theorem share_one {cs : List (Int × Int)} (hp : 0 < rnd 1 cs) : (sumS (rnd 1 cs) cs / topG cs = 1 ∧ rnd 1 cs / topG cs = 1) ↔ sumS (rnd 1 cs) cs = rnd 1 cs := by
  unfold topG
  generalize sumS (rnd 1 cs) cs = s
  generalize rnd 1 cs = m at *
  obtain ⟨a, ha⟩ := Int.gcd_dvd_left m s
  obtain ⟨b, hb⟩ := Int.gcd_dvd_right m s
  have g0 : (0 : Int) < (Int.gcd m s : Nat) := by
    have := Int.gcd_pos_of_ne_zero_left s (show m ≠ 0 by omega)
    omega
  constructor
  · rintro ⟨h1, h2⟩
    generalize ((Int.gcd m s : Nat) : Int) = g at *
    rw [hb, Int.mul_ediv_cancel_left _ (by omega)] at h1
    rw [ha, Int.mul_ediv_cancel_left _ (by omega)] at h2
    rw [ha, hb, h1, h2]
  · intro e
    subst e
    rw [Int.gcd_self]
    have : ((s.natAbs : Nat) : Int) = s := by omega
    rw [this, Int.ediv_self (by omega)]
    exact ⟨rfl, rfl⟩
theorem shn_pr (a b : Int) : ShN 1 (.tuple [.int a, .int b]) := ShN.ck (a, b)
theorem sh_pr (a b : Int) : SeqAt.shaped (.tuple [.int a, .int b]) = true := (shn_pr a b).sh (by decide)
theorem eqv_pr (a b : Int) : PyData.eqv (.tuple [.int a, .int b]) (.tuple [.int a, .int b]) = true := by
  have := eqv_ck (a, b) (a, b)
  rw [decide_eq_true rfl] at this
  exact this
theorem pr_eqv {a b c d : Int} (h : PyData.eqv (.tuple [.int a, .int b]) (.tuple [.int c, .int d]) = true) : a = c ∧ b = d := by
  have e : PyData.eqv (ck (a, b)) (ck (c, d)) = true := h
  rw [eqv_ck, decide_eq_true_iff] at e
  cases e
  exact ⟨rfl, rfl⟩
def sp_exact_good : Spc := fun avs Kr Kx => match avs with
  | [.val (.tuple ds)] => ∃ cs, ds = cks cs ∧ GC cs ∧ Kr [] (.val (.bool (exB cs)))
  | _ => False
/-- exact_good: 0 clocks -/
def w_exact_good : WS :=
  (wRet ((wAndV (wBin oEq (wCall 1 sp_shares_of (wMCons (wVar 0) wMNil)) (wTup (wFCons (wC (.int 1)) (wFCons (wC (.int 1)) wFNil)))) (wBin oIs (wCall 1 sp_clash_of (wMCons (wVar 0) wMNil)) (wC .none)))))

theorem vc_exact_good : ∀ avs Kr Kx, avs.length = 1 → sp_exact_good avs Kr Kx → lsFrom 0 avs = [] ∧ w_exact_good (startEv 1 avs) (kenD [] Kr Kx) := by
  intro avs Kr Kx hl h
  unfold sp_exact_good at h
  split at h
  · rename_i ds
    obtain ⟨cs, rfl, hc, q⟩ := h
    refine ⟨rfl, ?_⟩
    dsimp? [w_exact_good, sp_shares_of]
    refine hc.rok ?_
    have hl := hc.len
    refine ⟨by omega, by decide, sh_pr _ _, sh_pr _ _, ?_⟩
    by_cases hs : sumS (rnd 1 cs) cs = rnd 1 cs
    · have h1 := (share_one hc.rp).mpr hs
      rw [if_pos (by rw [h1.1, h1.2]; exact eqv_pr 1 1)]
      dsimp? [sp_clash_of]
      refine ⟨cs, rfl, fun c h => (hc.ok c h).b (by decide), by omega, fun hno => ?_, fun i j ci cj x h1 h2 h3 h4 _ _ _ => ?_⟩
      · rw [exB_iff.mpr ⟨hs, hno⟩] at q
        exact q
      · have e : exB cs = false := eq_false_of_ne_true fun h => (exB_iff.mp h).2 i j ci cj x h1 h2 h3 h4
        rw [e] at q
        exact q
    · have e : exB cs = false := eq_false_of_ne_true fun h => hs (exB_iff.mp h).1
      rw [e] at q
      rw [if_neg (fun h => hs ((share_one hc.rp).mp (pr_eqv h)))]
      exact q
  · exact h.elim
end Dl
end L2

/-! The plain half, 36: exact clocks cover; sums over a round. -/
namespace L2
namespace Dl
open PySem PySem.Spec PyProof.Rows
def sumN (f : Nat → Int) : Nat → Int
  | 0 => 0
  | n + 1 => sumN f n + f n
theorem sumN_add (f : Nat → Int) (a : Nat) : ∀ b, sumN f (a + b) = sumN f a + sumN (fun n => f (a + n)) b
  | 0 => by show sumN f a = sumN f a + 0; omega
  | b + 1 => by
    show sumN f (a + b) + f (a + b) = sumN f a + (sumN (fun n => f (a + n)) b + f (a + b))
    rw [sumN_add f a b]
    omega
theorem sumN_congr {f g : Nat → Int} : ∀ {n : Nat}, (∀ i < n, f i = g i) → sumN f n = sumN g n
  | 0, _ => rfl
  | n + 1, h => by
    show sumN f n + f n = sumN g n + g n
    rw [sumN_congr fun i hi => h i (by omega), h n (by omega)]
theorem sumN_plus (f g : Nat → Int) : ∀ n, sumN (fun i => f i + g i) n = sumN f n + sumN g n
  | 0 => rfl
  | n + 1 => by
    show sumN (fun i => f i + g i) n + (f n + g n) = sumN f n + f n + (sumN g n + g n)
    rw [sumN_plus f g n]
    omega
theorem sumN_zero : ∀ n, sumN (fun _ => 0) n = 0
  | 0 => rfl
  | n + 1 => by
    show sumN (fun _ => 0) n + 0 = 0
    rw [sumN_zero n]
    rfl
/-- each at most 1 -/
theorem sumN_le {f : Nat → Int} : ∀ {n : Nat}, (∀ i < n, f i ≤ 1) → sumN f n ≤ n
  | 0, _ => Int.le_refl _
  | n + 1, h => by
    have a := sumN_le (f := f) (n := n) fun i hi => h i (by omega)
    have b := h n (by omega)
    show sumN f n + f n ≤ ((n + 1 : Nat) : Int)
    omega
theorem sumN_lt {f : Nat → Int} : ∀ {n : Nat}, (∀ i < n, f i ≤ 1) → ∀ j < n, f j ≤ 0 → sumN f n < n
  | 0, _, j, hj, _ => by omega
  | n + 1, h, j, hj, h0 => by
    show sumN f n + f n < ((n + 1 : Nat) : Int)
    have b := h n (by omega)
    by_cases e : j = n
    · subst e
      have a := sumN_le (f := f) (n := j) fun i hi => h i (by omega)
      omega
    · have a := sumN_lt (f := f) (n := n) (fun i hi => h i (by omega)) j (by omega) h0
      omega
/-- it rings there -/
def indC (c : Int × Int) (n : Nat) : Int := if (n : Int) % c.1 = c.2 then 1 else 0
theorem ind_blk {s r : Nat} (hr : r < s) : ∀ m ≤ s, sumN (indC ((s : Int), (r : Int))) m = if r < m then 1 else 0
  | 0, _ => by rw [if_neg (by omega)]; rfl
  | m + 1, h => by
    show sumN (indC ((s : Int), (r : Int))) m + indC ((s : Int), (r : Int)) m = _
    rw [ind_blk hr m (by omega)]
    unfold indC
    simp only
    rw [Int.emod_eq_of_lt (by omega) (by omega)]
    by_cases e : m = r
    · subst e
      rw [if_pos rfl, if_neg (by omega), if_pos (by omega)]
      rfl
    · rw [if_neg (show ¬ (m : Int) = (r : Int) by omega)]
      by_cases l : r < m
      · rw [if_pos l, if_pos (by omega)]; rfl
      · rw [if_neg l, if_neg (by omega)]; rfl
theorem ind_all {s r : Nat} (hr : r < s) : ∀ q : Nat, sumN (indC ((s : Int), (r : Int))) (s * q) = q
  | 0 => rfl
  | q + 1 => by
    rw [Nat.mul_succ, sumN_add, ind_all hr q]
    have e : sumN (fun n => indC ((s : Int), (r : Int)) (s * q + n)) s = sumN (indC ((s : Int), (r : Int))) s := sumN_congr fun i hi => by
      unfold indC
      simp only
      rw [Int.natCast_add, Int.natCast_mul, Int.mul_add_emod_self_left]
    rw [e, ind_blk hr s (Nat.le_refl _), if_pos hr]
    omega
theorem ind_cnt {c : Int × Int} {M : Int} (hc : CkOk 1000 c) (hd : c.1 ∣ M) (hM : 0 ≤ M) : sumN (indC c) M.toNat = M / c.1 := by
  obtain ⟨s, r⟩ := c
  obtain ⟨h1, h2, h3, h4⟩ := hc
  simp only at *
  obtain ⟨q, rfl⟩ := hd
  obtain ⟨s, rfl⟩ := Int.eq_ofNat_of_zero_le (show 0 ≤ s by omega)
  obtain ⟨r, rfl⟩ := Int.eq_ofNat_of_zero_le h3
  have q0 : 0 ≤ q := by
    by_cases z : 0 ≤ q
    · exact z
    · have := Int.mul_le_mul_of_nonneg_left (show q ≤ -1 by omega) (show (0 : Int) ≤ (s : Int) by omega)
      omega
  obtain ⟨q, rfl⟩ := Int.eq_ofNat_of_zero_le q0
  rw [Int.mul_ediv_cancel_left _ (by omega), show ((s : Int) * (q : Int)).toNat = s * q by rw [← Int.natCast_mul]; rfl]
  exact ind_all (by omega) q
/-- how many ring, all numbers of a round together -/
theorem rg_sum {M : Int} (hM : 0 ≤ M) : ∀ {cs : List (Int × Int)}, (∀ c ∈ cs, CkOk 1000 c ∧ c.1 ∣ M) → sumN (fun n => ((rgF cs (n : Int)).length : Int)) M.toNat = (cs.map fun c => M / c.1).sum
  | [], _ => by
    show sumN (fun _ => 0) _ = 0
    exact sumN_zero _
  | c :: cs, h => by
    rw [List.map_cons, List.sum_cons, ← rg_sum hM fun d hd => h d (List.mem_cons_of_mem _ hd), ← ind_cnt (h c List.mem_cons_self).1 (h c List.mem_cons_self).2 hM, ← sumN_plus]
    refine sumN_congr fun i _ => ?_
    unfold rgF indC
    rw [List.filter_cons]
    by_cases e : (i : Int) % c.1 = c.2
    · rw [if_pos e, if_pos (decide_eq_true e), List.length_cons]
      omega
    · rw [if_neg e, if_neg (by rw [decide_eq_false e]; decide)]
      omega
theorem two_at {α : Type} (p : α → Bool) : ∀ {xs : List α}, 2 ≤ (xs.filter p).length → ∃ (i j : Nat) (a b : α), i < j ∧ xs[i]? = some a ∧ xs[j]? = some b ∧ p a = true ∧ p b = true
  | [], h => by cases h
  | x :: xs, h => by
    cases hx : p x with
    | true =>
      rw [List.filter_cons, if_pos hx, List.length_cons] at h
      have hne : xs.filter p ≠ [] := fun e => by
        rw [e] at h
        simp at h
      obtain ⟨y, hy⟩ := List.exists_mem_of_ne_nil _ hne
      obtain ⟨h1, h2⟩ := List.mem_filter.mp hy
      obtain ⟨j, hj, rfl⟩ := List.mem_iff_getElem.mp h1
      exact ⟨0, j + 1, x, xs[j], by omega, rfl, by rw [List.getElem?_cons_succ, List.getElem?_eq_getElem hj], hx, h2⟩
    | false =>
      rw [List.filter_cons, if_neg (by rw [hx]; decide)] at h
      obtain ⟨i, j, a, b, h1, h2, h3, h4, h5⟩ := two_at p h
      exact ⟨i + 1, j + 1, a, b, by omega, by rw [List.getElem?_cons_succ]; exact h2, by rw [List.getElem?_cons_succ]; exact h3, h4, h5⟩
theorem ex_le {cs : List (Int × Int)} (hc : GC cs) (h : ∀ (i j : Nat) ci cj x, i < j → cs[i]? = some ci → cs[j]? = some cj → ¬ Meets ci cj x) (n : Int) : (rgF cs n).length ≤ 1 := by
  by_cases z : (rgF cs n).length ≤ 1
  · exact z
  · obtain ⟨i, j, a, b, h1, h2, h3, h4, h5⟩ := two_at (fun c : Int × Int => decide (n % c.1 = c.2)) (xs := cs) (show 2 ≤ (rgF cs n).length by omega)
    have oa := hc.ok a (List.mem_of_getElem? h2)
    have ob := hc.ok b (List.mem_of_getElem? h3)
    exact (h i j a b n h1 h2 h3 ⟨(Rg_mod oa.2.2.1 oa.2.2.2).mpr (of_decide_eq_true h4), (Rg_mod ob.2.2.1 ob.2.2.2).mpr (of_decide_eq_true h5)⟩).elim
/-- exact clocks cover -/
theorem ex_cov {cs : List (Int × Int)} (hc : GC cs) (h : ExC cs) : msF cs = [] := by
  have rp := hc.rp
  have hs := rg_sum (M := rnd 1 cs) (by omega) (cs := cs) fun c hcm => ⟨hc.ok c hcm, (rnd_spec cs 1 (by decide) hc.one).2.2.1 c hcm⟩
  have h1 : (cs.map fun c => rnd 1 cs / c.1).sum = rnd 1 cs := h.1
  rw [h1] at hs
  unfold msF
  rw [List.filter_eq_nil_iff]
  intro n hn hz
  obtain ⟨n0, n1⟩ := rgI_mem.mp hn
  have hz := of_decide_eq_true hz
  have := sumN_lt (f := fun n => ((rgF cs (n : Int)).length : Int)) (n := (rnd 1 cs).toNat) (fun i _ => by have := ex_le hc h.2 (i : Int); omega) n.toNat (by omega) (by
    rw [show ((n.toNat : Nat) : Int) = n by omega, hz]
    exact Int.le_refl _)
  rw [hs] at this
  omega
theorem ms_cov {cs : List (Int × Int)} (hc : ∀ c ∈ cs, CkOk 1000 c) (h : Cov cs) : msF cs = [] := by
  unfold msF
  rw [List.filter_eq_nil_iff]
  intro n hn hz
  have hz := of_decide_eq_true hz
  obtain ⟨d, hd, hr⟩ := h n
  have ok := hc d hd
  have : d ∈ rgF cs n := List.mem_filter.mpr ⟨hd, decide_eq_true ((Rg_mod ok.2.2.1 ok.2.2.2).mp hr)⟩
  rw [hz] at this
  cases this
theorem ms_iff {cs : List (Int × Int)} (hc : GC cs) : msF cs = [] ↔ Cov cs := ⟨cov_ms hc, ms_cov hc.ok⟩
end Dl
end L2

/-! The plain half, 37: tuples of places, sorted. -/
namespace L2
namespace Dl
open PySem PySem.Spec PyProof.Rows
end Dl
end L2

/-! The plain half, 38: marks of clocks; least covers. -/
namespace L2
namespace Dl
open PySem PySem.Spec PyProof.Rows
/-! the law's own way -/
def kc (c : Int × Int) : List Int := [c.1, c.2]
theorem keys_put (kvs : List (List Int × PyData)) (k : List Int) (d : PyData) : (putD kvs k d).map (·.1) = if k ∈ kvs.map (·.1) then kvs.map (·.1) else kvs.map (·.1) ++ [k] := by
  unfold putD
  by_cases h : (kvs.any fun p => decide (p.1 = k)) = true
  · have hm : k ∈ kvs.map (·.1) := by
      obtain ⟨p, hp, e⟩ := List.any_eq_true.mp h
      exact List.mem_map.mpr ⟨p, hp, of_decide_eq_true e⟩
    rw [if_pos h, if_pos hm, List.map_map]
    refine List.map_congr_left fun p _ => ?_
    show ((if p.1 = k then (p.1, d) else p) : List Int × PyData).1 = p.1
    split <;> rfl
  · have hm : ¬ k ∈ kvs.map (·.1) := fun z => by
      obtain ⟨p, hp, e⟩ := List.mem_map.mp z
      exact h (List.any_eq_true.mpr ⟨p, hp, decide_eq_true e⟩)
    rw [if_neg h, if_neg hm, List.map_append]
    rfl
theorem nd_len {α : Type} [DecidableEq α] : ∀ {L M : List α}, L.Nodup → (∀ x ∈ L, x ∈ M) → L.length ≤ M.length
  | [], _, _, _ => Nat.zero_le _
  | x :: L, M, nd, h => by
    rw [List.nodup_cons] at nd
    have hx := h x List.mem_cons_self
    have := nd_len (L := L) (M := M.erase x) nd.2 fun y hy => (List.mem_erase_of_ne (fun e => nd.1 (by subst e; exact hy))).mpr (h y (List.mem_cons_of_mem _ hy))
    rw [List.length_erase_of_mem hx] at this
    have := List.length_pos_of_mem hx
    rw [List.length_cons]
    omega
/-- those that rang alone up to here -/
def AlI (sm : List (Int × Int)) (pre : List Int) (kvs : List (List Int × PyData)) : Prop := (kvs.map (·.1)).Nodup ∧ ∀ k, k ∈ kvs.map (·.1) ↔ ∃ n ∈ pre, ∃ c, rgF sm n = [c] ∧ k = kc c
theorem AlI.put {sm : List (Int × Int)} {pre : List Int} {kvs : List (List Int × PyData)} {n : Int} {c : Int × Int} {d : PyData} (h : AlI sm pre kvs) (hc : rgF sm n = [c]) : AlI sm (pre ++ [n]) (putD kvs (kc c) d) := by
  obtain ⟨nd, mem⟩ := h
  unfold AlI
  rw [keys_put]
  by_cases hm : kc c ∈ kvs.map (·.1)
  · rw [if_pos hm]
    refine ⟨nd, fun k => ?_⟩
    rw [mem k]
    constructor
    · rintro ⟨m, hm, z⟩
      exact ⟨m, List.mem_append_left _ hm, z⟩
    · rintro ⟨m, hmm, e, h1, h2⟩
      rcases List.mem_append.mp hmm with z | z
      · exact ⟨m, z, e, h1, h2⟩
      · rw [List.mem_singleton] at z
        subst z
        rw [hc] at h1
        cases h1
        subst h2
        exact (mem _).mp hm
  · rw [if_neg hm]
    refine ⟨?_, fun k => ?_⟩
    · rw [List.nodup_append]
      refine ⟨nd, by simp, fun a ha b hb e => ?_⟩
      rw [List.mem_singleton] at hb
      subst hb e
      exact hm ha
    · rw [List.mem_append, mem k, List.mem_singleton]
      constructor
      · rintro (⟨m, hm, z⟩ | rfl)
        · exact ⟨m, List.mem_append_left _ hm, z⟩
        · exact ⟨n, List.mem_append_right _ List.mem_cons_self, c, hc, rfl⟩
      · rintro ⟨m, hmm, e, h1, h2⟩
        rcases List.mem_append.mp hmm with z | z
        · exact .inl ⟨m, z, e, h1, h2⟩
        · rw [List.mem_singleton] at z
          subst z
          rw [hc] at h1
          cases h1
          exact .inr h2
theorem AlI.len {sm : List (Int × Int)} {pre : List Int} {kvs : List (List Int × PyData)} (h : AlI sm pre kvs) : kvs.length ≤ sm.length := by
  have := nd_len (M := sm.map kc) h.1 fun k hk => by
    obtain ⟨n, _, c, h1, rfl⟩ := (h.2 k).mp hk
    have : c ∈ rgF sm n := by rw [h1]; exact List.mem_cons_self
    exact List.mem_map_of_mem (List.mem_filter.mp this).1
  rwa [List.length_map, List.length_map] at this
end Dl
end L2

/-! The plain half, 39: least covers: what they are, drawn clocks. -/
namespace L2
namespace Dl
open PySem PySem.Spec PyProof.Rows

/-! rising tuples of places -/
end Dl
end L2

/-! The plain half, 40: all sets of places; least covers in order. -/
namespace L2
namespace Dl
open PySem PySem.Spec PyProof.Rows

end Dl
end L2

/-! The plain half, 41: clocks seen within a clock. -/
namespace L2
namespace Dl
open PySem PySem.Spec PyProof.Rows
end Dl
end L2

/-! The plain half, 42: exact clocks are those of which just one rings; changed clocks. -/
namespace L2
namespace Dl
open PySem PySem.Spec PyProof.Rows
theorem two_len {α : Type} {p : α → Bool} : ∀ {xs : List α} {i j : Nat} {a b : α}, i < j → xs[i]? = some a → xs[j]? = some b → p a = true → p b = true → 2 ≤ (xs.filter p).length
  | [], i, j, a, b, _, h1, _, _, _ => by simp at h1
  | x :: xs, 0, j + 1, a, b, _, h1, h2, h3, h4 => by
    rw [List.getElem?_cons_zero] at h1
    rw [List.getElem?_cons_succ] at h2
    cases h1
    rw [List.filter_cons, if_pos h3, List.length_cons]
    have := List.length_pos_of_mem (List.mem_filter.mpr ⟨List.mem_of_getElem? h2, h4⟩)
    omega
  | x :: xs, i + 1, j + 1, a, b, hl, h1, h2, h3, h4 => by
    rw [List.getElem?_cons_succ] at h1 h2
    have := two_len (by omega) h1 h2 h3 h4
    rw [List.filter_cons]
    split
    · rw [List.length_cons]; omega
    · exact this
/-- just one rings -/
def One (cs : List (Int × Int)) : Prop := ∀ n, (rgF cs n).length = 1
theorem rg_mem {cs : List (Int × Int)} {n : Int} {c : Int × Int} : c ∈ rgF cs n ↔ c ∈ cs ∧ n % c.1 = c.2 := by
  unfold rgF
  rw [List.mem_filter, decide_eq_true_iff]
theorem sumN_one (n : Nat) : sumN (fun _ => 1) n = n := by
  induction n with
  | zero => rfl
  | succ n ih =>
    show sumN (fun _ => 1) n + 1 = _
    rw [ih]
    omega
theorem One.nodup {cs : List (Int × Int)} (h : One cs) (hc : ∀ c ∈ cs, CkOk 1000 c) : cs.Nodup := by
  refine List.pairwise_iff_getElem.mpr fun i j hi hj hij e => ?_
  have ok := hc _ (List.getElem_mem hi)
  have hr : cs[i].2 % cs[i].1 = cs[i].2 := Int.emod_eq_of_lt ok.2.2.1 ok.2.2.2
  have := two_len (p := fun c : Int × Int => decide (cs[i].2 % c.1 = c.2)) hij (List.getElem?_eq_getElem hi) (List.getElem?_eq_getElem hj) (decide_eq_true hr) (by rw [← e]; exact decide_eq_true hr)
  have := h cs[i].2
  unfold rgF at this
  omega
theorem ex_one {cs : List (Int × Int)} (hc : GC cs) : ExC cs ↔ One cs := by
  constructor
  · intro h n
    have h1 := ex_le hc h.2 n
    obtain ⟨d, hd, hr⟩ := cov_ms hc (ex_cov hc h) n
    have ok := hc.ok d hd
    have := List.length_pos_of_mem (rg_mem.mpr ⟨hd, (Rg_mod ok.2.2.1 ok.2.2.2).mp hr⟩)
    omega
  · intro h
    have rp := hc.rp
    refine ⟨?_, fun i j ci cj x hij hi hj hm => ?_⟩
    · have hs := rg_sum (M := rnd 1 cs) (by omega) (cs := cs) fun c hcm => ⟨hc.ok c hcm, (rnd_spec cs 1 (by decide) hc.one).2.2.1 c hcm⟩
      rw [sumN_congr (g := fun _ => 1) (fun i _ => by rw [h]; rfl), sumN_one] at hs
      show (cs.map fun c => rnd 1 cs / c.1).sum = _
      rw [← hs]
      omega
    · have oi := hc.ok ci (List.mem_of_getElem? hi)
      have oj := hc.ok cj (List.mem_of_getElem? hj)
      have := two_len (p := fun c : Int × Int => decide (x % c.1 = c.2)) hij hi hj (decide_eq_true ((Rg_mod oi.2.2.1 oi.2.2.2).mp hm.1)) (decide_eq_true ((Rg_mod oj.2.2.1 oj.2.2.2).mp hm.2))
      have := h x
      unfold rgF at this
      omega
theorem exB_one {cs : List (Int × Int)} (hc : GC cs) : exB cs = true ↔ One cs := exB_iff.trans (ex_one hc)
theorem One.perm {cs ds : List (Int × Int)} (h : One cs) (p : cs.Perm ds) : One ds := fun n => by
  rw [← h n]
  exact (p.filter _).length_eq.symm
theorem cov_mem {cs ds : List (Int × Int)} (h : ∀ c, c ∈ cs ↔ c ∈ ds) : Cov cs ↔ Cov ds :=
  ⟨fun k x => (k x).imp fun d hd => ⟨(h d).mp hd.1, hd.2⟩, fun k x => (k x).imp fun d hd => ⟨(h d).mpr hd.1, hd.2⟩⟩
theorem cov_ord {cs : List (Int × Int)} : Cov (ordC cs) ↔ Cov cs := cov_mem fun _ => mem_ordC
theorem ordC_perm {cs : List (Int × Int)} (nd : cs.Nodup) : (ordC cs).Perm cs := by
  rw [← ordC_sort nd fun _ => Iff.rfl]
  exact List.mergeSort_perm _ _
/-! mirrored -/
theorem rnd_eq {cs ds : List (Int × Int)} (hc : ∀ c ∈ cs, 1 ≤ c.1) (hd : ∀ c ∈ ds, 1 ≤ c.1) (h1 : ∀ c ∈ cs, ∃ d ∈ ds, d.1 = c.1) (h2 : ∀ d ∈ ds, ∃ c ∈ cs, c.1 = d.1) : rnd 1 cs = rnd 1 ds := by
  obtain ⟨a1, a2, a3, a4⟩ := rnd_spec cs 1 (by decide) hc
  obtain ⟨b1, b2, b3, b4⟩ := rnd_spec ds 1 (by decide) hd
  have l1 := Int.le_of_dvd b1 (a4 (rnd 1 ds) (Int.one_dvd _) fun c h => by
    obtain ⟨d, hd, e⟩ := h1 c h
    rw [← e]
    exact b3 d hd)
  have l2 := Int.le_of_dvd a1 (b4 (rnd 1 cs) (Int.one_dvd _) fun d h => by
    obtain ⟨c, hc, e⟩ := h2 d h
    rw [← e]
    exact a3 c hc)
  omega
/-! stretched, and seen -/
/-! put in -/
/-- short covers by splits -/
theorem SpW.ok {cs : List (Int × Int)} (h : SpW cs) (hl : cs.length ≤ 3) (hc : ∀ c ∈ cs, CkOk 1000 c) : ∀ c ∈ cs, CkOk 4 c ∧ c.1 ∣ 12 := fun c hcm => by
  have h1 := h.2 c hcm
  obtain ⟨a1, a2, a3, a4⟩ := hc c hcm
  have h4 : c.1 ≤ 4 := by
    have : cs.length = 0 ∨ cs.length = 1 ∨ cs.length = 2 ∨ cs.length = 3 := by omega
    rcases this with e | e | e | e <;> rw [e] at h1
    · have : (2 : Int) ^ 0 = 1 := rfl
      omega
    · have : (2 : Int) ^ 1 = 2 := rfl
      omega
    · have : (2 : Int) ^ 2 = 4 := rfl
      omega
    · have : (2 : Int) ^ 3 = 8 := rfl
      omega
  refine ⟨⟨a1, h4, a3, a4⟩, ?_⟩
  have : c.1 = 1 ∨ c.1 = 2 ∨ c.1 = 3 ∨ c.1 = 4 := by omega
  rcases this with e | e | e | e <;> rw [e] <;> decide
end Dl
end L2

/-! The plain half, 43: papers of needs; least covers: there are some, none is part of another, the fewest. -/
namespace L2
namespace Dl
open PySem PySem.Spec PyProof.Rows
theorem rgF_mod {cs : List (Int × Int)} {M n : Int} (h : ∀ c ∈ cs, c.1 ∣ M) : rgF cs (n % M) = rgF cs n := by
  unfold rgF
  refine List.filter_congr fun c hc => ?_
  rw [Int.emod_emod_of_dvd n (h c hc)]
end Dl
end L2

/-! The plain half, 44: rests that cover, going round; all rests; the share. -/
namespace L2
namespace Dl
open PySem PySem.Spec PyProof.Rows
theorem zip_cks (ns rs : List Int) : zipD (ns.map .int) (rs.map .int) = cks (ns.zip rs) := by
  unfold zipD cks
  rw [List.zip_map, List.map_map]
  rfl
theorem zip_ok {ns rs : List Int} (hL : ∀ s ∈ ns, 1 ≤ s ∧ s ≤ 1000) (hr : RsIn ns rs) : ∀ c ∈ ns.zip rs, CkOk 1000 c := fun c h => by
  have h1 := hL c.1 (List.of_mem_zip (show (c.1, c.2) ∈ ns.zip rs from h)).1
  have h2 := hr c h
  exact ⟨h1.1, h1.2, h2.1, h2.2⟩
theorem rnd_fst : ∀ (cs : List (Int × Int)) (f : Int), rnd f cs = rnd f (st0 (cs.map (·.1)))
  | [], _ => rfl
  | c :: cs, f => by
    rw [rnd_c, rnd_fst cs]
    rfl
theorem zip_rnd {ns rs : List Int} (hl : rs.length = ns.length) : rnd 1 (ns.zip rs) = szI ns := by
  rw [rnd_fst, List.map_fst_zip (by omega)]
  rfl
/-- all rests -/
def alS (found : List (List Int)) (s : Int) : List (List Int) := found.flatMap fun r => (rgI s).map fun t => r ++ [t]
def allR (ns : List Int) : List (List Int) := ns.foldl alS [[]]
theorem fmap_congr {α β : Type} {f g : α → List β} : ∀ {xs : List α}, (∀ x ∈ xs, f x = g x) → xs.flatMap f = xs.flatMap g
  | [], _ => rfl
  | x :: xs, h => by rw [List.flatMap_cons, List.flatMap_cons, h x List.mem_cons_self, fmap_congr fun y hy => h y (List.mem_cons_of_mem _ hy)]
theorem alS_in {pre : List Int} {s : Int} {found : List (List Int)} (h : ∀ r ∈ found, r.length = pre.length ∧ RsIn pre r) : ∀ r ∈ alS found s, r.length = (pre ++ [s]).length ∧ RsIn (pre ++ [s]) r := fun r hr => by
  obtain ⟨r0, h0, hr⟩ := List.mem_flatMap.mp hr
  obtain ⟨t, ht, rfl⟩ := List.mem_map.mp hr
  obtain ⟨h1, h2⟩ := h r0 h0
  obtain ⟨t0, t1⟩ := rgI_mem.mp ht
  refine ⟨by rw [List.length_append, List.length_append, h1]; rfl, fun p hp => ?_⟩
  rw [List.zip_append h1.symm, List.mem_append] at hp
  rcases hp with hp | hp
  · exact h2 p hp
  · simp only [List.zip_cons_cons, List.zip_nil_left, List.mem_singleton] at hp
    subst hp
    exact ⟨t0, t1⟩
theorem allR_in (ns : List Int) : ∀ r ∈ allR ns, r.length = ns.length ∧ RsIn ns r := by
  have gen : ∀ (post pre : List Int) (found : List (List Int)), (∀ r ∈ found, r.length = pre.length ∧ RsIn pre r) → ∀ r ∈ post.foldl alS found, r.length = (pre ++ post).length ∧ RsIn (pre ++ post) r := by
    intro post
    induction post with
    | nil =>
      intro pre found h r hr
      rw [List.append_nil]
      exact h r hr
    | cons s post ih =>
      intro pre found h r hr
      have := ih (pre ++ [s]) (alS found s) (alS_in h) r hr
      rwa [List.append_assoc] at this
  refine gen ns [] [[]] fun r hr => ?_
  rw [List.mem_singleton] at hr
  subst hr
  exact ⟨rfl, fun p hp => by cases hp⟩
theorem mk_all (size : Nat) (ns : List Int) : mkL size ns = (allR ns).map (mksN size ns) := by
  have one : ∀ (pre : List Int) (s : Int) (found : List (List Int)), (∀ r ∈ found, r.length = pre.length) → mstep size (found.map (mksN size pre)) s = (alS found s).map (mksN size (pre ++ [s])) := by
    intro pre s found h
    unfold mstep alS
    rw [List.flatMap_map, List.map_flatMap]
    refine fmap_congr fun r hr => ?_
    rw [List.map_map]
    refine List.map_congr_left fun t _ => ?_
    show _ = mksN size (pre ++ [s]) (r ++ [t])
    unfold mksN
    rw [List.zip_append (h r hr).symm, List.foldl_append]
    rfl
  have gen : ∀ (post pre : List Int) (found : List (List Int)), (∀ r ∈ found, r.length = pre.length) → post.foldl (mstep size) (found.map (mksN size pre)) = (post.foldl alS found).map (mksN size (pre ++ post)) := by
    intro post
    induction post with
    | nil =>
      intro pre found h
      rw [List.append_nil]
      rfl
    | cons s post ih =>
      intro pre found h
      rw [List.foldl_cons, one pre s found h, ih (pre ++ [s]) (alS found s) fun r hr => ?_, List.foldl_cons, List.append_assoc]
      · rfl
      · obtain ⟨r0, h0, hr⟩ := List.mem_flatMap.mp hr
        obtain ⟨t, _, rfl⟩ := List.mem_map.mp hr
        rw [List.length_append, List.length_append, h r0 h0]
        rfl
  have := gen ns [] [[]] fun r hr => by
    rw [List.mem_singleton] at hr
    subst hr
    rfl
  exact this
theorem rm_count {ns : List Int} (hs : ∀ s ∈ ns, 1 ≤ s) : rmN ns = ((allR ns).filter fun r => rsB ns r).length := by
  unfold rmN
  rw [mk_all, List.countP_map, List.countP_eq_length_filter]
  congr 1
  refine List.filter_congr fun r hr => ?_
  show decide (mksN (szI ns).toNat ns r = 2 ^ (szI ns).toNat - 1) = rsB ns r
  rw [Bool.eq_iff_iff, decide_eq_true_iff]
  exact mks_full hs (allR_in ns r hr).2
end Dl
end L2

/-! The plain half, 45: rests that cover: as many in another order; steps put in their stead; shares. -/
namespace L2
namespace Dl
open PySem PySem.Spec PyProof.Rows
local macro_rules | `(tactic| dsimp? [$xs,*] $[$l]?) => `(tactic| simp only [wSeq, wNext, wBreak, wCont, wDrop, wRet, wRetN, wIfS, wSet, wAsgT, e_aug, e_setIx, e_par, e_gN, getS_0, getS_s, setS_0, setS_s, e_var, varK_v, varK_o, varK_u, wC, wBin, rdK_v, rdK_t, rdK_s, rdS_v, rdS_o, rdS_u, fzK_v, fzK_t, fzK_s, fzS_v, fzS_o, fzS_l, fzS_u, e_fz, asg_v, asg_t, asg_s, e_tb, tbK_b, wAnd, wOr, wNot, e_notV, e_andV, e_orV, wBV, wIf, e_neg, intK_i, e_oso, wONo, e_rng1, e_rng2, wFNil, wFCons, wANil, wACons, wTup, wLst, e_callB, rdAllK_n, rdAllK_c, wIsi, e_call, wMNil, wMCons, e_ld, lnsOf, avsK_n, avsK_f, avsK_l, lnS_o, lnS_v, lnS_u, poK_n, poK_c, poS_o, inS_0, inS_s, rsK_v, rsK_o, wSl, e_ownF, e_own0, ownB_o, oS_o, oS_v, oS_u, agS_i, muApp, oAdd_i, oAdd_l, oAdd_t, oAdd_s, oSub_i, oMul_i, oFdiv_i, oMod_i, oPow_i, oShl_i, oShr_i, oOr_i, oAndB_i, oLt_i, oLe_i, oGt_i, oGe_i, oEq_i, oNe_i, oEq, oNe, oIx_l, oIx_t, oLen_l, oLen_t, oInt_i, oInt_b, oMax_i, oMin_i, oList_l, oList_t, oTuple_l, oTuple_t, oSorted_l, oSorted_t, oIs_n, oIsN_n, oIs_b, oIsN_b, isNone_n, isNone_t, isNone_l, isNone_i, isNone_s, isNone_b, oSl_l, oSl_t, oIn, gT_t, gC_c, gNil', e_iseq, sqK_l, sqK_t, e_isq, sq2K_l, sq2K_t, e_sset, ssK_l, ssK_t, e_chain, e_lr1, e_lr2, wRev, rvD_l, rvD_t, e_in1, e_in2, negB_f, negB_t, wIZip, zpK_l, zpK_t, zpK_m, e_extend, extR_t, wYes, startEv, kenD_nx, kenD_rt, kenD_bk, kenD_ct, kenD_ex, outK_n, outK_c, otS_o, rvK_v, rvK_t, rvK_s, rvS_v, rvS_o, slOf, lsFrom, wipeE, restE, List.map_cons, List.map_nil, List.length_cons, List.length_nil, List.replicate, List.append_nil, List.cons_append, List.nil_append, List.getElem?_cons_zero, List.getElem?_cons_succ, List.getElem?_nil, List.set_cons_zero, List.set_cons_succ, List.set_nil, Option.getD_some, Option.getD_none, Option.map_some, Option.map_none, Option.some.injEq, Rs.val.injEq, Rs.tmp.injEq, Rs.slot.injEq, Sl.own.injEq, Sl.val.injEq, PyData.int.injEq, PyData.bool.injEq, PyData.str.injEq, PyData.list.injEq, PyData.tuple.injEq, Prod.mk.injEq, Nat.sub_self, Nat.zero_add, Nat.reduceAdd, Nat.reduceSub, Nat.add_zero, isTy_int_int, isTy_bool_int, isTy_int_bool, isTy_bool_bool, isTy_int_tup, isTy_int_lst, isTy_int_non, isTy_int_str, isTy_tup_tup, isTy_tup_lst, isTy_tup_int, isTy_tup_bool, isTy_tup_non, isTy_tup_str, isTy_lst_lst, isTy_lst_tup, isTy_lst_int, exists_eq_left', exists_eq_left, exists_and_left, exists_eq_right, exists_eq, exists_eq', exists_const, true_and, and_true, and_self, Bool.not_true, Bool.not_false, if_true, if_false, Bool.false_eq_true, reduceIte, reduceCtorEq, List.nodup_nil, decide_eq_true_eq, atI_0, atI_1, atI_2, atI_3, atI_4, atI_5, atI_6, atI_7, atI_8, atI_9, atI_10, atI_11, ixN_3_0, ixN_3_1, ixN_3_2, sh_int, sh_bool, sh_non, and_assoc, nd1, nd_true, eq_self, decide_true, decide_false, Int.cast_ofNat_Int, not_true_eq_false, not_false_eq_true, eqv_ii, eqv_bb, wRaise0, e_raiseG, grK_i, e_raise1, onK_i, e_callX, xa_1, xa_2, xa_3, xa_4, xa_5, xa_6, xa_7, e_many, e_most, e_number, e_row, isLst_l, lsK_l, e_rd, e_br, brS_o, brS_v, arS_o, arS_v, avbK_n, avbK_f, avbK_l, scK_b, scK_i, scK_n, scK_s, e_callS, tmK_t, e_rep, enK_l, e_ienum, wTry, eqv_ss, tpK_v, txK_1, tutK_t, e_repT, e_callT, enTK_t, e_ienumT, r3K_i, e_rng3, e_newD, e_putD, e_lenD, e_listD, dcS_d, dcB_d, pvK_b, pvK_i, tkK_m, tkK_2, e_ssetI, oMinL_c, e_lset, e_lstZ, zlK_c, e_ins, $xs,*] $[$l]?)
def sp_clocks_of : Spc := fun avs Kr Kx => match avs with
  | [.val (.list ds)] => ∃ cs, ds = cks cs ∧ (∀ c ∈ cs, CkOk 1000 c) ∧ cs.length ≤ 12 ∧ cs.Pairwise clt ∧ Kr [] (.val (.tuple (cks cs)))
  | _ => False
def w_clocks_of_B1 : WS :=
  (wSeq (wIfS (wOr (wNot (wTB (wCall 1 sp_clock_good (wMCons (wVar 3) wMNil)))) (wOr (wTB (wBin (oIn false) (wVar 3) (wVar 1))) (wTB (wBin oEq (wCallB oLen (wACons (wVar 1) wANil)) (wC (.int 12)))))) wNever wNext)
    (wDrop (wOwnF 1 (wVar 3) muApp)))
def w_clocks_of_L1 : WS :=
  wFor (wIEnum (wFCons (wVar 0) wFNil)) (gT 2 (gCons' (gN 2) (gCons' (gN 3) gNil'))) w_clocks_of_B1
def w_clocks_of_R1 : WS :=
  (wRet (wCallB oTuple (wACons (wCallB oSorted (wACons (wVar 1) wANil)) wANil)))
/-- clocks_of: 0 things, 1 found, 2 number, 3 thing -/
def w_clocks_of : WS :=
  (wSeq (wSet 1 (wLst wFNil))
    (wSeq w_clocks_of_L1
    w_clocks_of_R1))

theorem vc_clocks_of : ∀ avs Kr Kx, avs.length = 1 → sp_clocks_of avs Kr Kx → lsFrom 0 avs = [] ∧ w_clocks_of (startEv 4 avs) (kenD [] Kr Kx) := by
  intro avs Kr Kx hl h
  unfold sp_clocks_of at h
  split at h
  · rename_i ds
    obtain ⟨cs, rfl, hc, hl, pw, q⟩ := h
    refine ⟨rfl, ?_⟩
    unfold w_clocks_of
    refine seq_cut fun R hR => ?_
    dsimp? []
    refine ⟨by decide, hR _ ?_⟩
    dsimp? [w_clocks_of_L1, wFor]
    refine wEach_ind (fun es e => ∃ (l r : List (Int × Int)) (x2 x3 : Sl), cs = l ++ r ∧ es = (r.zipIdx l.length).map (fun p => PyData.tuple [.int p.2, ck p.1]) ∧ e = [.val (.list (cks cs)), .own false (cks l), x2, x3]) ?_ ?_ _ _ ⟨[], cs, _, _, rfl, ?_, rfl⟩
    · rintro e ⟨l, r, x2, x3, h1, h2, rfl⟩
      cases r with
      | cons c r => cases h2
      | nil =>
        rw [List.append_nil] at h1
        subst h1
        dsimp? [w_clocks_of_R1]
        refine ⟨srt_cks _, ?_⟩
        rw [sort_cks, ordC_sort (pw.imp fun h e => ?_) (fun _ => Iff.rfl), ordC_id pw]
        · exact q
        · subst e
          exact clt_ir h
    · rintro d es e ⟨l, r, x2, x3, h1, h2, rfl⟩ ih
      cases r with
      | nil => cases h2
      | cons c r =>
        rw [List.zipIdx_cons] at h2
        cases h2
        have hcl : cs.length = l.length + (r.length + 1) := by rw [h1, List.length_append, List.length_cons]
        have hin : c ∈ cs := by rw [h1]; exact List.mem_append_right _ List.mem_cons_self
        have nin : c ∉ l := fun h => by
          have nd : cs.Nodup := pw.imp fun h e => by subst e; exact clt_ir h
          rw [h1] at nd
          exact (List.nodup_append.mp nd).2.2 c h c List.mem_cons_self rfl
        dsimp? [w_clocks_of_B1, sp_clock_good]
        rw [cgB_ck.mpr (hc c hin)]
        have any0 : ((cks l).any fun z => PyData.eqv z (ck c)) = false := by
          rw [List.any_eq_false]
          intro z hz
          obtain ⟨d, hd, rfl⟩ := List.mem_map.mp hz
          rw [eqv_ck, decide_eq_true_iff]
          rintro rfl
          exact nin hd
        have ll : (cks l).length = l.length := List.length_map _
        dsimp? []
        refine ⟨sh_ck c, sh_lck l, ?_⟩
        rw [any0, if_neg Bool.false_ne_true, if_neg (by rw [ll]; omega)]
        refine ⟨by rw [ll, sizeLine_eq]; omega, ?_⟩
        have e9 : cks l ++ [ck c] = cks (l ++ [c]) := by
          unfold cks
          rw [List.map_append]
          rfl
        rw [e9]
        exact ih _ ⟨l ++ [c], r, _, _, by rw [h1, List.append_assoc]; rfl, by rw [List.length_append]; rfl, rfl⟩
    · unfold enD cks
      rw [List.zipIdx_map, List.map_map]
      rfl
  · exact h.elim
theorem rg_yes {ns rs : List Int} (hl : rs.length = ns.length) (hr : RsIn ns rs) : rgB ns (.tuple (rs.map .int)) = rsB ns rs := by
  have a : arB ns (.tuple (rs.map .int)) = true := by
    rw [arB_at, List.length_map, decide_eq_true hl, Bool.true_and, List.all_eq_true]
    rintro ⟨s, d⟩ hp
    rw [List.zip_map_right] at hp
    obtain ⟨⟨s2, r⟩, hq, e⟩ := List.mem_map.mp hp
    cases e
    have := hr _ hq
    show (decide (0 ≤ r) && decide (r < s2)) = true
    rw [decide_eq_true this.1, decide_eq_true this.2]
    rfl
  show (arB ns (.tuple (rs.map .int)) && rsB ns ((rs.map .int).map iv)) = _
  rw [a, iv_ns, Bool.true_and]
theorem allR_mem {ns r : List Int} (hl : r.length = ns.length) (hr : RsIn ns r) : r ∈ allR ns := by
  have gen : ∀ (post : List Int) (found : List (List Int)) (r0 r1 : List Int), r0 ∈ found → r1.length = post.length → RsIn post r1 → r0 ++ r1 ∈ post.foldl alS found := by
    intro post
    induction post with
    | nil =>
      intro found r0 r1 h0 h1 _
      obtain rfl := List.length_eq_zero_iff.mp h1
      rw [List.append_nil]
      exact h0
    | cons s post ih =>
      intro found r0 r1 h0 h1 h2
      cases r1 with
      | nil => cases h1
      | cons t r1 =>
        rw [List.foldl_cons, show r0 ++ t :: r1 = (r0 ++ [t]) ++ r1 by rw [List.append_assoc]; rfl]
        have ht := h2 (s, t) List.mem_cons_self
        refine ih _ _ r1 (List.mem_flatMap.mpr ⟨r0, h0, List.mem_map.mpr ⟨t, rgI_mem.mpr ht, rfl⟩⟩) (by simpa using h1) fun p hp => h2 p (List.mem_cons_of_mem _ hp)
  exact gen ns [[]] [] r (List.mem_singleton.mpr rfl) hl hr
theorem alS_nd {found : List (List Int)} {s : Int} {n : Nat} (nd : found.Nodup) (hl : ∀ r ∈ found, r.length = n) : (alS found s).Nodup := by
  unfold alS
  refine List.pairwise_flatMap.mpr ⟨fun r _ => ?_, ?_⟩
  · refine List.pairwise_map.mpr ((rgI_nodup s).imp fun {a b} hab e => hab ?_)
    have := List.append_cancel_left e
    simpa using this
  · refine List.Pairwise.imp_of_mem (fun {a b} ha hb hab x hx y hy e => hab ?_) nd
    obtain ⟨t, _, rfl⟩ := List.mem_map.mp hx
    obtain ⟨u, _, rfl⟩ := List.mem_map.mp hy
    exact (List.append_inj e (by rw [hl a ha, hl b hb])).1
theorem allR_nd (ns : List Int) : (allR ns).Nodup := by
  have gen : ∀ (post : List Int) (found : List (List Int)) (n : Nat), found.Nodup → (∀ r ∈ found, r.length = n) → (post.foldl alS found).Nodup := by
    intro post
    induction post with
    | nil => exact fun _ _ h _ => h
    | cons s post ih =>
      intro found n nd hl
      refine ih (alS found s) (n + 1) (alS_nd nd hl) fun r hr => ?_
      obtain ⟨r0, h0, hr⟩ := List.mem_flatMap.mp hr
      obtain ⟨t, _, rfl⟩ := List.mem_map.mp hr
      rw [List.length_append, hl r0 h0]
      rfl
  exact gen ns [[]] 0 (by simp) fun r hr => by
    rw [List.mem_singleton] at hr
    subst hr
    rfl
theorem zip_rev : ∀ {ns rs : List Int}, rs.length = ns.length → ns.reverse.zip rs.reverse = (ns.zip rs).reverse
  | [], [], _ => rfl
  | [], _ :: _, h => by cases h
  | _ :: _, [], h => by cases h
  | s :: ns, r :: rs, h => by
    have h : rs.length = ns.length := by simpa using h
    rw [List.reverse_cons, List.reverse_cons, List.zip_append (by rw [List.length_reverse, List.length_reverse, h]), zip_rev h, show (s :: ns).zip (r :: rs) = (s, r) :: ns.zip rs from rfl, List.reverse_cons]
    rfl
theorem rs_rev {ns rs : List Int} (hs : ∀ s ∈ ns, 1 ≤ s) (hl : rs.length = ns.length) : rsB ns.reverse rs.reverse = rsB ns rs := by
  have ez : szI ns.reverse = szI ns := rnd_eq (fun c hc => by
      obtain ⟨s, h, rfl⟩ := List.mem_map.mp hc
      exact hs s (List.mem_reverse.mp h)) (fun c hc => by
      obtain ⟨s, h, rfl⟩ := List.mem_map.mp hc
      exact hs s h) (fun c hc => by
      obtain ⟨s, h, rfl⟩ := List.mem_map.mp hc
      exact ⟨_, List.mem_map.mpr ⟨s, List.mem_reverse.mp h, rfl⟩, rfl⟩) fun c hc => by
      obtain ⟨s, h, rfl⟩ := List.mem_map.mp hc
      exact ⟨_, List.mem_map.mpr ⟨s, List.mem_reverse.mpr h, rfl⟩, rfl⟩
  unfold rsB
  rw [ez, zip_rev hl]
  congr 1
  funext n
  rw [List.any_reverse]
theorem rsIn_rev {ns rs : List Int} (hl : rs.length = ns.length) (h : RsIn ns rs) : RsIn ns.reverse rs.reverse := fun p hp => by
  rw [zip_rev hl] at hp
  exact h p (List.mem_reverse.mp hp)
theorem rm_le {ns : List Int} (hs : ∀ s ∈ ns, 1 ≤ s) : rmN ns ≤ rmN ns.reverse := by
  rw [rm_count hs, rm_count fun s h => hs s (List.mem_reverse.mp h)]
  have e : ((allR ns).filter fun r => rsB ns r).length = (((allR ns).filter fun r => rsB ns r).map List.reverse).length := by rw [List.length_map]
  rw [e]
  refine nd_len (List.pairwise_map.mpr (((allR_nd ns).filter _).imp fun {a b} hab z => hab (List.reverse_inj.mp z))) fun r hr => ?_
  obtain ⟨r0, h0, rfl⟩ := List.mem_map.mp hr
  obtain ⟨h1, h2⟩ := List.mem_filter.mp h0
  obtain ⟨a, b⟩ := allR_in ns r0 h1
  exact List.mem_filter.mpr ⟨allR_mem (by rw [List.length_reverse, List.length_reverse, a]) (rsIn_rev a b), by rw [rs_rev hs a]; exact h2⟩
theorem rm_rev {ns : List Int} (hs : ∀ s ∈ ns, 1 ≤ s) : rmN ns.reverse = rmN ns := by
  have a := rm_le hs
  have b := rm_le (ns := ns.reverse) fun s h => hs s (List.mem_reverse.mp h)
  rw [List.reverse_reverse] at b
  omega
/-- rests that cover, everywhere -/
theorem rf_ex {ns rs : List Int} (hs : ∀ s ∈ ns, 1 ≤ s) (hl : rs.length = ns.length) (hr : RsIn ns rs) (hc : ∀ n : Int, ∃ p ∈ ns.zip rs, n % p.1 = p.2) : ∃ l, rfF (szI ns) ns (rgI (szI ns)) = some l := by
  cases h : rfF (szI ns) ns (rgI (szI ns)) with
  | some l => exact ⟨l, rfl⟩
  | none =>
    have z0 := szI_pos hs
    obtain ⟨n, hn, h2⟩ := rfF_none (by omega) (fun s h => ⟨hs s h, szI_dvd hs s h⟩) (rgI_nodup _) (fun n hn => rgI_mem.mp hn) h rs hl hr
    obtain ⟨p, hp, e⟩ := hc n
    exact (h2 p hp e).elim
theorem rf_all {ns l : List Int} (hs : ∀ s ∈ ns, 1 ≤ s) (h : rfF (szI ns) ns (rgI (szI ns)) = some l) : l.length = ns.length ∧ RsIn ns l ∧ rsB ns l = true ∧ ∀ n : Int, ∃ p ∈ ns.zip l, n % p.1 = p.2 := by
  obtain ⟨a, b, c⟩ := rfF_some h
  have z0 := szI_pos hs
  refine ⟨a, b, List.all_eq_true.mpr fun n hn => ?_, fun n => ?_⟩
  · obtain ⟨p, hp, e⟩ := c n hn
    exact List.any_eq_true.mpr ⟨p, hp, decide_eq_true e⟩
  · obtain ⟨p, hp, e⟩ := c (n % szI ns) (rgI_mem.mpr ⟨Int.emod_nonneg _ (by omega), Int.emod_lt_of_pos _ z0⟩)
    rw [Int.emod_emod_of_dvd n (szI_dvd hs p.1 (List.of_mem_zip (show (p.1, p.2) ∈ ns.zip l from hp)).1)] at e
    exact ⟨p, hp, e⟩
theorem rm_pos {ns : List Int} (hs : ∀ s ∈ ns, 1 ≤ s) : 0 < rmN ns ↔ ∃ l, rfF (szI ns) ns (rgI (szI ns)) = some l := by
  rw [rm_count hs]
  constructor
  · intro h
    obtain ⟨r, hr⟩ := List.exists_mem_of_length_pos h
    obtain ⟨h1, h2⟩ := List.mem_filter.mp hr
    obtain ⟨a, b⟩ := allR_in ns r h1
    cases ho : rfF (szI ns) ns (rgI (szI ns)) with
    | some l => exact ⟨l, rfl⟩
    | none =>
      have z0 := szI_pos hs
      obtain ⟨n, hn, h3⟩ := rfF_none (by omega) (fun s h => ⟨hs s h, szI_dvd hs s h⟩) (rgI_nodup _) (fun n hn => rgI_mem.mp hn) ho r a b
      obtain ⟨p, hp, e⟩ := List.any_eq_true.mp (List.all_eq_true.mp h2 n hn)
      exact (h3 p hp (of_decide_eq_true e)).elim
  · rintro ⟨l, h⟩
    obtain ⟨a, b, c, _⟩ := rf_all hs h
    exact List.length_pos_of_mem (List.mem_filter.mpr ⟨allR_mem a b, c⟩)
/-! shares -/
theorem sumN_ge {f : Nat → Int} : ∀ {n : Nat}, (∀ i < n, 1 ≤ f i) → (n : Int) ≤ sumN f n
  | 0, _ => Int.le_refl _
  | n + 1, h => by
    have a := sumN_ge (f := f) (n := n) fun i hi => h i (by omega)
    have b := h n (by omega)
    show ((n + 1 : Nat) : Int) ≤ sumN f n + f n
    omega
theorem sumN_eq {f : Nat → Int} : ∀ {n : Nat}, (∀ i < n, 1 ≤ f i) → sumN f n = n → ∀ i < n, f i = 1
  | 0, _, _, i, hi => by omega
  | n + 1, h, e, i, hi => by
    have a := sumN_ge (f := f) (n := n) fun i hi => h i (by omega)
    have b := h n (by omega)
    have e : sumN f n + f n = ((n + 1 : Nat) : Int) := e
    by_cases z : i = n
    · subst z
      omega
    · exact sumN_eq (f := f) (n := n) (fun i hi => h i (by omega)) (by omega) i (by omega)
theorem covr_len {cs : List (Int × Int)} (hc : GC cs) (h : Cov cs) (n : Int) : 1 ≤ (rgF cs n).length := by
  obtain ⟨d, hd, hr⟩ := h n
  have ok := hc.ok d hd
  have := List.length_pos_of_mem (rg_mem.mpr ⟨hd, (Rg_mod ok.2.2.1 ok.2.2.2).mp hr⟩)
  omega
theorem cov_sumS {cs : List (Int × Int)} (hc : GC cs) (h : Cov cs) : rnd 1 cs ≤ sumS (rnd 1 cs) cs ∧ (sumS (rnd 1 cs) cs = rnd 1 cs → One cs) := by
  have rp := hc.rp
  have dv := (rnd_spec cs 1 (by decide) hc.one).2.2.1
  have hs := rg_sum (M := rnd 1 cs) (by omega) (cs := cs) fun c hcm => ⟨hc.ok c hcm, dv c hcm⟩
  have hs : sumN (fun n => ((rgF cs (n : Int)).length : Int)) (rnd 1 cs).toNat = sumS (rnd 1 cs) cs := hs
  have ge := sumN_ge (f := fun n => ((rgF cs (n : Int)).length : Int)) (n := (rnd 1 cs).toNat) fun i _ => by have := covr_len hc h (i : Int); omega
  refine ⟨by omega, fun e n => ?_⟩
  have h1 := Int.emod_nonneg n (show rnd 1 cs ≠ 0 by omega)
  have h2 := Int.emod_lt_of_pos n rp
  have := sumN_eq (f := fun n => ((rgF cs (n : Int)).length : Int)) (n := (rnd 1 cs).toNat) (fun i _ => by have := covr_len hc h (i : Int); omega) (by omega) (n % rnd 1 cs).toNat (by omega)
  rw [show (((n % rnd 1 cs).toNat : Nat) : Int) = n % rnd 1 cs by omega, rgF_mod dv] at this
  omega
theorem sum_zip {ns rs : List Int} (R : Int) (hl : rs.length = ns.length) : sumS R (ns.zip rs) = sumS R (st0 ns) := by
  unfold sumS st0
  have e : (ns.zip rs).map (fun c => R / c.1) = ((ns.zip rs).map (·.1)).map fun s => R / s := by rw [List.map_map]; rfl
  rw [e, List.map_fst_zip (by omega), List.map_map]
  rfl
/-! steps in the stead of others -/
theorem zip_mid {ns l : List Int} {j : Nat} (s r : Int) (hl : l.length = ns.length) (hj : j < ns.length) : (ns.take j ++ [s] ++ ns.drop (j + 1)).zip (l.take j ++ [r] ++ l.drop (j + 1)) = (ns.take j).zip (l.take j) ++ [(s, r)] ++ (ns.drop (j + 1)).zip (l.drop (j + 1)) := by
  rw [List.zip_append (by simp; omega), List.zip_append (by simp; omega)]
  rfl
theorem zip_at {ns l : List Int} {j : Nat} (hl : l.length = ns.length) (hj : j < ns.length) : ns.zip l = (ns.take j).zip (l.take j) ++ [(ns.getD j 0, l.getD j 0)] ++ (ns.drop (j + 1)).zip (l.drop (j + 1)) := by
  rw [← zip_mid _ _ hl hj]
  have sp : ∀ (xs : List Int), j < xs.length → xs.take j ++ [xs.getD j 0] ++ xs.drop (j + 1) = xs := fun xs h => by
    rw [List.getD_eq_getElem?_getD, List.getElem?_eq_getElem h, Option.getD_some, List.append_assoc, List.singleton_append, ← List.drop_eq_getElem_cons h, List.take_append_drop]
  rw [sp ns hj, sp l (by omega)]
theorem rf_mid {ns l : List Int} {j : Nat} {s : Int} (hs : ∀ s ∈ ns, 1 ≤ s) (h : rfF (szI ns) ns (rgI (szI ns)) = some l) (hj : j < ns.length) (h1 : 1 ≤ s) (hd : s ∣ ns.getD j 0) : ∃ l', rfF (szI (ns.take j ++ [s] ++ ns.drop (j + 1))) (ns.take j ++ [s] ++ ns.drop (j + 1)) (rgI (szI (ns.take j ++ [s] ++ ns.drop (j + 1)))) = some l' := by
  obtain ⟨a, b, _, c⟩ := rf_all hs h
  have za := zip_at a hj
  refine rf_ex (rs := l.take j ++ [l.getD j 0 % s] ++ l.drop (j + 1)) (fun t ht => ?_) (by simp; omega) (fun p hp => ?_) fun n => ?_
  · rcases List.mem_append.mp ht with z | z
    · rcases List.mem_append.mp z with z | z
      · exact hs t (List.mem_of_mem_take z)
      · rw [List.mem_singleton] at z
        omega
    · exact hs t (List.mem_of_mem_drop z)
  · rw [zip_mid s _ a hj] at hp
    have old : ∀ p, p ∈ (ns.take j).zip (l.take j) ∨ p ∈ (ns.drop (j + 1)).zip (l.drop (j + 1)) → 0 ≤ p.2 ∧ p.2 < p.1 := fun p hp => by
      refine b p ?_
      rw [za]
      rcases hp with z | z
      · exact List.mem_append_left _ (List.mem_append_left _ z)
      · exact List.mem_append_right _ z
    rcases List.mem_append.mp hp with z | z
    · rcases List.mem_append.mp z with z | z
      · exact old p (.inl z)
      · rw [List.mem_singleton] at z
        subst z
        exact ⟨Int.emod_nonneg _ (by omega), Int.emod_lt_of_pos _ (by omega)⟩
    · exact old p (.inr z)
  · obtain ⟨p, hp, e⟩ := c n
    rw [zip_mid s _ a hj]
    rw [za] at hp
    rcases List.mem_append.mp hp with z | z
    · rcases List.mem_append.mp z with z | z
      · exact ⟨p, List.mem_append_left _ (List.mem_append_left _ z), e⟩
      · rw [List.mem_singleton] at z
        subst z
        refine ⟨(s, l.getD j 0 % s), List.mem_append_left _ (List.mem_append_right _ List.mem_cons_self), ?_⟩
        have e : n % ns.getD j 0 = l.getD j 0 := e
        show n % s = l.getD j 0 % s
        rw [← e, Int.emod_emod_of_dvd n hd]
    · exact ⟨p, List.mem_append_right _ z, e⟩
theorem rf_more {ns l : List Int} {s : Int} (hs : ∀ s ∈ ns, 1 ≤ s) (h : rfF (szI ns) ns (rgI (szI ns)) = some l) (h1 : 1 ≤ s) : ∃ l', rfF (szI (ns ++ [s])) (ns ++ [s]) (rgI (szI (ns ++ [s]))) = some l' := by
  obtain ⟨a, b, _, c⟩ := rf_all hs h
  have za : (ns ++ [s]).zip (l ++ [0]) = ns.zip l ++ [(s, 0)] := by rw [List.zip_append a.symm]; rfl
  refine rf_ex (rs := l ++ [0]) (fun t ht => ?_) (by simp; omega) (fun p hp => ?_) fun n => ?_
  · rcases List.mem_append.mp ht with z | z
    · exact hs t z
    · rw [List.mem_singleton] at z
      omega
  · rw [za] at hp
    rcases List.mem_append.mp hp with z | z
    · exact b p z
    · rw [List.mem_singleton] at z
      subst z
      exact ⟨Int.le_refl 0, by show (0 : Int) < s; omega⟩
  · obtain ⟨p, hp, e⟩ := c n
    rw [za]
    exact ⟨p, List.mem_append_left _ hp, e⟩
end Dl
end L2

/-! k45: the whole of rests and cases. -/
namespace L2
namespace Dl
open PySem PySem.Spec PyProof.Rows
local macro_rules | `(tactic| dsimp? [$xs,*] $[$l]?) => `(tactic| simp only [wSeq, wNext, wBreak, wCont, wDrop, wRet, wRetN, wIfS, wSet, wAsgT, e_aug, e_setIx, e_par, e_gN, getS_0, getS_s, setS_0, setS_s, e_var, varK_v, varK_o, varK_u, wC, wBin, rdK_v, rdK_t, rdK_s, rdS_v, rdS_o, rdS_u, fzK_v, fzK_t, fzK_s, fzS_v, fzS_o, fzS_l, fzS_u, e_fz, asg_v, asg_t, asg_s, e_tb, tbK_b, wAnd, wOr, wNot, e_notV, e_andV, e_orV, wBV, wIf, e_neg, intK_i, e_oso, wONo, e_rng1, e_rng2, wFNil, wFCons, wANil, wACons, wTup, wLst, e_callB, rdAllK_n, rdAllK_c, wIsi, e_call, wMNil, wMCons, e_ld, lnsOf, avsK_n, avsK_f, avsK_l, lnS_o, lnS_v, lnS_u, poK_n, poK_c, poS_o, inS_0, inS_s, rsK_v, rsK_o, wSl, e_ownF, e_own0, ownB_o, oS_o, oS_v, oS_u, agS_i, muApp, oAdd_i, oAdd_l, oAdd_t, oAdd_s, oSub_i, oMul_i, oFdiv_i, oMod_i, oPow_i, oShl_i, oShr_i, oOr_i, oAndB_i, oLt_i, oLe_i, oGt_i, oGe_i, oEq_i, oNe_i, oEq, oNe, oIx_l, oIx_t, oLen_l, oLen_t, oInt_i, oInt_b, oMax_i, oMin_i, oList_l, oList_t, oTuple_l, oTuple_t, oSorted_l, oSorted_t, oIs_n, oIsN_n, oIs_b, oIsN_b, isNone_n, isNone_t, isNone_l, isNone_i, isNone_s, isNone_b, oSl_l, oSl_t, oIn, gT_t, gC_c, gNil', e_iseq, sqK_l, sqK_t, e_isq, sq2K_l, sq2K_t, e_sset, ssK_l, ssK_t, e_chain, e_lr1, e_lr2, wRev, rvD_l, rvD_t, e_in1, e_in2, negB_f, negB_t, wIZip, zpK_l, zpK_t, zpK_m, e_extend, extR_t, wYes, startEv, kenD_nx, kenD_rt, kenD_bk, kenD_ct, kenD_ex, outK_n, outK_c, otS_o, rvK_v, rvK_t, rvK_s, rvS_v, rvS_o, slOf, lsFrom, wipeE, restE, List.map_cons, List.map_nil, List.length_cons, List.length_nil, List.replicate, List.append_nil, List.cons_append, List.nil_append, List.getElem?_cons_zero, List.getElem?_cons_succ, List.getElem?_nil, List.set_cons_zero, List.set_cons_succ, List.set_nil, Option.getD_some, Option.getD_none, Option.map_some, Option.map_none, Option.some.injEq, Rs.val.injEq, Rs.tmp.injEq, Rs.slot.injEq, Sl.own.injEq, Sl.val.injEq, PyData.int.injEq, PyData.bool.injEq, PyData.str.injEq, PyData.list.injEq, PyData.tuple.injEq, Prod.mk.injEq, Nat.sub_self, Nat.zero_add, Nat.reduceAdd, Nat.reduceSub, Nat.add_zero, isTy_int_int, isTy_bool_int, isTy_int_bool, isTy_bool_bool, isTy_int_tup, isTy_int_lst, isTy_int_non, isTy_int_str, isTy_tup_tup, isTy_tup_lst, isTy_tup_int, isTy_tup_bool, isTy_tup_non, isTy_tup_str, isTy_lst_lst, isTy_lst_tup, isTy_lst_int, exists_eq_left', exists_eq_left, exists_and_left, exists_eq_right, exists_eq, exists_eq', exists_const, true_and, and_true, and_self, Bool.not_true, Bool.not_false, if_true, if_false, Bool.false_eq_true, reduceIte, reduceCtorEq, List.nodup_nil, decide_eq_true_eq, atI_0, atI_1, atI_2, atI_3, atI_4, atI_5, atI_6, atI_7, atI_8, atI_9, atI_10, atI_11, ixN_3_0, ixN_3_1, ixN_3_2, sh_int, sh_bool, sh_non, and_assoc, nd1, nd_true, eq_self, decide_true, decide_false, Int.cast_ofNat_Int, not_true_eq_false, not_false_eq_true, eqv_ii, eqv_bb, wRaise0, e_raiseG, grK_i, e_raise1, onK_i, e_callX, xa_1, xa_2, xa_3, xa_4, xa_5, xa_6, xa_7, e_many, e_most, e_number, e_row, isLst_l, lsK_l, e_rd, e_br, brS_o, brS_v, arS_o, arS_v, avbK_n, avbK_f, avbK_l, scK_b, scK_i, scK_n, scK_s, e_callS, tmK_t, e_rep, enK_l, e_ienum, wTry, eqv_ss, tpK_v, txK_1, tutK_t, e_repT, e_callT, enTK_t, e_ienumT, r3K_i, e_rng3, e_newD, e_putD, e_lenD, e_listD, dcS_d, dcB_d, pvK_b, pvK_i, tkK_m, tkK_2, e_ssetI, oMinL_c, e_lset, e_lstZ, zlK_c, e_ins, $xs,*] $[$l]?)
theorem prI_rev : ∀ ns : List Int, prI ns.reverse = prI ns
  | [] => rfl
  | s :: ns => by
    rw [List.reverse_cons, prI_app, prI_rev ns, prI_cons, prI_cons, show prI [] = 1 from rfl, Int.mul_one, Int.mul_comm]
/-- what divides it, from 2 -/
def esF (S : Int) : List Int := ((List.range (S + 1 - 2).toNat).filter fun (m : Nat) => decide (S % (2 + (m : Int)) = 0)).map fun (m : Nat) => 2 + (m : Int)
theorem es_in {S : Int} : ∀ s ∈ esF S, 2 ≤ s ∧ s ∣ S := fun s hs => by
  obtain ⟨m, hm, rfl⟩ := List.mem_map.mp hs
  obtain ⟨m1, m2⟩ := List.mem_filter.mp hm
  exact ⟨by omega, Int.dvd_of_emod_eq_zero (of_decide_eq_true m2)⟩
theorem es_pos {S : Int} (h : 2 ≤ S) : 0 < (esF S).length := by
  refine List.length_pos_of_mem (a := S) (List.mem_map.mpr ⟨(S - 2).toNat, List.mem_filter.mpr ⟨List.mem_range.mpr (by omega), decide_eq_true ?_⟩, by omega⟩)
  rw [show (2 : Int) + ((S - 2).toNat : Int) = S by omega, Int.emod_self]
theorem es_le {S : Int} (h : S ≤ 24) : (esF S).length ≤ 1000 := by
  unfold esF
  rw [List.length_map]
  refine Nat.le_trans (List.length_filter_le _ _) ?_
  rw [List.length_range]
  omega
def sp__law_rests_right : Spc := fun avs Kr Kx => match avs with
  | [.own pn, .val (.list xs), .val (.tuple ys)] => ∃ ns l : List Int, pen3 pn ∧ xs = ns.map .int ∧ ys = l.map .int ∧ 1 ≤ ns.length ∧ ns.length ≤ 5 ∧ (∀ s ∈ ns, Stp7 s) ∧ rfF (szI ns) ns (rgI (szI ns)) = some l ∧ ∀ pn', pen3 pn' → Kr [pn'] (.val (.bool true))
  | _ => False
def w__law_rests_right_C1 : WE :=
  wLc [7] (wIRng2 (wC (.int 2)) (wBin oAdd (wBin oIx (wVar 1) (wVar 4)) (wC (.int 1)))) (gN 7) (wTB (wBin oEq (wBin oMod (wBin oIx (wVar 1) (wVar 4)) (wVar 7)) (wC (.int 0)))) (wVar 7)
/-- _law_rests_right: 0 pen, 1 steps, 2 rests, 3 clocks, 4 spot, 5 easy, 6 other, 7 step -/
def w__law_rests_right : WS :=
  (wSeq (wIfS (wNot (wTB (wCall 2 sp_rests_good (wMCons (wCallB oList (wACons (wVar 1) wANil)) (wMCons (wVar 2) wMNil))))) (wRet (wC (.bool false))) wNext)
    (wSeq (wSet 3 (wCall 1 sp_clocks_of (wMCons (wSortSet ((wLstZ (wFCons (wVar 1) (wFCons (wVar 2) wFNil))))) wMNil)))
    (wSeq (wIfS (wOr (wNot (wTB (wCall 1 sp_covers (wMCons (wVar 3) wMNil)))) (wAnd (wTB (wBin oEq (wCall 1 sp_steps_share (wMCons (wCallB oList (wACons (wVar 1) wANil)) wMNil)) (wTup (wFCons (wC (.int 1)) (wFCons (wC (.int 1)) wFNil))))) (wNot (wTB (wCall 1 sp_exact_good (wMCons (wVar 3) wMNil)))))) (wRet (wC (.bool false))) wNext)
    (wSeq (wSet 4 (wCall 2 sp__law_draw (wLd 0 (wMCons (wCallB oLen (wACons (wVar 1) wANil)) wMNil))))
    (wSeq (wSet 5 w__law_rests_right_C1)
    (wSeq (wSet 6 (wBin oAdd (wBin oAdd (wSl (wVar 1) wONo (wOSo (wVar 4))) (wLst (wFCons (wBin oIx (wVar 5) (wCall 2 sp__law_draw (wLd 0 (wMCons (wCallB oLen (wACons (wVar 5) wANil)) wMNil)))) wFNil))) (wSl (wVar 1) (wOSo (wBin oAdd (wVar 4) (wC (.int 1)))) wONo)))
    (wRet ((wAndV (wBin oIsNot (wCall 1 sp_rests_for (wMCons (wVar 6) wMNil)) (wC .none)) (wBin oIsNot (wCall 1 sp_rests_for (wMCons (wBin oAdd (wSl (wVar 1) wONo (wOSo (wC (.int 5)))) (wLst (wFCons (wC (.int 5)) wFNil))) wMNil)) (wC .none)))))))))))

theorem vc__law_rests_right : ∀ avs Kr Kx, avs.length = 3 → sp__law_rests_right avs Kr Kx → lsFrom 0 avs = [0] ∧ w__law_rests_right (startEv 8 avs) (kenD [0] Kr Kx) := by
  intro avs Kr Kx hl h
  unfold sp__law_rests_right at h
  split at h
  · rename_i pn xs ys
    obtain ⟨ns, l, hp, rfl, rfl, h1, h5, h7, ho, q⟩ := h
    refine ⟨rfl, ?_⟩
    have hs : ∀ s ∈ ns, 2 ≤ s ∧ s ≤ 24 := fun s h => ⟨(h7 s h).1, (h7 s h).2.1⟩
    have hs1 : ∀ s ∈ ns, 1 ≤ s := fun s h => by have := hs s h; omega
    have h6 : ns.length ≤ 6 := by omega
    have hL := stL_of h6 hs
    have z7 := szI_720 h7
    obtain ⟨a, b, c, d⟩ := rf_all hs1 ho
    have ok := zip_ok hL.1 b
    have zr := zip_rnd a
    have zl : (ns.zip l).length ≤ 5 := by rw [List.length_zip]; omega
    have gz : GC (ns.zip l) := ⟨ok, by omega⟩
    have cz : Cov (ns.zip l) := fun x => by
      obtain ⟨p, hp, e⟩ := d x
      have o := ok p hp
      exact ⟨p, hp, (Rg_mod o.2.2.1 o.2.2.2).mpr e⟩
    have oo : ∀ c ∈ ordC (ns.zip l), CkOk 1000 c := fun c h => ok c (mem_ordC.mp h)
    have ol := ordC_len (ns.zip l)
    have go : GC (ordC (ns.zip l)) := ⟨oo, by omega⟩
    have ro : rnd 1 (ordC (ns.zip l)) = szI ns := by
      rw [← zr]
      exact rnd_eq go.one gz.one (fun c h => ⟨c, mem_ordC.mp h, rfl⟩) fun c h => ⟨c, mem_ordC.mpr h, rfl⟩
    have mo : msF (ordC (ns.zip l)) = [] := (ms_iff go).mpr (cov_ord.mpr cz)
    unfold w__law_rests_right
    refine seq_cut fun R hR => ?_
    dsimp? [sp_rests_good]
    refine StK.good h1 h6 hs ⟨fun h => by omega, fun _ => ?_⟩
    rw [rg_yes a b, c, if_neg (by decide)]
    refine hR _ ?_
    refine seq_cut fun R hR => ?_
    dsimp? [zip_cks, sp_clocks_of, List.length_map]
    refine ⟨small100000 (by omega), ?_⟩
    refine ordC_ss (m := 1000) (by decide) ok (by omega) ?_
    dsimp? []
    refine ⟨_, rfl, oo, by omega, clt_ordC _, hR _ ?_⟩
    refine seq_cut fun R hR => ?_
    dsimp? [sp_covers, sp_steps_share, sp_exact_good]
    refine ⟨_, rfl, go, fun _ => ?_, fun h => by omega⟩
    rw [if_neg (fun h => h mo)]
    have tail : R [.own true pn, .val (.list (ns.map .int)), .val (.tuple (l.map .int)), .val (.tuple (cks (ordC (ns.zip l)))), .un, .un, .un, .un] := by
      refine hR _ ?_
      refine seq_cut fun R hR => ?_
      dsimp? [sp__law_draw, List.length_map]
      refine ⟨hp, by omega, log_small (by omega) (by omega), fun p1 j hp1 j0 j1 => hR _ ?_⟩
      obtain ⟨j, rfl⟩ := Int.eq_ofNat_of_zero_le j0
      have hj : j < ns.length := by omega
      have at1 := atI_ns (ns := ns) (i := j) hj
      have sj := h7 (ns.getD j 0) (by rw [List.getD_eq_getElem?_getD, List.getElem?_eq_getElem hj]; exact List.getElem_mem _)
      obtain ⟨sj1, sj2, sj3⟩ := sj
      refine seq_cut fun R hR => ?_
      dsimp? [w__law_rests_right_C1, wLc, at1]
      generalize hS : ns.getD j 0 = S at *
      refine ⟨by decide, by decide, by omega, by omega, ?_⟩
      refine lc_fl (fun (m : Nat) => PyData.int (2 + (m : Int))) (fun (m : Nat) => decide (S % (2 + (m : Int)) = 0)) (List.range (S + 1 - 2).toNat) (by rw [List.length_range]; omega) (fun m hm A N hA => ?_) ?_
      · dsimp? [at1]
        refine ⟨by omega, ?_⟩
        by_cases z : S % (2 + (m : Int)) = 0
        · rw [if_pos z]
          rw [if_pos (decide_eq_true z)] at hA
          exact hA
        · rw [if_neg z]
          rw [if_neg (by rw [decide_eq_false z]; decide)] at hA
          exact hA
      rw [show (((List.range (S + 1 - 2).toNat).filter fun (m : Nat) => decide (S % (2 + (m : Int)) = 0)).map fun (m : Nat) => PyData.int (2 + (m : Int))) = (esF S).map .int by unfold esF; rw [List.map_map]; rfl]
      have eE := es_in (S := S)
      have eL := es_pos sj1
      have eM := es_le sj2
      generalize esF S = E at *
      dsimp? []
      refine hR _ ?_
      refine seq_cut fun R hR => ?_
      dsimp? [sp__law_draw, List.length_map]
      refine ⟨hp1, by omega, log_small (by omega) (by omega), fun p2 k hp2 k0 k1 => ?_⟩
      obtain ⟨t, ht, et⟩ := atI_mem (ns := E) k0 k1
      obtain ⟨t2, td⟩ := eE t ht
      have t24 : t ≤ 24 := Int.le_trans (Int.le_of_dvd (by omega) td) sj2
      have e1 : cutD (ns.map PyData.int) none (some (j : Int)) = (ns.take j).map .int := by rw [cut_to _ (by rw [List.length_map]; omega), List.map_take]
      have e2 : cutD (ns.map PyData.int) (some ((j : Int) + 1)) none = (ns.drop (j + 1)).map .int := by rw [show (j : Int) + 1 = ((j + 1 : Nat) : Int) by omega, cut_from _ (by rw [List.length_map]; omega), List.map_drop]
      have e3 : (ns.take j).map PyData.int ++ [PyData.int t] ++ (ns.drop (j + 1)).map .int = (ns.take j ++ [t] ++ ns.drop (j + 1)).map .int := by rw [List.map_append, List.map_append]; rfl
      have l1 : ((ns.take j).map PyData.int).length ≤ 6 := by rw [List.length_map, List.length_take]; omega
      have l2 : ((ns.drop (j + 1)).map PyData.int).length ≤ 6 := by rw [List.length_map, List.length_drop]; omega
      refine ⟨.int t, et, by decide, by rw [e1, sizeLine_eq]; omega, by rw [e1, e2, List.length_append, sizeLine_eq, List.length_singleton]; omega, hR _ ?_⟩
      rw [e1, e2, e3]
      have o7 : ∀ s ∈ ns.take j ++ [t] ++ ns.drop (j + 1), Stp7 s := fun s hs => by
        rcases List.mem_append.mp hs with z | z
        · rcases List.mem_append.mp z with z | z
          · exact h7 s (List.mem_of_mem_take z)
          · rw [List.mem_singleton] at z
            subst z
            exact ⟨t2, t24, Int.dvd_trans td sj3⟩
        · exact h7 s (List.mem_of_mem_drop z)
      have ol1 : (ns.take j ++ [t] ++ ns.drop (j + 1)).length = ns.length := by simp; omega
      obtain ⟨la, ha⟩ := rf_mid (s := t) hs1 ho hj (by omega) (by rw [hS]; exact td)
      have m7 : ∀ s ∈ ns ++ [5], Stp7 s := fun s hs => by
        rcases List.mem_append.mp hs with z | z
        · exact h7 s z
        · rw [List.mem_singleton] at z
          subst z
          exact ⟨by decide, by decide, by decide⟩
      obtain ⟨lb, hb⟩ := rf_more (s := 5) hs1 ho (by decide)
      have oz := szI_720 o7
      have mz := szI_720 m7
      have e4 : cutD (ns.map PyData.int) none (some 5) = ns.map .int := by rw [show (5 : Int) = ((5 : Nat) : Int) from rfl, cut_toN, List.take_of_length_le (by rw [List.length_map]; omega)]
      generalize ns.take j ++ [t] ++ ns.drop (j + 1) = ot at *
      dsimp? [sp_rests_for, List.length_map, e4]
      refine StK.good (by omega) (by omega) (fun s h => ⟨(o7 s h).1, (o7 s h).2.1⟩) ⟨fun h => by omega, fun _ => ?_⟩
      rw [ha]
      dsimp? [optT]
      refine ⟨by decide, by rw [sizeLine_eq]; omega, ?_⟩
      rw [show ns.map PyData.int ++ [.int 5] = (ns ++ [5]).map .int by rw [List.map_append]; rfl]
      refine StK.good (by simp) (by simp; omega) (fun s h => ⟨(m7 s h).1, (m7 s h).2.1⟩) ⟨fun h => by omega, fun _ => ?_⟩
      rw [hb]
      exact q _ hp2
    refine StK.good h1 h6 hs ⟨by decide, sh_pr _ _, sh_pr _ _, ?_⟩
    split
    · rename_i he
      have e12 := (share_one (cs := st0 ns) (szI_pos hs1)).mp (pr_eqv he)
      have one := (cov_sumS gz cz).2 (by rw [zr, sum_zip _ a]; exact e12)
      refine ⟨_, rfl, go, ?_⟩
      rw [(exB_one go).mpr (One.perm one (ordC_perm (one.nodup ok)).symm), if_neg (by decide)]
      exact tail
    · exact tail
  · exact h.elim
def sp__law_right_k45 : Spc := fun avs Kr Kx => match avs with
  | [.own pn, .val (.list xs)] => ∃ ns : List Int, pen3 pn ∧ xs = ns.map .int ∧ 1 ≤ ns.length ∧ ns.length ≤ 5 ∧ (∀ s ∈ ns, Stp7 s) ∧ ∀ pn', pen3 pn' → Kr [pn'] (.val (.bool true))
  | _ => False
def w__law_right_k45_R1 : WS :=
  (wRet ((wOrV (wBin oIs (wVar 2) (wC .none)) (wCall 3 sp__law_rests_right (wLd 0 (wMCons (wVar 1) (wMCons (wVar 2) wMNil)))))))
/-- _law_right: 0 pen, 1 steps, 2 rests, 3 paper, 4 top, 5 bottom, 6 many -/
def w__law_right_k45 : WS :=
  (wSeq (wSet 2 (wCall 1 sp_rests_for (wMCons (wCallB oList (wACons (wVar 1) wANil)) wMNil)))
    (wSeq (wSet 3 (wCall 1 sp_cases_for (wMCons (wCallB oList (wACons (wVar 1) wANil)) wMNil)))
    (wSeq (wIfS (wOr (wTB (wBin oNe (wBin oIs (wVar 2) (wC .none)) (wBin oIsNot (wVar 3) (wC .none)))) (wAnd (wTB (wBin oIsNot (wVar 3) (wC .none))) (wNot (wTB (wCall 2 sp_cases_good (wMCons (wCallB oList (wACons (wVar 1) wANil)) (wMCons (wVar 3) wMNil))))))) (wRet (wC (.bool false))) wNext)
    (wSeq (wAsgT (wCall 1 sp_steps_share (wMCons (wCallB oList (wACons (wVar 1) wANil)) wMNil)) (gT 2 (gCons' (gN 4) (gCons' (gN 5) gNil'))))
    (wSeq (wIfS (wAnd (wTB (wBin oLt (wVar 4) (wVar 5))) (wTB (wBin oIsNot (wVar 2) (wC .none)))) (wRet (wC (.bool false))) wNext)
    (wSeq (wIfS (wTB (wBin oLt (wCall 1 sp__law_product (wMCons (wVar 1) wMNil)) (wC (.int 500)))) (wSeq (wSet 6 (wCall 1 sp_rests_many (wMCons (wCallB oList (wACons (wVar 1) wANil)) wMNil)))
    (wIfS (wOr (wTB (wBin oNe (wCall 1 sp_rests_many (wMCons (wRev (wVar 1)) wMNil)) (wVar 6))) (wTB (wBin oNe (wBin oGt (wVar 6) (wC (.int 0))) (wBin oIsNot (wVar 2) (wC .none))))) (wRet (wC (.bool false))) wNext)) wNext)
    w__law_right_k45_R1))))))

theorem vc__law_right_k45 : ∀ avs Kr Kx, avs.length = 2 → sp__law_right_k45 avs Kr Kx → lsFrom 0 avs = [0] ∧ w__law_right_k45 (startEv 7 avs) (kenD [0] Kr Kx) := by
  intro avs Kr Kx hl h
  unfold sp__law_right_k45 at h
  split at h
  · rename_i pn xs
    obtain ⟨ns, hp, rfl, h1, h5, h7, q⟩ := h
    refine ⟨rfl, ?_⟩
    have hs : ∀ s ∈ ns, 2 ≤ s ∧ s ≤ 24 := fun s h => ⟨(h7 s h).1, (h7 s h).2.1⟩
    have hs1 : ∀ s ∈ ns, 1 ≤ s := fun s h => by have := hs s h; omega
    have h6 : ns.length ≤ 6 := by omega
    have hL := stL_of h6 hs
    have z7 := szI_720 h7
    unfold w__law_right_k45
    refine seq_cut fun R hR => ?_
    dsimp? [sp_rests_for]
    refine StK.good h1 h6 hs ⟨fun h => by omega, fun _ => hR _ ?_⟩
    refine seq_cut fun R hR => ?_
    dsimp? [sp_cases_for]
    refine StK.good h1 h6 hs ⟨fun h => by omega, fun _ => hR _ ?_⟩
    refine seq_cut fun R hR => ?_
    dsimp? [sp_cases_good]
    have nxt : R [.own true pn, .val (.list (ns.map .int)), .val (optT (rfF (szI ns) ns (rgI (szI ns)))), .val (cdD ns), .un, .un, .un] := by
      refine hR _ ?_
      refine seq_cut fun R hR => ?_
      dsimp? [sp_steps_share]
      refine StK.good h1 h6 hs ?_
      dsimp? [ck]
      refine hR _ ?_
      refine seq_cut fun R hR => ?_
      dsimp? []
      have g0 : 0 < topG (st0 ns) := by
        have z0 := szI_pos hs1
        have := Int.gcd_pos_of_ne_zero_left (sumS (rnd 1 (st0 ns)) (st0 ns)) (show rnd 1 (st0 ns) ≠ 0 by show szI ns ≠ 0; omega)
        unfold topG
        omega
      have le : ∀ l, rfF (szI ns) ns (rgI (szI ns)) = some l → rnd 1 (st0 ns) / topG (st0 ns) ≤ sumS (rnd 1 (st0 ns)) (st0 ns) / topG (st0 ns) := fun l ho => by
        obtain ⟨a, b, c, d⟩ := rf_all hs1 ho
        have ok := zip_ok hL.1 b
        have gz : GC (ns.zip l) := ⟨ok, by rw [List.length_zip]; omega⟩
        have cz : Cov (ns.zip l) := fun x => by
          obtain ⟨p, hp, e⟩ := d x
          have o := ok p hp
          exact ⟨p, hp, (Rg_mod o.2.2.1 o.2.2.2).mpr e⟩
        have := (cov_sumS gz cz).1
        rw [zip_rnd a, sum_zip _ a] at this
        exact Int.ediv_le_ediv g0 this
      generalize sumS (rnd 1 (st0 ns)) (st0 ns) / topG (st0 ns) = T at *
      generalize rnd 1 (st0 ns) / topG (st0 ns) = B at *
      have rp := rm_pos hs1
      have rv := rm_rev hs1
      generalize hO : rfF (szI ns) ns (rgI (szI ns)) = o at *
      suffices fin : R [.own true pn, .val (.list (ns.map .int)), .val (optT o), .val (cdD ns), .val (.int T), .val (.int B), .un] by
        split
        · rename_i hlt
          split
          · rename_i hn
            cases o with
            | none => cases hn
            | some l =>
              have := le l rfl
              omega
          · exact fin
        · exact fin
      refine hR _ ?_
      refine seq_cut fun R hR => ?_
      dsimp? [sp__law_product]
      refine ⟨ns, rfl, hL, ?_⟩
      have pb : prI ns < 500 ∨ 500 ≤ prI ns := by omega
      have last : ∀ x6, R [.own true pn, .val (.list (ns.map .int)), .val (optT o), .val (cdD ns), .val (.int T), .val (.int B), x6] := fun x6 => by
        refine hR _ ?_
        dsimp? [w__law_right_k45_R1]
        cases o with
        | none => exact q _ hp
        | some l =>
          dsimp? [optT, sp__law_rests_right]
          exact ⟨hp, ns, rfl, l, rfl, h1, h5, h7, hO, q⟩
      split
      · rename_i hlt
        dsimp? [sp_rests_many]
        refine StK.good h1 h6 hs ⟨fun h => by omega, fun _ => ?_⟩
        rw [← List.map_reverse]
        have pr := prI_rev ns
        refine StK.good (by rw [List.length_reverse]; exact h1) (by rw [List.length_reverse]; exact h6) (fun s h => hs s (List.mem_reverse.mp h)) ⟨fun h => by omega, fun _ => ?_⟩
        rw [rv, if_neg (fun h => h rfl)]
        have en : decide ((0 : Int) < ((rmN ns : Nat) : Int)) = !isNone (optT o) := by
          cases o with
          | none =>
            refine decide_eq_false fun h => ?_
            obtain ⟨l, hl⟩ := rp.mp (by omega)
            cases hl
          | some l =>
            have := rp.mpr ⟨l, rfl⟩
            exact decide_eq_true (by omega)
        rw [en, if_neg (by simp)]
        exact last _
      · exact last _
    cases ho : rfF (szI ns) ns (rgI (szI ns)) with
    | some l =>
      rw [ho] at nxt
      have e : cdD ns = .none := by unfold cdD; rw [ho]
      rw [e] at nxt ⊢
      exact nxt
    | none =>
      rw [ho] at nxt
      have e : cdD ns = cfF (szI ns).toNat ns 9 (List.replicate ns.length none) := by unfold cdD; rw [ho]
      have hp' : ∀ s ∈ ns, 0 < s := fun s h => by have := hs s h; omega
      have hg : cdB 9 ns (List.replicate ns.length none) (cdD ns) = true := by
        rw [e]
        exact cfF_good hp' 8 _ List.length_replicate.symm (by rw [nC_rep]; omega) (ksIn_rep _ _) (noCv_of (fun s h => hp' s h) ho _)
      have hn : isNone (cdD ns) = false := by
        rw [e]
        rfl
      rw [hn, if_neg (by decide), if_pos (by decide)]
      refine StK.good h1 h6 hs ?_
      rw [hg, if_neg (by decide)]
      exact nxt
  · exact h.elim
def sp_law_k45 : Spc := spLaw
def w_law_k45_B1 : WS :=
  (wSeq (wSet 2 (wCall 1 sp__law_pen_of (wMCons (wVar 1) wMNil)))
    (wIfS (wNot (wTB (wCall 2 sp__law_right_k45 (wLd 2 (wMCons (wSl (wCall 1 sp__law_steps_of (wLd 2 wMNil)) wONo (wOSo (wC (.int 5)))) wMNil))))) (wRet (wC (.bool false))) wNext))
def w_law_k45_L1 : WS :=
  wFor (wISeq (wBin oAdd (wLst (wFCons (wCall 2 sp__law_cell_at (wMCons (wVar 0) (wMCons (wC (.int 0)) wMNil))) wFNil)) (wSl (wVar 0) (wOSo (wC (.int 1))) (wOSo (wC (.int 4)))))) (gN 1) w_law_k45_B1
def w_law_k45_R1 : WS :=
  (wRet (wC (.bool true)))
/-- law: 0 script, 1 cell, 2 pen -/
def w_law_k45 : WS :=
  (wSeq w_law_k45_L1
    w_law_k45_R1)

theorem vc_law_k45 : ∀ avs Kr Kx, avs.length = 1 → sp_law_k45 avs Kr Kx → lsFrom 0 avs = [] ∧ w_law_k45 (startEv 3 avs) (kenD [] Kr Kx) := by
  rintro avs Kr Kx hl ⟨ns, rfl, hn, q⟩
  refine ⟨rfl, ?_⟩
  dsimp? [w_law_k45, w_law_k45_L1, wFor, sp__law_cell_at]
  refine ⟨⟨ns, rfl⟩, by decide, fun n => ⟨by decide, cells_len hn, ?_⟩⟩
  refine each_ints (fun e => ∃ x1 x2, e = [Sl.val (PyData.list (ns.map PyData.int)), x1, x2]) ?_ ?_ _ _ cells_ints ⟨_, _, rfl⟩
  · rintro e ⟨x1, x2, rfl⟩
    dsimp? [w_law_k45_R1]
    exact q
  rintro m e R ⟨x1, x2, rfl⟩ ih
  unfold w_law_k45_B1
  refine seq_cut fun R2 hR2 => ?_
  dsimp? [sp__law_pen_of]
  refine fun pen hp => hR2 _ ?_
  dsimp? [sp__law_steps_of, sp__law_right_k45]
  refine ⟨hp, fun p1 ss hp1 s1 s6 hss => ?_⟩
  rw [show (5 : Int) = ((5 : Nat) : Int) from rfl, cut_toN, ← List.map_take]
  refine ⟨hp1, ss.take 5, rfl, by rw [List.length_take]; omega, by rw [List.length_take]; omega, fun s h => hss s (List.mem_of_mem_take h), fun p2 hp2 => ?_⟩
  exact ih _ ⟨_, _, rfl⟩
end Dl
end L2

namespace L2
namespace Dl
namespace K45
open PySem PySem.Spec PyProof.Rows L2H
def topS (i : Nat) : Stmt := PySem.Challenge.pw_coverclocks_k45_whole_rests_and_cases.main.body.getD i (.Pass ⟨0, 0, 0, 0⟩)
abbrev s_is_whole : Stmt := topS 9
abbrev N_is_whole : List Str := ["thing"]
theorem sc_is_whole : FnScope N_is_whole ["thing"] (defScope s_is_whole) := ⟨rfl, rfl, rfl, by decide +kernel, rfl, by decide +kernel, by decide +kernel⟩
abbrev s_clock_good : Stmt := topS 10
abbrev N_clock_good : List Str := ["thing"]
theorem sc_clock_good : FnScope N_clock_good ["thing"] (defScope s_clock_good) := ⟨rfl, rfl, rfl, by decide +kernel, rfl, by decide +kernel, by decide +kernel⟩
abbrev s_clocks_of : Stmt := topS 11
abbrev N_clocks_of : List Str := ["things", "found", "number", "thing"]
theorem sc_clocks_of : FnScope N_clocks_of ["things"] (defScope s_clocks_of) := ⟨rfl, rfl, rfl, by decide +kernel, rfl, by decide +kernel, by decide +kernel⟩
abbrev s_rings : Stmt := topS 12
abbrev N_rings : List Str := ["clock", "number"]
theorem sc_rings : FnScope N_rings ["clock", "number"] (defScope s_rings) := ⟨rfl, rfl, rfl, by decide +kernel, rfl, by decide +kernel, by decide +kernel⟩
abbrev s_rings_at : Stmt := topS 13
abbrev N_rings_at : List Str := ["clocks", "number", "clock"]
theorem sc_rings_at : FnScope N_rings_at ["clocks", "number"] (defScope s_rings_at) := ⟨rfl, rfl, rfl, by decide +kernel, rfl, by decide +kernel, by decide +kernel⟩
abbrev s_divisor_of : Stmt := topS 14
abbrev N_divisor_of : List Str := ["one", "other"]
theorem sc_divisor_of : FnScope N_divisor_of ["one", "other"] (defScope s_divisor_of) := ⟨rfl, rfl, rfl, by decide +kernel, rfl, by decide +kernel, by decide +kernel⟩
abbrev s_round_of : Stmt := topS 15
abbrev N_round_of : List Str := ["clocks", "found", "step", "rest"]
theorem sc_round_of : FnScope N_round_of ["clocks"] (defScope s_round_of) := ⟨rfl, rfl, rfl, by decide +kernel, rfl, by decide +kernel, by decide +kernel⟩
abbrev s_check_round : Stmt := topS 16
abbrev N_check_round : List Str := ["clocks"]
theorem sc_check_round : FnScope N_check_round ["clocks"] (defScope s_check_round) := ⟨rfl, rfl, rfl, by decide +kernel, rfl, by decide +kernel, by decide +kernel⟩
abbrev s_back_of : Stmt := topS 17
abbrev N_back_of : List Str := ["one", "other", "before", "now", "left", "right", "often"]
theorem sc_back_of : FnScope N_back_of ["one", "other"] (defScope s_back_of) := ⟨rfl, rfl, rfl, by decide +kernel, rfl, by decide +kernel, by decide +kernel⟩
abbrev s_meet_of : Stmt := topS 18
abbrev N_meet_of : List Str := ["one", "other", "share", "step", "turns"]
theorem sc_meet_of : FnScope N_meet_of ["one", "other"] (defScope s_meet_of) := ⟨rfl, rfl, rfl, by decide +kernel, rfl, by decide +kernel, by decide +kernel⟩
abbrev s_mark_of : Stmt := topS 20
abbrev N_mark_of : List Str := ["clock", "size"]
theorem sc_mark_of : FnScope N_mark_of ["clock", "size"] (defScope s_mark_of) := ⟨rfl, rfl, rfl, by decide +kernel, rfl, by decide +kernel, by decide +kernel⟩
abbrev s_shares_of : Stmt := topS 22
abbrev N_shares_of : List Str := ["clocks", "bottom", "top", "share", "step", "rest"]
theorem sc_shares_of : FnScope N_shares_of ["clocks"] (defScope s_shares_of) := ⟨rfl, rfl, rfl, by decide +kernel, rfl, by decide +kernel, by decide +kernel⟩
abbrev s_clash_of : Stmt := topS 23
abbrev N_clash_of : List Str := ["clocks", "place", "other", "met"]
theorem sc_clash_of : FnScope N_clash_of ["clocks"] (defScope s_clash_of) := ⟨rfl, rfl, rfl, by decide +kernel, rfl, by decide +kernel, by decide +kernel⟩
abbrev s_exact_good : Stmt := topS 24
abbrev N_exact_good : List Str := ["clocks"]
theorem sc_exact_good : FnScope N_exact_good ["clocks"] (defScope s_exact_good) := ⟨rfl, rfl, rfl, by decide +kernel, rfl, by decide +kernel, by decide +kernel⟩
abbrev s_check_steps : Stmt := topS 29
abbrev N_check_steps : List Str := ["thing", "step"]
theorem sc_check_steps : FnScope N_check_steps ["thing"] (defScope s_check_steps) := ⟨rfl, rfl, rfl, by decide +kernel, rfl, by decide +kernel, by decide +kernel⟩
abbrev s_size_of : Stmt := topS 30
abbrev N_size_of : List Str := ["steps", "step"]
theorem sc_size_of : FnScope N_size_of ["steps"] (defScope s_size_of) := ⟨rfl, rfl, rfl, by decide +kernel, rfl, by decide +kernel, by decide +kernel⟩
abbrev s_check_size : Stmt := topS 31
abbrev N_check_size : List Str := ["steps"]
theorem sc_check_size : FnScope N_check_size ["steps"] (defScope s_check_size) := ⟨rfl, rfl, rfl, by decide +kernel, rfl, by decide +kernel, by decide +kernel⟩
abbrev s_marks_by : Stmt := topS 32
abbrev N_marks_by : List Str := ["steps", "rests", "size", "found", "step", "rest"]
theorem sc_marks_by : FnScope N_marks_by ["steps", "rests", "size"] (defScope s_marks_by) := ⟨rfl, rfl, rfl, by decide +kernel, rfl, by decide +kernel, by decide +kernel⟩
abbrev s_are_rests : Stmt := topS 33
abbrev N_are_rests : List Str := ["steps", "thing", "step", "rest"]
theorem sc_are_rests : FnScope N_are_rests ["steps", "thing"] (defScope s_are_rests) := ⟨rfl, rfl, rfl, by decide +kernel, rfl, by decide +kernel, by decide +kernel⟩
abbrev s_rests_good : Stmt := topS 34
abbrev N_rests_good : List Str := ["steps", "thing", "size"]
theorem sc_rests_good : FnScope N_rests_good ["steps", "thing"] (defScope s_rests_good) := ⟨rfl, rfl, rfl, by decide +kernel, rfl, by decide +kernel, by decide +kernel⟩
abbrev s_rests_from : Stmt := topS 35
abbrev N_rests_from : List Str := ["steps", "size", "begun", "left", "step", "rest", "more", "found", "number"]
theorem sc_rests_from : FnScope N_rests_from ["steps", "size", "begun", "left"] (defScope s_rests_from) := ⟨rfl, rfl, rfl, by decide +kernel, rfl, by decide +kernel, by decide +kernel⟩
abbrev s_rests_for : Stmt := topS 36
abbrev N_rests_for : List Str := ["steps", "size"]
theorem sc_rests_for : FnScope N_rests_for ["steps"] (defScope s_rests_for) := ⟨rfl, rfl, rfl, by decide +kernel, rfl, by decide +kernel, by decide +kernel⟩
abbrev s_rests_many : Stmt := topS 37
abbrev N_rests_many : List Str := ["steps", "product", "step", "size", "marks", "longer", "mark", "rest"]
theorem sc_rests_many : FnScope N_rests_many ["steps"] (defScope s_rests_many) := ⟨rfl, rfl, rfl, by decide +kernel, rfl, by decide +kernel, by decide +kernel⟩
abbrev s_steps_share : Stmt := topS 38
abbrev N_steps_share : List Str := ["steps", "step"]
theorem sc_steps_share : FnScope N_steps_share ["steps"] (defScope s_steps_share) := ⟨rfl, rfl, rfl, by decide +kernel, rfl, by decide +kernel, by decide +kernel⟩
abbrev s_shows_none : Stmt := topS 39
abbrev N_shows_none : List Str := ["steps", "kept", "thing", "number", "papers", "left", "place", "paper", "step", "rest"]
theorem sc_shows_none : FnScope N_shows_none ["steps", "kept", "thing"] (defScope s_shows_none) := ⟨rfl, rfl, rfl, by decide +kernel, rfl, by decide +kernel, by decide +kernel⟩
abbrev s_cases_good : Stmt := topS 40
abbrev N_cases_good : List Str := ["steps", "thing"]
theorem sc_cases_good : FnScope N_cases_good ["steps", "thing"] (defScope s_cases_good) := ⟨rfl, rfl, rfl, by decide +kernel, rfl, by decide +kernel, by decide +kernel⟩
abbrev s_first_left : Stmt := topS 41
abbrev N_first_left : List Str := ["steps", "kept", "number", "step", "rest"]
theorem sc_first_left : FnScope N_first_left ["steps", "kept"] (defScope s_first_left) := ⟨rfl, rfl, rfl, by decide +kernel, rfl, by decide +kernel, by decide +kernel⟩
abbrev s_cases_from : Stmt := topS 42
abbrev N_cases_from : List Str := ["steps", "kept", "number", "papers", "place", "step"]
theorem sc_cases_from : FnScope N_cases_from ["steps", "kept"] (defScope s_cases_from) := ⟨rfl, rfl, rfl, by decide +kernel, rfl, by decide +kernel, by decide +kernel⟩
abbrev s_cases_for : Stmt := topS 43
abbrev N_cases_for : List Str := ["steps"]
theorem sc_cases_for : FnScope N_cases_for ["steps"] (defScope s_cases_for) := ⟨rfl, rfl, rfl, by decide +kernel, rfl, by decide +kernel, by decide +kernel⟩
abbrev s_first_missed : Stmt := topS 45
abbrev N_first_missed : List Str := ["clocks", "number"]
theorem sc_first_missed : FnScope N_first_missed ["clocks"] (defScope s_first_missed) := ⟨rfl, rfl, rfl, by decide +kernel, rfl, by decide +kernel, by decide +kernel⟩
abbrev s_covers : Stmt := topS 46
abbrev N_covers : List Str := ["clocks"]
theorem sc_covers : FnScope N_covers ["clocks"] (defScope s_covers) := ⟨rfl, rfl, rfl, by decide +kernel, rfl, by decide +kernel, by decide +kernel⟩
abbrev s__law_cell_at : Stmt := topS 48
abbrev N__law_cell_at : List Str := ["script", "k"]
theorem sc__law_cell_at : FnScope N__law_cell_at ["script", "k"] (defScope s__law_cell_at) := ⟨rfl, rfl, rfl, by decide +kernel, rfl, by decide +kernel, by decide +kernel⟩
abbrev s__law_next : Stmt := topS 49
abbrev N__law_next : List Str := ["seed"]
theorem sc__law_next : FnScope N__law_next ["seed"] (defScope s__law_next) := ⟨rfl, rfl, rfl, by decide +kernel, rfl, by decide +kernel, by decide +kernel⟩
abbrev s__law_pen_of : Stmt := topS 50
abbrev N__law_pen_of : List Str := ["cell", "left"]
theorem sc__law_pen_of : FnScope N__law_pen_of ["cell"] (defScope s__law_pen_of) := ⟨rfl, rfl, rfl, by decide +kernel, rfl, by decide +kernel, by decide +kernel⟩
abbrev s__law_draw : Stmt := topS 51
abbrev N__law_draw : List Str := ["pen", "many", "found"]
theorem sc__law_draw : FnScope N__law_draw ["pen", "many"] (defScope s__law_draw) := ⟨rfl, rfl, rfl, by decide +kernel, rfl, by decide +kernel, by decide +kernel⟩
abbrev s__law_split : Stmt := topS 52
abbrev N__law_split : List Str := ["pen", "times", "found", "turn", "spot", "k", "step", "rest", "part"]
theorem sc__law_split : FnScope N__law_split ["pen", "times"] (defScope s__law_split) := ⟨rfl, rfl, rfl, by decide +kernel, rfl, by decide +kernel, by decide +kernel⟩
abbrev s__law_steps_of : Stmt := topS 53
abbrev N__law_steps_of : List Str := ["pen", "way", "found", "clock", "step", "turn"]
theorem sc__law_steps_of : FnScope N__law_steps_of ["pen"] (defScope s__law_steps_of) := ⟨rfl, rfl, rfl, by decide +kernel, rfl, by decide +kernel, by decide +kernel⟩
abbrev s__law_product : Stmt := topS 54
abbrev N__law_product : List Str := ["steps", "found", "step"]
theorem sc__law_product : FnScope N__law_product ["steps"] (defScope s__law_product) := ⟨rfl, rfl, rfl, by decide +kernel, rfl, by decide +kernel, by decide +kernel⟩
abbrev s__law_rests_right : Stmt := topS 55
abbrev N__law_rests_right : List Str := ["pen", "steps", "rests", "clocks", "spot", "easy", "other", "step"]
theorem sc__law_rests_right : FnScope N__law_rests_right ["pen", "steps", "rests"] (defScope s__law_rests_right) := ⟨rfl, rfl, rfl, by decide +kernel, rfl, by decide +kernel, by decide +kernel⟩
abbrev s__law_right : Stmt := topS 56
abbrev N__law_right : List Str := ["pen", "steps", "rests", "paper", "top", "bottom", "many"]
theorem sc__law_right : FnScope N__law_right ["pen", "steps"] (defScope s__law_right) := ⟨rfl, rfl, rfl, by decide +kernel, rfl, by decide +kernel, by decide +kernel⟩
abbrev s_law : Stmt := topS 57
abbrev N_law : List Str := ["script", "cell", "pen"]
theorem sc_law : FnScope N_law ["script"] (defScope s_law) := ⟨rfl, rfl, rfl, by decide +kernel, rfl, by decide +kernel, by decide +kernel⟩
structure Zs (mg : Str → Option Value) : Prop where
  all_ : mg "all" = none
  any_ : mg "any" = none
  bool : mg "bool" = none
  enumerate : mg "enumerate" = none
  int_ : mg "int" = none
  isinstance : mg "isinstance" = none
  len : mg "len" = none
  list_ : mg "list" = none
  max_ : mg "max" = none
  range_ : mg "range" = none
  set_ : mg "set" = none
  sorted : mg "sorted" = none
  sum_ : mg "sum" = none
  tuple : mg "tuple" = none
  zip : mg "zip" = none
section
variable {P : Program} {w : World} {K : PySem.W.Frag} {mg : Str → Option Value} {base : Heap}
theorem ok_is_whole {f : Addr} {fd : FuncData} (F : Fun K "is_whole" "is_whole" s_is_whole f fd) (Z : Zs mg)  : FnOk P w K mg base (L2N.CX P w) 1 f fd ["thing"] (low K mg 1 sp_is_whole) := by
  refine def_ok (N := N_is_whole) (ps := ["thing"]) F sc_is_whole (ls := []) (wb := w_is_whole) (fun cdv A outer s H E B hr hB hL tk hp => ?_) vc_is_whole
  have nd := sc_is_whole.nd
  have hu := hr.u65
  have hu7 := hr.u67
  exact (dss_one (ds_ret (de_and (de_isi (dv 0) (by rfl) Z.isinstance (by rfl) Z.int_ bt_int (by decide)) (de_one (de_not (de_isi (dv 0) (by rfl) Z.isinstance (by rfl) Z.bool bt_bool (by decide)))))))
theorem ok_clock_good {f : Addr} {fd : FuncData} (F : Fun K "clock_good" "clock_good" s_clock_good f fd) (Z : Zs mg) (c_is_whole : Cal P w K mg base 1 "is_whole" 1 sp_is_whole) (g_MOST_STEP : ∃ t, mg "MOST_STEP" = some (.int 1000 t)) : FnOk P w K mg base (L2N.CX P w) 2 f fd ["thing"] (low K mg 1 sp_clock_good) := by
  refine def_ok (N := N_clock_good) (ps := ["thing"]) F sc_clock_good (ls := []) (wb := w_clock_good) (fun cdv A outer s H E B hr hB hL tk hp => ?_) vc_clock_good
  have nd := sc_clock_good.nd
  have hu := hr.u65
  have hu7 := hr.u67
  exact (dss_cons (ds_if ((dw_or (dt_not (dt_val (de_isi (dv 0) (by rfl) Z.isinstance (by rfl) Z.tuple bt_tuple (by decide)))) (dw_or (dt_cmp (dop_ne hu) (de_callB dcl_len (da_cons (dv 0) da_nil) (by rfl) Z.len bt_len) de_int) (dw_or (dt_not (dt_val (de_call c_is_whole hr hB tk (dm_cons (de_ix (dv 0) de_int) dm_nil)))) (dw_or1 (dt_not (dt_val (de_call c_is_whole hr hB tk (dm_cons (de_ix (dv 0) de_int) dm_nil))))))))).dt (dss_one (ds_ret de_bl)) dss_nil)
      (dss_one (ds_ret (de_and (de_chain (dop_le hu) (dop_le hu) de_int (de_ix (dv 0) de_int) (de_gint g_MOST_STEP)) (de_one (de_chain (dop_le hu) (dop_lt hu) de_int (de_ix (dv 0) de_int) (de_ix (dv 0) de_int)))))))
theorem ok_clocks_of {f : Addr} {fd : FuncData} (F : Fun K "clocks_of" "clocks_of" s_clocks_of f fd) (Z : Zs mg) (c_clock_good : Cal P w K mg base 2 "clock_good" 1 sp_clock_good) (g_MOST_CLOCKS : ∃ t, mg "MOST_CLOCKS" = some (.int 12 t)) : FnOk P w K mg base (L2N.CX P w) 3 f fd ["things"] (low K mg 1 sp_clocks_of) := by
  refine def_ok (N := N_clocks_of) (ps := ["things"]) F sc_clocks_of (ls := []) (wb := w_clocks_of) (fun cdv A outer s H E B hr hB hL tk hp => ?_) vc_clocks_of
  have nd := sc_clocks_of.nd
  have hu := hr.u65
  have hu7 := hr.u67
  exact (dss_cons (ds_set 1 (de_lst df_nil) (nl hL (by decide)) nd)
      (dss_cons (ds_for hp (di_enum (df_cons (dv 0) df_nil) (by rfl) Z.enumerate) (dg_tup rfl (dgs_cons (dg_name 2 (nl hL (by decide)) nd) (dgs_cons (dg_name 3 (nl hL (by decide)) nd) dgs_nil))) (dss_cons (ds_if ((dw_or (dt_not (dt_val (de_call c_clock_good hr hB tk (dm_cons (dv 3) dm_nil)))) (dw_or (dt_cmp (dop_in hu) (dv 3) (dv 1)) (dw_or1 (dt_cmp (dop_eq hu) (de_callB dcl_len (da_cons (dv 1) da_nil) (by rfl) Z.len bt_len) (de_gint g_MOST_CLOCKS)))))).dt (dss_one ds_never) dss_nil)
      (dss_one (ds_expr (de_append 1 (dv 3))))))
      (dss_one (ds_ret (de_callTy dcl_tuple (da_cons (de_callB (dcl_sorted hu7) (da_cons (dv 1) da_nil) (by rfl) Z.sorted bt_sorted) da_nil) (by rfl) Z.tuple bt_tuple)))))
theorem ok_rings {f : Addr} {fd : FuncData} (F : Fun K "rings" "rings" s_rings f fd) (Z : Zs mg)  : FnOk P w K mg base (L2N.CX P w) 1 f fd ["clock", "number"] (low K mg 2 sp_rings) := by
  refine def_ok (N := N_rings) (ps := ["clock", "number"]) F sc_rings (ls := []) (wb := w_rings) (fun cdv A outer s H E B hr hB hL tk hp => ?_) vc_rings
  have nd := sc_rings.nd
  have hu := hr.u65
  have hu7 := hr.u67
  exact (dss_one (ds_ret (de_cmp (dop_eq hu) (de_op dop_mod (dv 1) (de_ix (dv 0) de_int)) (de_ix (dv 0) de_int))))
theorem ok_rings_at {f : Addr} {fd : FuncData} (F : Fun K "rings_at" "rings_at" s_rings_at f fd) (Z : Zs mg) (c_rings : Cal P w K mg base 1 "rings" 2 sp_rings) : FnOk P w K mg base (L2N.CX P w) 2 f fd ["clocks", "number"] (low K mg 2 sp_rings_at) := by
  refine def_ok (N := N_rings_at) (ps := ["clocks", "number"]) F sc_rings_at (ls := []) (wb := w_rings_at) (fun cdv A outer s H E B hr hB hL tk hp => ?_) vc_rings_at
  have nd := sc_rings_at.nd
  have hu := hr.u65
  have hu7 := hr.u67
  exact (dss_one (ds_ret (de_lc (own := [("clock", 2)]) (di_seq (dv 0)) (blkOk_by (N := N_rings_at) (sc := defScope s_rings_at) (by decide +kernel)) (by decide) (nls hL (by decide)) nd (fun _ _ _ _ _ => (dg_name 2 (nl hL (by decide)) nd)) (fun _ _ _ _ _ => (dts_one (dt_val (de_call c_rings hr hB tk0 (dm_cons (dv 2) (dm_cons (dv 1) dm_nil)))))) (fun _ _ _ _ _ => (dv 2)))))
theorem ok_divisor_of {f : Addr} {fd : FuncData} (F : Fun K "divisor_of" "divisor_of" s_divisor_of f fd) (Z : Zs mg)  : FnOk P w K mg base (L2N.CX P w) 1 f fd ["one", "other"] (low K mg 2 sp_divisor_of) := by
  refine def_ok (N := N_divisor_of) (ps := ["one", "other"]) F sc_divisor_of (ls := []) (wb := w_divisor_of) (fun cdv A outer s H E B hr hB hL tk hp => ?_) vc_divisor_of
  have nd := sc_divisor_of.nd
  have hu := hr.u65
  have hu7 := hr.u67
  exact (dss_cons (ds_while hp (dt_cmp (dop_gt hu) (dv 1) de_int) (dss_one (ds_par 0 1 (df_cons (dv 1) (df_cons (de_op dop_mod (dv 0) (dv 1)) df_nil)) (nl hL (by decide)) (nl hL (by decide)) nd)))
      (dss_one (ds_ret (dv 0))))
theorem ok_round_of {f : Addr} {fd : FuncData} (F : Fun K "round_of" "round_of" s_round_of f fd) (Z : Zs mg) (c_divisor_of : Cal P w K mg base 1 "divisor_of" 2 sp_divisor_of) : FnOk P w K mg base (L2N.CX P w) 2 f fd ["clocks"] (low K mg 1 sp_round_of) := by
  refine def_ok (N := N_round_of) (ps := ["clocks"]) F sc_round_of (ls := []) (wb := w_round_of) (fun cdv A outer s H E B hr hB hL tk hp => ?_) vc_round_of
  have nd := sc_round_of.nd
  have hu := hr.u65
  have hu7 := hr.u67
  exact (dss_cons (ds_set 1 de_int (nl hL (by decide)) nd)
      (dss_cons (ds_for hp (di_seq (dv 0)) (dg_tup rfl (dgs_cons (dg_name 2 (nl hL (by decide)) nd) (dgs_cons (dg_name 3 (nl hL (by decide)) nd) dgs_nil))) (dss_one (ds_set 1 (de_op dop_fdiv (de_op dop_mul (dv 1) (dv 2)) (de_call c_divisor_of hr hB tk (dm_cons (dv 1) (dm_cons (dv 2) dm_nil)))) (nl hL (by decide)) nd)))
      (dss_one (ds_ret (dv 1)))))
theorem ok_check_round {f : Addr} {fd : FuncData} (F : Fun K "check_round" "check_round" s_check_round f fd) (Z : Zs mg) (c_round_of : Cal P w K mg base 2 "round_of" 1 sp_round_of) (g_MOST_ROUND : ∃ t, mg "MOST_ROUND" = some (.int 10000 t)) : FnOk P w K mg base (L2N.CX P w) 3 f fd ["clocks"] (low K mg 1 sp_check_round) := by
  refine def_ok (N := N_check_round) (ps := ["clocks"]) F sc_check_round (ls := []) (wb := w_check_round) (fun cdv A outer s H E B hr hB hL tk hp => ?_) vc_check_round
  have nd := sc_check_round.nd
  have hu := hr.u65
  have hu7 := hr.u67
  exact (dss_one (ds_if (dt_cmp (dop_gt hu) (de_call c_round_of hr hB tk (dm_cons (dv 0) dm_nil)) (de_gint g_MOST_ROUND)) (dss_one ds_never) dss_nil))
theorem ok_back_of {f : Addr} {fd : FuncData} (F : Fun K "back_of" "back_of" s_back_of f fd) (Z : Zs mg)  : FnOk P w K mg base (L2N.CX P w) 1 f fd ["one", "other"] (low K mg 2 sp_back_of) := by
  refine def_ok (N := N_back_of) (ps := ["one", "other"]) F sc_back_of (ls := []) (wb := w_back_of) (fun cdv A outer s H E B hr hB hL tk hp => ?_) vc_back_of
  have nd := sc_back_of.nd
  have hu := hr.u65
  have hu7 := hr.u67
  exact (dss_cons (ds_asgT (de_tup (df_cons de_int (df_cons de_int df_nil))) (dg_tup rfl (dgs_cons (dg_name 2 (nl hL (by decide)) nd) (dgs_cons (dg_name 3 (nl hL (by decide)) nd) dgs_nil))))
      (dss_cons (ds_par 4 5 (df_cons (dv 1) (df_cons (de_op dop_mod (dv 0) (dv 1)) df_nil)) (nl hL (by decide)) (nl hL (by decide)) nd)
      (dss_cons (ds_while hp (dt_cmp (dop_gt hu) (dv 5) de_int) (dss_cons (ds_set 6 (de_op dop_fdiv (dv 4) (dv 5)) (nl hL (by decide)) nd)
      (dss_cons (ds_par 2 3 (df_cons (dv 3) (df_cons (de_op dop_sub (dv 2) (de_op dop_mul (dv 6) (dv 3))) df_nil)) (nl hL (by decide)) (nl hL (by decide)) nd)
      (dss_one (ds_par 4 5 (df_cons (dv 5) (df_cons (de_op dop_sub (dv 4) (de_op dop_mul (dv 6) (dv 5))) df_nil)) (nl hL (by decide)) (nl hL (by decide)) nd)))))
      (dss_one (ds_ret (de_op dop_mod (dv 2) (dv 1)))))))
theorem ok_meet_of {f : Addr} {fd : FuncData} (F : Fun K "meet_of" "meet_of" s_meet_of f fd) (Z : Zs mg) (c_divisor_of : Cal P w K mg base 1 "divisor_of" 2 sp_divisor_of) (c_back_of : Cal P w K mg base 1 "back_of" 2 sp_back_of) : FnOk P w K mg base (L2N.CX P w) 2 f fd ["one", "other"] (low K mg 2 sp_meet_of) := by
  refine def_ok (N := N_meet_of) (ps := ["one", "other"]) F sc_meet_of (ls := []) (wb := w_meet_of) (fun cdv A outer s H E B hr hB hL tk hp => ?_) vc_meet_of
  have nd := sc_meet_of.nd
  have hu := hr.u65
  have hu7 := hr.u67
  exact (dss_cons (ds_set 2 (de_call c_divisor_of hr hB tk (dm_cons (de_ix (dv 0) de_int) (dm_cons (de_ix (dv 1) de_int) dm_nil))) (nl hL (by decide)) nd)
      (dss_cons (ds_if (dt_cmp (dop_ne hu) (de_op dop_mod (de_op dop_sub (de_ix (dv 1) de_int) (de_ix (dv 0) de_int)) (dv 2)) de_int) (dss_one (ds_ret de_non)) dss_nil)
      (dss_cons (ds_set 3 (de_op dop_mul (de_op dop_fdiv (de_ix (dv 0) de_int) (dv 2)) (de_ix (dv 1) de_int)) (nl hL (by decide)) nd)
      (dss_cons (ds_set 4 (de_op dop_mul (de_op dop_fdiv (de_op dop_sub (de_ix (dv 1) de_int) (de_ix (dv 0) de_int)) (dv 2)) (de_call c_back_of hr hB tk (dm_cons (de_op dop_fdiv (de_ix (dv 0) de_int) (dv 2)) (dm_cons (de_op dop_fdiv (de_ix (dv 1) de_int) (dv 2)) dm_nil)))) (nl hL (by decide)) nd)
      (dss_one (ds_ret (de_tup (df_cons (dv 3) (df_cons (de_op dop_mod (de_op dop_add (de_ix (dv 0) de_int) (de_op dop_mul (de_ix (dv 0) de_int) (dv 4))) (dv 3)) df_nil)))))))))
theorem ok_mark_of {f : Addr} {fd : FuncData} (F : Fun K "mark_of" "mark_of" s_mark_of f fd) (Z : Zs mg)  : FnOk P w K mg base (L2N.CX P w) 1 f fd ["clock", "size"] (low K mg 2 sp_mark_of) := by
  refine def_ok (N := N_mark_of) (ps := ["clock", "size"]) F sc_mark_of (ls := []) (wb := w_mark_of) (fun cdv A outer s H E B hr hB hL tk hp => ?_) vc_mark_of
  have nd := sc_mark_of.nd
  have hu := hr.u65
  have hu7 := hr.u67
  exact (dss_one (ds_ret (de_op dop_shl (de_op dop_fdiv (de_op dop_sub (de_op dop_shl de_int (dv 1)) de_int) (de_op dop_sub (de_op dop_shl de_int (de_ix (dv 0) de_int)) de_int)) (de_ix (dv 0) de_int))))
theorem ok_shares_of {f : Addr} {fd : FuncData} (F : Fun K "shares_of" "shares_of" s_shares_of f fd) (Z : Zs mg) (c_round_of : Cal P w K mg base 2 "round_of" 1 sp_round_of) (c_divisor_of : Cal P w K mg base 2 "divisor_of" 2 sp_divisor_of) : FnOk P w K mg base (L2N.CX P w) 3 f fd ["clocks"] (low K mg 1 sp_shares_of) := by
  refine def_ok (N := N_shares_of) (ps := ["clocks"]) F sc_shares_of (ls := []) (wb := w_shares_of) (fun cdv A outer s H E B hr hB hL tk hp => ?_) vc_shares_of
  have nd := sc_shares_of.nd
  have hu := hr.u65
  have hu7 := hr.u67
  exact (dss_cons (ds_set 1 (de_call c_round_of hr hB tk (dm_cons (dv 0) dm_nil)) (nl hL (by decide)) nd)
      (dss_cons (ds_set 2 (de_callB (dcl_sum rfl) (da_cons (de_lc (own := [("step", 4), ("rest", 5)]) (di_seq (dv 0)) (blkOk_by (N := N_shares_of) (sc := defScope s_shares_of) (by decide +kernel)) (by decide) (nls hL (by decide)) nd (fun _ _ _ _ _ => (dg_tup rfl (dgs_cons (dg_name 4 (nl hL (by decide)) nd) (dgs_cons (dg_name 5 (nl hL (by decide)) nd) dgs_nil)))) (fun _ _ _ _ _ => dts_nil) (fun _ _ _ _ _ => (de_op dop_fdiv (dv 1) (dv 4)))) da_nil) (by rfl) Z.sum_ bt_sum) (nl hL (by decide)) nd)
      (dss_cons (ds_set 3 (de_call c_divisor_of hr hB tk (dm_cons (dv 1) (dm_cons (dv 2) dm_nil))) (nl hL (by decide)) nd)
      (dss_one (ds_ret (de_tup (df_cons (de_op dop_fdiv (dv 2) (dv 3)) (df_cons (de_op dop_fdiv (dv 1) (dv 3)) df_nil))))))))
theorem ok_clash_of {f : Addr} {fd : FuncData} (F : Fun K "clash_of" "clash_of" s_clash_of f fd) (Z : Zs mg) (c_meet_of : Cal P w K mg base 2 "meet_of" 2 sp_meet_of) : FnOk P w K mg base (L2N.CX P w) 3 f fd ["clocks"] (low K mg 1 sp_clash_of) := by
  refine def_ok (N := N_clash_of) (ps := ["clocks"]) F sc_clash_of (ls := []) (wb := w_clash_of) (fun cdv A outer s H E B hr hB hL tk hp => ?_) vc_clash_of
  have nd := sc_clash_of.nd
  have hu := hr.u65
  have hu7 := hr.u67
  exact (dss_cons (ds_for hp (di_rng1 (de_callB dcl_len (da_cons (dv 0) da_nil) (by rfl) Z.len bt_len) (by rfl) Z.range_) (dg_name 1 (nl hL (by decide)) nd) (dss_one (ds_for hp (di_rng2 (de_op dop_add (dv 1) de_int) (de_callB dcl_len (da_cons (dv 0) da_nil) (by rfl) Z.len bt_len) (by rfl) Z.range_) (dg_name 2 (nl hL (by decide)) nd) (dss_cons (ds_set 3 (de_call c_meet_of hr hB tk (dm_cons (de_ix (dv 0) (dv 1)) (dm_cons (de_ix (dv 0) (dv 2)) dm_nil))) (nl hL (by decide)) nd)
      (dss_one (ds_if (dt_cmp dop_isNot (dv 3) de_non) (dss_one (ds_ret (de_tup (df_cons (dv 1) (df_cons (dv 2) (df_cons (de_ix (dv 3) de_int) df_nil)))))) dss_nil))))))
      (dss_one (ds_ret de_non)))
theorem ok_exact_good {f : Addr} {fd : FuncData} (F : Fun K "exact_good" "exact_good" s_exact_good f fd) (Z : Zs mg) (c_shares_of : Cal P w K mg base 3 "shares_of" 1 sp_shares_of) (c_clash_of : Cal P w K mg base 3 "clash_of" 1 sp_clash_of) : FnOk P w K mg base (L2N.CX P w) 4 f fd ["clocks"] (low K mg 1 sp_exact_good) := by
  refine def_ok (N := N_exact_good) (ps := ["clocks"]) F sc_exact_good (ls := []) (wb := w_exact_good) (fun cdv A outer s H E B hr hB hL tk hp => ?_) vc_exact_good
  have nd := sc_exact_good.nd
  have hu := hr.u65
  have hu7 := hr.u67
  exact (dss_one (ds_ret (de_and (de_cmp (dop_eq hu) (de_call c_shares_of hr hB tk (dm_cons (dv 0) dm_nil)) (de_tup (df_cons de_int (df_cons de_int df_nil)))) (de_one (de_cmp dop_is (de_call c_clash_of hr hB tk (dm_cons (dv 0) dm_nil)) de_non)))))
theorem ok_check_steps {f : Addr} {fd : FuncData} (F : Fun K "check_steps" "check_steps" s_check_steps f fd) (Z : Zs mg) (c_is_whole : Cal P w K mg base 1 "is_whole" 1 sp_is_whole) (g_MOST_STEPS : ∃ t, mg "MOST_STEPS" = some (.int 6 t)) (g_MOST_WANTED : ∃ t, mg "MOST_WANTED" = some (.int 24 t)) : FnOk P w K mg base (L2N.CX P w) 2 f fd ["thing"] (low K mg 1 sp_check_steps) := by
  refine def_ok (N := N_check_steps) (ps := ["thing"]) F sc_check_steps (ls := []) (wb := w_check_steps) (fun cdv A outer s H E B hr hB hL tk hp => ?_) vc_check_steps
  have nd := sc_check_steps.nd
  have hu := hr.u65
  have hu7 := hr.u67
  exact (dss_cons (ds_if ((dw_or (dt_not (dt_val (de_isi (dv 0) (by rfl) Z.isinstance (by rfl) Z.list_ bt_list (by decide)))) (dw_or1 (dt_not (dt_chain (dop_le hu) (dop_le hu) de_int (de_callB dcl_len (da_cons (dv 0) da_nil) (by rfl) Z.len bt_len) (de_gint g_MOST_STEPS)))))).dt (dss_one ds_never) dss_nil)
      (dss_one (ds_for hp (di_seq (dv 0)) (dg_name 1 (nl hL (by decide)) nd) (dss_one (ds_if ((dw_or (dt_not (dt_val (de_call c_is_whole hr hB tk (dm_cons (dv 1) dm_nil)))) (dw_or (dt_cmp (dop_lt hu) (dv 1) de_int) (dw_or1 (dt_cmp (dop_gt hu) (dv 1) (de_gint g_MOST_WANTED)))))).dt (dss_one ds_never) dss_nil)))))
theorem ok_size_of {f : Addr} {fd : FuncData} (F : Fun K "size_of" "size_of" s_size_of f fd) (Z : Zs mg) (c_round_of : Cal P w K mg base 2 "round_of" 1 sp_round_of) : FnOk P w K mg base (L2N.CX P w) 3 f fd ["steps"] (low K mg 1 sp_size_of) := by
  refine def_ok (N := N_size_of) (ps := ["steps"]) F sc_size_of (ls := []) (wb := w_size_of) (fun cdv A outer s H E B hr hB hL tk hp => ?_) vc_size_of
  have nd := sc_size_of.nd
  have hu := hr.u65
  have hu7 := hr.u67
  exact (dss_one (ds_ret (de_call c_round_of hr hB tk (dm_cons (de_lc (own := [("step", 1)]) (di_seq (dv 0)) (blkOk_by (N := N_size_of) (sc := defScope s_size_of) (by decide +kernel)) (by decide) (nls hL (by decide)) nd (fun _ _ _ _ _ => (dg_name 1 (nl hL (by decide)) nd)) (fun _ _ _ _ _ => dts_nil) (fun _ _ _ _ _ => (de_tup (df_cons (dv 1) (df_cons de_int df_nil))))) dm_nil))))
theorem ok_check_size {f : Addr} {fd : FuncData} (F : Fun K "check_size" "check_size" s_check_size f fd) (Z : Zs mg) (c_size_of : Cal P w K mg base 3 "size_of" 1 sp_size_of) (g_MOST_ROUND : ∃ t, mg "MOST_ROUND" = some (.int 10000 t)) : FnOk P w K mg base (L2N.CX P w) 4 f fd ["steps"] (low K mg 1 sp_check_size) := by
  refine def_ok (N := N_check_size) (ps := ["steps"]) F sc_check_size (ls := []) (wb := w_check_size) (fun cdv A outer s H E B hr hB hL tk hp => ?_) vc_check_size
  have nd := sc_check_size.nd
  have hu := hr.u65
  have hu7 := hr.u67
  exact (dss_one (ds_if (dt_cmp (dop_gt hu) (de_call c_size_of hr hB tk (dm_cons (dv 0) dm_nil)) (de_gint g_MOST_ROUND)) (dss_one ds_never) dss_nil))
theorem ok_marks_by {f : Addr} {fd : FuncData} (F : Fun K "marks_by" "marks_by" s_marks_by f fd) (Z : Zs mg) (c_mark_of : Cal P w K mg base 1 "mark_of" 2 sp_mark_of) : FnOk P w K mg base (L2N.CX P w) 2 f fd ["steps", "rests", "size"] (low K mg 3 sp_marks_by) := by
  refine def_ok (N := N_marks_by) (ps := ["steps", "rests", "size"]) F sc_marks_by (ls := []) (wb := w_marks_by) (fun cdv A outer s H E B hr hB hL tk hp => ?_) vc_marks_by
  have nd := sc_marks_by.nd
  have hu := hr.u65
  have hu7 := hr.u67
  exact (dss_cons (ds_set 3 de_int (nl hL (by decide)) nd)
      (dss_cons (ds_for hp (di_zip (df_cons (dv 0) (df_cons (dv 1) df_nil)) (by rfl) Z.zip) (dg_tup rfl (dgs_cons (dg_name 4 (nl hL (by decide)) nd) (dgs_cons (dg_name 5 (nl hL (by decide)) nd) dgs_nil))) (dss_one (ds_set 3 (de_op dop_or (dv 3) (de_call c_mark_of hr hB tk (dm_cons (de_tup (df_cons (dv 4) (df_cons (dv 5) df_nil))) (dm_cons (dv 2) dm_nil)))) (nl hL (by decide)) nd)))
      (dss_one (ds_ret (dv 3)))))
theorem ok_are_rests {f : Addr} {fd : FuncData} (F : Fun K "are_rests" "are_rests" s_are_rests f fd) (Z : Zs mg) (c_is_whole : Cal P w K mg base 1 "is_whole" 1 sp_is_whole) : FnOk P w K mg base (L2N.CX P w) 2 f fd ["steps", "thing"] (low K mg 2 sp_are_rests) := by
  refine def_ok (N := N_are_rests) (ps := ["steps", "thing"]) F sc_are_rests (ls := []) (wb := w_are_rests) (fun cdv A outer s H E B hr hB hL tk hp => ?_) vc_are_rests
  have nd := sc_are_rests.nd
  have hu := hr.u65
  have hu7 := hr.u67
  exact (dss_cons (ds_if ((dw_or (dt_not (dt_val (de_isi (dv 1) (by rfl) Z.isinstance (by rfl) Z.tuple bt_tuple (by decide)))) (dw_or1 (dt_cmp (dop_ne hu) (de_callB dcl_len (da_cons (dv 1) da_nil) (by rfl) Z.len bt_len) (de_callB dcl_len (da_cons (dv 0) da_nil) (by rfl) Z.len bt_len))))).dt (dss_one (ds_ret de_bl)) dss_nil)
      (dss_one (ds_ret (de_callB (dcl_all rfl) (da_cons (de_lc (own := [("step", 2), ("rest", 3)]) (di_zip (df_cons (dv 0) (df_cons (dv 1) df_nil)) (by rfl) Z.zip) (blkOk_by (N := N_are_rests) (sc := defScope s_are_rests) (by decide +kernel)) (by decide) (nls hL (by decide)) nd (fun _ _ _ _ _ => (dg_tup rfl (dgs_cons (dg_name 2 (nl hL (by decide)) nd) (dgs_cons (dg_name 3 (nl hL (by decide)) nd) dgs_nil)))) (fun _ _ _ _ _ => dts_nil) (fun _ _ _ _ _ => (de_and (de_call c_is_whole hr hB tk0 (dm_cons (dv 3) dm_nil)) (de_one (de_chain (dop_le hu) (dop_lt hu) de_int (dv 3) (dv 2)))))) da_nil) (by rfl) Z.all_ bt_all))))
theorem ok_rests_good {f : Addr} {fd : FuncData} (F : Fun K "rests_good" "rests_good" s_rests_good f fd) (Z : Zs mg) (c_check_steps : Cal P w K mg base 4 "check_steps" 1 sp_check_steps) (c_check_size : Cal P w K mg base 4 "check_size" 1 sp_check_size) (c_size_of : Cal P w K mg base 4 "size_of" 1 sp_size_of) (c_are_rests : Cal P w K mg base 4 "are_rests" 2 sp_are_rests) (c_marks_by : Cal P w K mg base 4 "marks_by" 3 sp_marks_by) : FnOk P w K mg base (L2N.CX P w) 5 f fd ["steps", "thing"] (low K mg 2 sp_rests_good) := by
  refine def_ok (N := N_rests_good) (ps := ["steps", "thing"]) F sc_rests_good (ls := []) (wb := w_rests_good) (fun cdv A outer s H E B hr hB hL tk hp => ?_) vc_rests_good
  have nd := sc_rests_good.nd
  have hu := hr.u65
  have hu7 := hr.u67
  exact (dss_cons (ds_expr (de_call c_check_steps hr hB tk (dm_cons (dv 0) dm_nil)))
      (dss_cons (ds_expr (de_call c_check_size hr hB tk (dm_cons (dv 0) dm_nil)))
      (dss_cons (ds_set 2 (de_call c_size_of hr hB tk (dm_cons (dv 0) dm_nil)) (nl hL (by decide)) nd)
      (dss_one (ds_ret (de_and (de_call c_are_rests hr hB tk (dm_cons (dv 0) (dm_cons (dv 1) dm_nil))) (de_one (de_cmp (dop_eq hu) (de_call c_marks_by hr hB tk (dm_cons (dv 0) (dm_cons (dv 1) (dm_cons (dv 2) dm_nil)))) (de_op dop_sub (de_op dop_shl de_int (dv 2)) de_int)))))))))
theorem ok_rests_from (n k : Nat) {f : Addr} {fd : FuncData} (F : Fun K "rests_from" "rests_from" s_rests_from f fd) (Z : Zs mg) (c_rests_from : Cal P w K mg base k "rests_from" 4 (sp_rests_from n)) : FnOk P w K mg base (L2N.CX P w) (k + 1) f fd ["steps", "size", "begun", "left"] (low K mg 4 (sp_rests_from (n + 1))) := by
  refine def_ok (N := N_rests_from) (ps := ["steps", "size", "begun", "left"]) F sc_rests_from (ls := []) (wb := w_rests_from n) (fun cdv A outer s H E B hr hB hL tk hp => ?_) (vc_rests_from n)
  have nd := sc_rests_from.nd
  have hu := hr.u65
  have hu7 := hr.u67
  exact (dss_cons (ds_if (dt_cmp (dop_eq hu) (de_callB dcl_len (da_cons (dv 2) da_nil) (by rfl) Z.len bt_len) (de_callB dcl_len (da_cons (dv 0) da_nil) (by rfl) Z.len bt_len)) (dss_one (ds_ret (de_ifExp (dt_cmp (dop_eq hu) (dv 3) (de_lst df_nil)) (dv 2) de_non))) dss_nil)
      (dss_cons (ds_if (dt_cmp (dop_gt hu) (de_callB dcl_len (da_cons (dv 3) da_nil) (by rfl) Z.len bt_len) (de_callB (dcl_sum rfl) (da_cons (de_lc (own := [("step", 4)]) (di_seq (de_sl (dv 0) (do_some (de_callB dcl_len (da_cons (dv 2) da_nil) (by rfl) Z.len bt_len)) do_none)) (blkOk_by (N := N_rests_from) (sc := defScope s_rests_from) (by decide +kernel)) (by decide) (nls hL (by decide)) nd (fun _ _ _ _ _ => (dg_name 4 (nl hL (by decide)) nd)) (fun _ _ _ _ _ => dts_nil) (fun _ _ _ _ _ => (de_op dop_fdiv (dv 1) (dv 4)))) da_nil) (by rfl) Z.sum_ bt_sum)) (dss_one (ds_ret de_non)) dss_nil)
      (dss_cons (ds_set 4 (de_ix (dv 0) (de_callB dcl_len (da_cons (dv 2) da_nil) (by rfl) Z.len bt_len)) (nl hL (by decide)) nd)
      (dss_cons (ds_for hp (di_rng1 (dv 4) (by rfl) Z.range_) (dg_name 5 (nl hL (by decide)) nd) (dss_cons (ds_setLc 6 (own := [("number", 8)]) (di_seq (dv 3)) (blkOk_by (N := N_rests_from) (sc := defScope s_rests_from) (by decide +kernel)) (by decide) (nls hL (by decide)) (nl hL (by decide)) nd (fun _ _ _ _ _ => (dg_name 8 (nl hL (by decide)) nd)) (fun _ _ _ _ _ => (dts_one (dt_cmp (dop_ne hu) (de_op dop_mod (dv 8) (dv 4)) (dv 5)))) (fun _ _ _ _ _ => (dv 8)))
      (dss_cons (ds_set 7 (de_call c_rests_from hr hB tk (dm_cons (dv 0) (dm_cons (dv 1) (dm_cons (de_op dop_add (dv 2) (de_tup (df_cons (dv 5) df_nil))) (dm_cons (dv 6) dm_nil))))) (nl hL (by decide)) nd)
      (dss_one (ds_if (dt_cmp dop_isNot (dv 7) de_non) (dss_one (ds_ret (dv 7))) dss_nil)))))
      (dss_one (ds_ret de_non))))))
theorem ok_rests_for {f : Addr} {fd : FuncData} (F : Fun K "rests_for" "rests_for" s_rests_for f fd) (Z : Zs mg) (c_check_steps : Cal P w K mg base 9 "check_steps" 1 sp_check_steps) (c_check_size : Cal P w K mg base 9 "check_size" 1 sp_check_size) (c_size_of : Cal P w K mg base 9 "size_of" 1 sp_size_of) (c_rests_from : Cal P w K mg base 9 "rests_from" 4 (sp_rests_from 9)) : FnOk P w K mg base (L2N.CX P w) 10 f fd ["steps"] (low K mg 1 sp_rests_for) := by
  refine def_ok (N := N_rests_for) (ps := ["steps"]) F sc_rests_for (ls := []) (wb := w_rests_for) (fun cdv A outer s H E B hr hB hL tk hp => ?_) vc_rests_for
  have nd := sc_rests_for.nd
  have hu := hr.u65
  have hu7 := hr.u67
  exact (dss_cons (ds_expr (de_call c_check_steps hr hB tk (dm_cons (dv 0) dm_nil)))
      (dss_cons (ds_expr (de_call c_check_size hr hB tk (dm_cons (dv 0) dm_nil)))
      (dss_cons (ds_set 1 (de_call c_size_of hr hB tk (dm_cons (dv 0) dm_nil)) (nl hL (by decide)) nd)
      (dss_one (ds_ret (de_call c_rests_from hr hB tk (dm_cons (dv 0) (dm_cons (dv 1) (dm_cons (de_tup df_nil) (dm_cons (de_lstR1 rfl (by rfl) Z.list_ (by rfl) Z.range_ (dv 1)) dm_nil))))))))))
theorem ok_rests_many {f : Addr} {fd : FuncData} (F : Fun K "rests_many" "rests_many" s_rests_many f fd) (Z : Zs mg) (c_check_steps : Cal P w K mg base 3 "check_steps" 1 sp_check_steps) (c_size_of : Cal P w K mg base 3 "size_of" 1 sp_size_of) (c_mark_of : Cal P w K mg base 3 "mark_of" 2 sp_mark_of) (g_MOST_PRODUCT : ∃ t, mg "MOST_PRODUCT" = some (.int 3000 t)) : FnOk P w K mg base (L2N.CX P w) 4 f fd ["steps"] (low K mg 1 sp_rests_many) := by
  refine def_ok (N := N_rests_many) (ps := ["steps"]) F sc_rests_many (ls := []) (wb := w_rests_many) (fun cdv A outer s H E B hr hB hL tk hp => ?_) vc_rests_many
  have nd := sc_rests_many.nd
  have hu := hr.u65
  have hu7 := hr.u67
  exact (dss_cons (ds_expr (de_call c_check_steps hr hB tk (dm_cons (dv 0) dm_nil)))
      (dss_cons (ds_set 1 de_int (nl hL (by decide)) nd)
      (dss_cons (ds_for hp (di_seq (dv 0)) (dg_name 2 (nl hL (by decide)) nd) (dss_one (ds_set 1 (de_op dop_mul (dv 1) (dv 2)) (nl hL (by decide)) nd)))
      (dss_cons (ds_if (dt_cmp (dop_gt hu) (dv 1) (de_gint g_MOST_PRODUCT)) (dss_one ds_never) dss_nil)
      (dss_cons (ds_set 3 (de_call c_size_of hr hB tk (dm_cons (dv 0) dm_nil)) (nl hL (by decide)) nd)
      (dss_cons (ds_set 4 (de_lst (df_cons de_int df_nil)) (nl hL (by decide)) nd)
      (dss_cons (ds_for hp (di_seq (dv 0)) (dg_name 2 (nl hL (by decide)) nd) (dss_cons (ds_set 5 (de_lst df_nil) (nl hL (by decide)) nd)
      (dss_cons (ds_for hp (di_seq (dv 4)) (dg_name 6 (nl hL (by decide)) nd) (dss_one (ds_expr (de_extend 5 (de_lc (own := [("rest", 7)]) (di_rng1 (dv 2) (by rfl) Z.range_) (blkOk_by (N := N_rests_many) (sc := defScope s_rests_many) (by decide +kernel)) (by decide) (nls hL (by decide)) nd (fun _ _ _ _ _ => (dg_name 7 (nl hL (by decide)) nd)) (fun _ _ _ _ _ => dts_nil) (fun _ _ _ _ _ => (de_op dop_or (dv 6) (de_call c_mark_of hr hB tk0 (dm_cons (de_tup (df_cons (dv 2) (df_cons (dv 7) df_nil))) (dm_cons (dv 3) dm_nil))))))))))
      (dss_one (ds_set 4 (dv 5) (nl hL (by decide)) nd)))))
      (dss_one (ds_ret (de_count hu (dv 4) (de_op dop_sub (de_op dop_shl de_int (dv 3)) de_int)))))))))))
theorem ok_steps_share {f : Addr} {fd : FuncData} (F : Fun K "steps_share" "steps_share" s_steps_share f fd) (Z : Zs mg) (c_check_steps : Cal P w K mg base 3 "check_steps" 1 sp_check_steps) (c_shares_of : Cal P w K mg base 3 "shares_of" 1 sp_shares_of) : FnOk P w K mg base (L2N.CX P w) 4 f fd ["steps"] (low K mg 1 sp_steps_share) := by
  refine def_ok (N := N_steps_share) (ps := ["steps"]) F sc_steps_share (ls := []) (wb := w_steps_share) (fun cdv A outer s H E B hr hB hL tk hp => ?_) vc_steps_share
  have nd := sc_steps_share.nd
  have hu := hr.u65
  have hu7 := hr.u67
  exact (dss_cons (ds_expr (de_call c_check_steps hr hB tk (dm_cons (dv 0) dm_nil)))
      (dss_one (ds_ret (de_call c_shares_of hr hB tk (dm_cons (de_lc (own := [("step", 1)]) (di_seq (dv 0)) (blkOk_by (N := N_steps_share) (sc := defScope s_steps_share) (by decide +kernel)) (by decide) (nls hL (by decide)) nd (fun _ _ _ _ _ => (dg_name 1 (nl hL (by decide)) nd)) (fun _ _ _ _ _ => dts_nil) (fun _ _ _ _ _ => (de_tup (df_cons (dv 1) (df_cons de_int df_nil))))) dm_nil)))))
theorem ok_shows_none (n k : Nat) {f : Addr} {fd : FuncData} (F : Fun K "shows_none" "shows_none" s_shows_none f fd) (Z : Zs mg) (c_is_whole : Cal P w K mg base k "is_whole" 1 sp_is_whole) (c_shows_none : Cal P w K mg base k "shows_none" 3 (sp_shows_none n)) : FnOk P w K mg base (L2N.CX P w) (k + 1) f fd ["steps", "kept", "thing"] (low K mg 3 (sp_shows_none (n + 1))) := by
  refine def_ok (N := N_shows_none) (ps := ["steps", "kept", "thing"]) F sc_shows_none (ls := []) (wb := w_shows_none n) (fun cdv A outer s H E B hr hB hL tk hp => ?_) (vc_shows_none n)
  have nd := sc_shows_none.nd
  have hu := hr.u65
  have hu7 := hr.u67
  exact (dss_cons (ds_if ((dw_or (dt_not (dt_val (de_isi (dv 2) (by rfl) Z.isinstance (by rfl) Z.tuple bt_tuple (by decide)))) (dw_or (dt_cmp (dop_ne hu) (de_callB dcl_len (da_cons (dv 2) da_nil) (by rfl) Z.len bt_len) de_int) (dw_or (dt_not (dt_val (de_call c_is_whole hr hB tk (dm_cons (de_ix (dv 2) de_int) dm_nil)))) (dw_or1 (dt_not (dt_val (de_isi (de_ix (dv 2) de_int) (by rfl) Z.isinstance (by rfl) Z.tuple bt_tuple (by decide))))))))).dt (dss_one (ds_ret de_bl)) dss_nil)
      (dss_cons (ds_asgT (dv 2) (dg_tup rfl (dgs_cons (dg_name 3 (nl hL (by decide)) nd) (dgs_cons (dg_name 4 (nl hL (by decide)) nd) dgs_nil))))
      (dss_cons (ds_if (dt_val (de_callB (dcl_any rfl) (da_cons (de_lc (own := [("step", 8), ("rest", 9)]) (di_zip (df_cons (dv 0) (df_cons (dv 1) df_nil)) (by rfl) Z.zip) (blkOk_by (N := N_shows_none) (sc := defScope s_shows_none) (by decide +kernel)) (by decide) (nls hL (by decide)) nd (fun _ _ _ _ _ => (dg_tup rfl (dgs_cons (dg_name 8 (nl hL (by decide)) nd) (dgs_cons (dg_name 9 (nl hL (by decide)) nd) dgs_nil)))) (fun _ _ _ _ _ => dts_nil) (fun _ _ _ _ _ => (de_and (de_cmp dop_isNot (dv 9) de_non) (de_one (de_cmp (dop_eq hu) (de_op dop_mod (dv 3) (dv 8)) (dv 9)))))) da_nil) (by rfl) Z.any_ bt_any)) (dss_one (ds_ret de_bl)) dss_nil)
      (dss_cons (ds_setLc 5 (own := [("place", 6)]) (di_rng1 (de_callB dcl_len (da_cons (dv 0) da_nil) (by rfl) Z.len bt_len) (by rfl) Z.range_) (blkOk_by (N := N_shows_none) (sc := defScope s_shows_none) (by decide +kernel)) (by decide) (nls hL (by decide)) (nl hL (by decide)) nd (fun _ _ _ _ _ => (dg_name 6 (nl hL (by decide)) nd)) (fun _ _ _ _ _ => (dts_one (dt_cmp dop_is (de_ix (dv 1) (dv 6)) de_non))) (fun _ _ _ _ _ => (dv 6)))
      (dss_cons (ds_if (dt_cmp (dop_ne hu) (de_callB dcl_len (da_cons (dv 4) da_nil) (by rfl) Z.len bt_len) (de_callB dcl_len (da_cons (dv 5) da_nil) (by rfl) Z.len bt_len)) (dss_one (ds_ret de_bl)) dss_nil)
      (dss_cons (ds_for hp (di_zip (df_cons (dv 5) (df_cons (dv 4) df_nil)) (by rfl) Z.zip) (dg_tup rfl (dgs_cons (dg_name 6 (nl hL (by decide)) nd) (dgs_cons (dg_name 7 (nl hL (by decide)) nd) dgs_nil))) (dss_one (ds_if (dt_not (dt_val (de_call c_shows_none hr hB tk (dm_cons (dv 0) (dm_cons (de_op dop_add (de_op dop_add (de_sl (dv 1) do_none (do_some (dv 6))) (de_lst (df_cons (de_op dop_mod (dv 3) (de_ix (dv 0) (dv 6))) df_nil))) (de_sl (dv 1) (do_some (de_op dop_add (dv 6) de_int)) do_none)) (dm_cons (dv 7) dm_nil)))))) (dss_one (ds_ret de_bl)) dss_nil)))
      (dss_one (ds_ret de_bl))))))))
theorem ok_cases_good {f : Addr} {fd : FuncData} (F : Fun K "cases_good" "cases_good" s_cases_good f fd) (Z : Zs mg) (c_check_steps : Cal P w K mg base 10 "check_steps" 1 sp_check_steps) (c_shows_none : Cal P w K mg base 10 "shows_none" 3 (sp_shows_none 9)) : FnOk P w K mg base (L2N.CX P w) 11 f fd ["steps", "thing"] (low K mg 2 sp_cases_good) := by
  refine def_ok (N := N_cases_good) (ps := ["steps", "thing"]) F sc_cases_good (ls := []) (wb := w_cases_good) (fun cdv A outer s H E B hr hB hL tk hp => ?_) vc_cases_good
  have nd := sc_cases_good.nd
  have hu := hr.u65
  have hu7 := hr.u67
  exact (dss_cons (ds_expr (de_call c_check_steps hr hB tk (dm_cons (dv 0) dm_nil)))
      (dss_one (ds_ret (de_call c_shows_none hr hB tk (dm_cons (dv 0) (dm_cons (de_rep (de_lst (df_cons de_non df_nil)) (de_callB dcl_len (da_cons (dv 0) da_nil) (by rfl) Z.len bt_len)) (dm_cons (dv 1) dm_nil)))))))
theorem ok_first_left {f : Addr} {fd : FuncData} (F : Fun K "first_left" "first_left" s_first_left f fd) (Z : Zs mg)  : FnOk P w K mg base (L2N.CX P w) 1 f fd ["steps", "kept"] (low K mg 2 sp_first_left) := by
  refine def_ok (N := N_first_left) (ps := ["steps", "kept"]) F sc_first_left (ls := []) (wb := w_first_left) (fun cdv A outer s H E B hr hB hL tk hp => ?_) vc_first_left
  have nd := sc_first_left.nd
  have hu := hr.u65
  have hu7 := hr.u67
  exact (dss_cons (ds_set 2 de_int (nl hL (by decide)) nd)
      (dss_cons (ds_while hp (dt_val (de_callB (dcl_any rfl) (da_cons (de_lc (own := [("step", 3), ("rest", 4)]) (di_zip (df_cons (dv 0) (df_cons (dv 1) df_nil)) (by rfl) Z.zip) (blkOk_by (N := N_first_left) (sc := defScope s_first_left) (by decide +kernel)) (by decide) (nls hL (by decide)) nd (fun _ _ _ _ _ => (dg_tup rfl (dgs_cons (dg_name 3 (nl hL (by decide)) nd) (dgs_cons (dg_name 4 (nl hL (by decide)) nd) dgs_nil)))) (fun _ _ _ _ _ => dts_nil) (fun _ _ _ _ _ => (de_and (de_cmp dop_isNot (dv 4) de_non) (de_one (de_cmp (dop_eq hu) (de_op dop_mod (dv 2) (dv 3)) (dv 4)))))) da_nil) (by rfl) Z.any_ bt_any)) (dss_one (ds_aug 2 ip_add de_int (nl hL (by decide)) nd)))
      (dss_one (ds_ret (dv 2)))))
theorem ok_cases_from (n k : Nat) {f : Addr} {fd : FuncData} (F : Fun K "cases_from" "cases_from" s_cases_from f fd) (Z : Zs mg) (c_first_left : Cal P w K mg base k "first_left" 2 sp_first_left) (c_cases_from : Cal P w K mg base k "cases_from" 2 (sp_cases_from n)) : FnOk P w K mg base (L2N.CX P w) (k + 1) f fd ["steps", "kept"] (low K mg 2 (sp_cases_from (n + 1))) := by
  refine def_ok (N := N_cases_from) (ps := ["steps", "kept"]) F sc_cases_from (ls := []) (wb := w_cases_from n) (fun cdv A outer s H E B hr hB hL tk hp => ?_) (vc_cases_from n)
  have nd := sc_cases_from.nd
  have hu := hr.u65
  have hu7 := hr.u67
  exact (dss_cons (ds_set 2 (de_call c_first_left hr hB tk (dm_cons (dv 0) (dm_cons (dv 1) dm_nil))) (nl hL (by decide)) nd)
      (dss_cons (ds_set 3 (de_lst df_nil) (nl hL (by decide)) nd)
      (dss_cons (ds_for hp (di_enum (df_cons (dv 0) df_nil) (by rfl) Z.enumerate) (dg_tup rfl (dgs_cons (dg_name 4 (nl hL (by decide)) nd) (dgs_cons (dg_name 5 (nl hL (by decide)) nd) dgs_nil))) (dss_one (ds_if (dt_cmp dop_is (de_ix (dv 1) (dv 4)) de_non) (dss_one (ds_expr (de_append 3 (de_call c_cases_from hr hB tk (dm_cons (dv 0) (dm_cons (de_op dop_add (de_op dop_add (de_sl (dv 1) do_none (do_some (dv 4))) (de_lst (df_cons (de_op dop_mod (dv 2) (dv 5)) df_nil))) (de_sl (dv 1) (do_some (de_op dop_add (dv 4) de_int)) do_none)) dm_nil)))))) dss_nil)))
      (dss_one (ds_ret (de_tup (df_cons (dv 2) (df_cons (de_callTy dcl_tuple (da_cons (dv 3) da_nil) (by rfl) Z.tuple bt_tuple) df_nil))))))))
theorem ok_cases_for {f : Addr} {fd : FuncData} (F : Fun K "cases_for" "cases_for" s_cases_for f fd) (Z : Zs mg) (c_rests_for : Cal P w K mg base 10 "rests_for" 1 sp_rests_for) (c_cases_from : Cal P w K mg base 10 "cases_from" 2 (sp_cases_from 9)) : FnOk P w K mg base (L2N.CX P w) 11 f fd ["steps"] (low K mg 1 sp_cases_for) := by
  refine def_ok (N := N_cases_for) (ps := ["steps"]) F sc_cases_for (ls := []) (wb := w_cases_for) (fun cdv A outer s H E B hr hB hL tk hp => ?_) vc_cases_for
  have nd := sc_cases_for.nd
  have hu := hr.u65
  have hu7 := hr.u67
  exact (dss_cons (ds_if (dt_cmp dop_isNot (de_call c_rests_for hr hB tk (dm_cons (dv 0) dm_nil)) de_non) (dss_one (ds_ret de_non)) dss_nil)
      (dss_one (ds_ret (de_call c_cases_from hr hB tk (dm_cons (dv 0) (dm_cons (de_rep (de_lst (df_cons de_non df_nil)) (de_callB dcl_len (da_cons (dv 0) da_nil) (by rfl) Z.len bt_len)) dm_nil))))))
theorem ok_first_missed {f : Addr} {fd : FuncData} (F : Fun K "first_missed" "first_missed" s_first_missed f fd) (Z : Zs mg) (c_check_round : Cal P w K mg base 3 "check_round" 1 sp_check_round) (c_round_of : Cal P w K mg base 3 "round_of" 1 sp_round_of) (c_rings_at : Cal P w K mg base 3 "rings_at" 2 sp_rings_at) : FnOk P w K mg base (L2N.CX P w) 4 f fd ["clocks"] (low K mg 1 sp_first_missed) := by
  refine def_ok (N := N_first_missed) (ps := ["clocks"]) F sc_first_missed (ls := []) (wb := w_first_missed) (fun cdv A outer s H E B hr hB hL tk hp => ?_) vc_first_missed
  have nd := sc_first_missed.nd
  have hu := hr.u65
  have hu7 := hr.u67
  exact (dss_cons (ds_expr (de_call c_check_round hr hB tk (dm_cons (dv 0) dm_nil)))
      (dss_cons (ds_for hp (di_rng1 (de_call c_round_of hr hB tk (dm_cons (dv 0) dm_nil)) (by rfl) Z.range_) (dg_name 1 (nl hL (by decide)) nd) (dss_one (ds_if (dt_cmp (dop_eq hu) (de_call c_rings_at hr hB tk (dm_cons (dv 0) (dm_cons (dv 1) dm_nil))) (de_lst df_nil)) (dss_one (ds_ret (dv 1))) dss_nil)))
      (dss_one (ds_ret de_non))))
theorem ok_covers {f : Addr} {fd : FuncData} (F : Fun K "covers" "covers" s_covers f fd) (Z : Zs mg) (c_first_missed : Cal P w K mg base 4 "first_missed" 1 sp_first_missed) : FnOk P w K mg base (L2N.CX P w) 5 f fd ["clocks"] (low K mg 1 sp_covers) := by
  refine def_ok (N := N_covers) (ps := ["clocks"]) F sc_covers (ls := []) (wb := w_covers) (fun cdv A outer s H E B hr hB hL tk hp => ?_) vc_covers
  have nd := sc_covers.nd
  have hu := hr.u65
  have hu7 := hr.u67
  exact (dss_one (ds_ret (de_cmp dop_is (de_call c_first_missed hr hB tk (dm_cons (dv 0) dm_nil)) de_non)))
theorem ok__law_cell_at {f : Addr} {fd : FuncData} (F : Fun K "_law_cell_at" "_law_cell_at" s__law_cell_at f fd) (Z : Zs mg)  : FnOk P w K mg base (L2N.CX P w) 1 f fd ["script", "k"] (low K mg 2 sp__law_cell_at) := by
  refine def_ok (N := N__law_cell_at) (ps := ["script", "k"]) F sc__law_cell_at (ls := []) (wb := w__law_cell_at) (fun cdv A outer s H E B hr hB hL tk hp => ?_) vc__law_cell_at
  have nd := sc__law_cell_at.nd
  have hu := hr.u65
  have hu7 := hr.u67
  exact (dss_cons (ds_if (dt_cmp (dop_lt hu) (dv 1) (de_callB dcl_len (da_cons (dv 0) da_nil) (by rfl) Z.len bt_len)) (dss_one (ds_ret (de_ix (dv 0) (dv 1)))) dss_nil)
      (dss_one (ds_ret de_int)))
theorem ok__law_next {f : Addr} {fd : FuncData} (F : Fun K "_law_next" "_law_next" s__law_next f fd) (Z : Zs mg)  : FnOk P w K mg base (L2N.CX P w) 1 f fd ["seed"] (low K mg 1 sp__law_next) := by
  refine def_ok (N := N__law_next) (ps := ["seed"]) F sc__law_next (ls := []) (wb := w__law_next) (fun cdv A outer s H E B hr hB hL tk hp => ?_) vc__law_next
  have nd := sc__law_next.nd
  have hu := hr.u65
  have hu7 := hr.u67
  exact (dss_cons (ds_set 0 (de_op dop_mod (de_op dop_add (dv 0) de_int) de_int) (nl hL (by decide)) nd)
      (dss_one (ds_ret (de_op dop_mod (de_op dop_add (de_op dop_add (de_op dop_mul (dv 0) (dv 0)) (de_op dop_mul de_int (dv 0))) de_int) de_int))))
theorem ok__law_pen_of {f : Addr} {fd : FuncData} (F : Fun K "_law_pen_of" "_law_pen_of" s__law_pen_of f fd) (Z : Zs mg)  : FnOk P w K mg base (L2N.CX P w) 1 f fd ["cell"] (low K mg 1 sp__law_pen_of) := by
  refine def_ok (N := N__law_pen_of) (ps := ["cell"]) F sc__law_pen_of (ls := []) (wb := w__law_pen_of) (fun cdv A outer s H E B hr hB hL tk hp => ?_) vc__law_pen_of
  have nd := sc__law_pen_of.nd
  have hu := hr.u65
  have hu7 := hr.u67
  exact (dss_cons (ds_set 1 (de_callB (dcl_max rfl) (da_cons (dv 0) (da_cons (de_op dop_sub de_int (dv 0)) da_nil)) (by rfl) Z.max_ bt_max) (nl hL (by decide)) nd)
      (dss_one (ds_ret (de_lst (df_cons (dv 1) (df_cons (de_callTy dcl_int (da_cons (de_cmp (dop_ge hu) (dv 1) (de_op dop_pow de_int de_int)) da_nil) (by rfl) Z.int_ bt_int) (df_cons (de_op dop_mod (dv 1) de_int) df_nil)))))))
theorem ok__law_draw {f : Addr} {fd : FuncData} (F : Fun K "_law_draw" "_law_draw" s__law_draw f fd) (Z : Zs mg) (c__law_next : Cal P w K mg base 1 "_law_next" 1 sp__law_next) : FnOk P w K mg base (L2N.CX P w) 2 f fd ["pen", "many"] (low K mg 2 sp__law_draw) := by
  refine def_ok (N := N__law_draw) (ps := ["pen", "many"]) F sc__law_draw (ls := [0]) (wb := w__law_draw) (fun cdv A outer s H E B hr hB hL tk hp => ?_) vc__law_draw
  have nd := sc__law_draw.nd
  have hu := hr.u65
  have hu7 := hr.u67
  exact (dss_cons (ds_if (dt_cmp (dop_eq hu) (de_ix (dv 0) de_int) de_int) (dss_cons (ds_set 2 (de_op dop_mod (de_ix (dv 0) de_int) (dv 1)) (nl hL (by decide)) nd)
      (dss_cons (ds_setIx 0 (de_op dop_fdiv (de_ix (dv 0) de_int) (dv 1)) de_int)
      (dss_one (ds_ret (dv 2))))) dss_nil)
      (dss_cons (ds_setIx 0 (de_call c__law_next hr hB tk (dm_cons (de_op dop_add (de_call c__law_next hr hB tk (dm_cons (de_ix (dv 0) de_int) dm_nil)) de_int) dm_nil)) de_int)
      (dss_one (ds_ret (de_op dop_mod (de_op dop_fdiv (de_ix (dv 0) de_int) de_int) (dv 1))))))
theorem ok__law_split {f : Addr} {fd : FuncData} (F : Fun K "_law_split" "_law_split" s__law_split f fd) (Z : Zs mg) (c__law_draw : Cal P w K mg base 2 "_law_draw" 2 sp__law_draw) : FnOk P w K mg base (L2N.CX P w) 3 f fd ["pen", "times"] (low K mg 2 sp__law_split) := by
  refine def_ok (N := N__law_split) (ps := ["pen", "times"]) F sc__law_split (ls := [0]) (wb := w__law_split) (fun cdv A outer s H E B hr hB hL tk hp => ?_) vc__law_split
  have nd := sc__law_split.nd
  have hu := hr.u65
  have hu7 := hr.u67
  exact (dss_cons (ds_set 2 (de_lst (df_cons (de_tup (df_cons de_int (df_cons de_int df_nil))) df_nil)) (nl hL (by decide)) nd)
      (dss_cons (ds_for hp (di_rng1 (dv 1) (by rfl) Z.range_) (dg_name 3 (nl hL (by decide)) nd) (dss_cons (ds_set 4 (de_call c__law_draw hr hB tk (dm_lend 0 (dm_cons (de_callB dcl_len (da_cons (dv 2) da_nil) (by rfl) Z.len bt_len) dm_nil))) (nl hL (by decide)) nd)
      (dss_cons (ds_set 5 (de_ix (de_lst (df_cons de_int (df_cons de_int (df_cons de_int df_nil)))) (de_call c__law_draw hr hB tk (dm_lend 0 (dm_cons de_int dm_nil)))) (nl hL (by decide)) nd)
      (dss_cons (ds_asgT (de_ix (dv 2) (dv 4)) (dg_tup rfl (dgs_cons (dg_name 6 (nl hL (by decide)) nd) (dgs_cons (dg_name 7 (nl hL (by decide)) nd) dgs_nil))))
      (dss_one (ds_if ((dw_and (dt_cmp (dop_lt hu) (de_op dop_add (de_callB dcl_len (da_cons (dv 2) da_nil) (by rfl) Z.len bt_len) (dv 5)) de_int) (dw_and1 (dt_cmp (dop_lt hu) (de_op dop_mul (dv 6) (dv 5)) de_int)))).dt (dss_one (ds_set 2 (de_op dop_add (de_op dop_add (de_sl (dv 2) do_none (do_some (dv 4))) (de_lc (own := [("part", 8)]) (di_rng1 (dv 5) (by rfl) Z.range_) (blkOk_by (N := N__law_split) (sc := defScope s__law_split) (by decide +kernel)) (by decide) (nls hL (by decide)) nd (fun _ _ _ _ _ => (dg_name 8 (nl hL (by decide)) nd)) (fun _ _ _ _ _ => dts_nil) (fun _ _ _ _ _ => (de_tup (df_cons (de_op dop_mul (dv 6) (dv 5)) (df_cons (de_op dop_add (dv 7) (de_op dop_mul (dv 6) (dv 8))) df_nil)))))) (de_sl (dv 2) (do_some (de_op dop_add (dv 4) de_int)) do_none)) (nl hL (by decide)) nd)) dss_nil))))))
      (dss_one (ds_ret (dv 2)))))
theorem ok__law_steps_of {f : Addr} {fd : FuncData} (F : Fun K "_law_steps_of" "_law_steps_of" s__law_steps_of f fd) (Z : Zs mg) (c__law_draw : Cal P w K mg base 3 "_law_draw" 2 sp__law_draw) (c__law_split : Cal P w K mg base 3 "_law_split" 2 sp__law_split) : FnOk P w K mg base (L2N.CX P w) 4 f fd ["pen"] (low K mg 1 sp__law_steps_of) := by
  refine def_ok (N := N__law_steps_of) (ps := ["pen"]) F sc__law_steps_of (ls := [0]) (wb := w__law_steps_of) (fun cdv A outer s H E B hr hB hL tk hp => ?_) vc__law_steps_of
  have nd := sc__law_steps_of.nd
  have hu := hr.u65
  have hu7 := hr.u67
  exact (dss_cons (ds_set 1 (de_call c__law_draw hr hB tk (dm_lend 0 (dm_cons de_int dm_nil))) (nl hL (by decide)) nd)
      (dss_cons (ds_if (dt_cmp (dop_lt hu) (dv 1) de_int) (dss_cons (ds_set 2 (de_sl (de_lc (own := [("clock", 3)]) (di_seq (de_call c__law_split hr hB tk (dm_lend 0 (dm_cons (de_op dop_add de_int (de_call c__law_draw hr hB tk (dm_lend 0 (dm_cons de_int dm_nil)))) dm_nil)))) (blkOk_by (N := N__law_steps_of) (sc := defScope s__law_steps_of) (by decide +kernel)) (by decide) (nls hL (by decide)) nd (fun _ _ _ _ _ => (dg_name 3 (nl hL (by decide)) nd)) (fun _ _ _ _ _ => dts_nil) (fun _ _ _ _ _ => (de_ix (dv 3) de_int))) do_none (do_some de_int)) (nl hL (by decide)) nd)
      (dss_cons (ds_setLc 2 (own := [("step", 4)]) (di_seq (dv 2)) (blkOk_by (N := N__law_steps_of) (sc := defScope s__law_steps_of) (by decide +kernel)) (by decide) (nls hL (by decide)) (nl hL (by decide)) nd (fun _ _ _ _ _ => (dg_name 4 (nl hL (by decide)) nd)) (fun _ _ _ _ _ => (dts_one (dt_cmp (dop_gt hu) (dv 4) de_int))) (fun _ _ _ _ _ => (dv 4)))
      (dss_cons (ds_if ((dw_and (dt_cmp (dop_eq hu) (dv 1) de_int) (dw_and1 (dt_cmp (dop_lt hu) (de_callB dcl_len (da_cons (dv 2) da_nil) (by rfl) Z.len bt_len) de_int)))).dt (dss_one (ds_expr (de_append 2 (de_ix (de_lst (df_cons de_int (df_cons de_int (df_cons de_int (df_cons de_int (df_cons de_int df_nil)))))) (de_call c__law_draw hr hB tk (dm_lend 0 (dm_cons de_int dm_nil))))))) dss_nil)
      (dss_one (ds_if (dt_cmp (dop_ne hu) (dv 2) (de_lst df_nil)) (dss_one (ds_ret (dv 2))) dss_nil))))) dss_nil)
      (dss_one (ds_ret (de_lc (own := [("turn", 5)]) (di_rng1 (de_op dop_add de_int (de_call c__law_draw hr hB tk (dm_lend 0 (dm_cons de_int dm_nil)))) (by rfl) Z.range_) (blkOk_by (N := N__law_steps_of) (sc := defScope s__law_steps_of) (by decide +kernel)) (by decide) (nls hL (by decide)) nd (fun _ _ _ _ _ => (dg_name 5 (nl hL (by decide)) nd)) (fun _ _ _ _ _ => dts_nil) (fun _ _ _ _ _ => (de_ix (de_lst (df_cons de_int (df_cons de_int (df_cons de_int (df_cons de_int (df_cons de_int (df_cons de_int (df_cons de_int (df_cons de_int df_nil))))))))) (de_call c__law_draw hr hB tk0 (dm_lend 0 (dm_cons de_int dm_nil))))))))))
theorem ok__law_product {f : Addr} {fd : FuncData} (F : Fun K "_law_product" "_law_product" s__law_product f fd) (Z : Zs mg)  : FnOk P w K mg base (L2N.CX P w) 1 f fd ["steps"] (low K mg 1 sp__law_product) := by
  refine def_ok (N := N__law_product) (ps := ["steps"]) F sc__law_product (ls := []) (wb := w__law_product) (fun cdv A outer s H E B hr hB hL tk hp => ?_) vc__law_product
  have nd := sc__law_product.nd
  have hu := hr.u65
  have hu7 := hr.u67
  exact (dss_cons (ds_set 1 de_int (nl hL (by decide)) nd)
      (dss_cons (ds_for hp (di_seq (dv 0)) (dg_name 2 (nl hL (by decide)) nd) (dss_one (ds_set 1 (de_op dop_mul (dv 1) (dv 2)) (nl hL (by decide)) nd)))
      (dss_one (ds_ret (dv 1)))))
theorem ok__law_rests_right {f : Addr} {fd : FuncData} (F : Fun K "_law_rests_right" "_law_rests_right" s__law_rests_right f fd) (Z : Zs mg) (c_rests_good : Cal P w K mg base 10 "rests_good" 2 sp_rests_good) (c_clocks_of : Cal P w K mg base 10 "clocks_of" 1 sp_clocks_of) (c_covers : Cal P w K mg base 10 "covers" 1 sp_covers) (c_steps_share : Cal P w K mg base 10 "steps_share" 1 sp_steps_share) (c_exact_good : Cal P w K mg base 10 "exact_good" 1 sp_exact_good) (c__law_draw : Cal P w K mg base 10 "_law_draw" 2 sp__law_draw) (c_rests_for : Cal P w K mg base 10 "rests_for" 1 sp_rests_for) : FnOk P w K mg base (L2N.CX P w) 11 f fd ["pen", "steps", "rests"] (low K mg 3 sp__law_rests_right) := by
  refine def_ok (N := N__law_rests_right) (ps := ["pen", "steps", "rests"]) F sc__law_rests_right (ls := [0]) (wb := w__law_rests_right) (fun cdv A outer s H E B hr hB hL tk hp => ?_) vc__law_rests_right
  have nd := sc__law_rests_right.nd
  have hu := hr.u65
  have hu7 := hr.u67
  exact (dss_cons (ds_if (dt_not (dt_val (de_call c_rests_good hr hB tk (dm_cons (de_callTy dcl_list (da_cons (dv 1) da_nil) (by rfl) Z.list_ bt_list) (dm_cons (dv 2) dm_nil))))) (dss_one (ds_ret de_bl)) dss_nil)
      (dss_cons (ds_set 3 (de_call c_clocks_of hr hB tk (dm_cons (de_sortSet hu rfl (by rfl) Z.sorted (by rfl) Z.set_ (de_lstZip rfl (by rfl) Z.list_ (by rfl) Z.zip (df_cons (dv 1) (df_cons (dv 2) df_nil)))) dm_nil)) (nl hL (by decide)) nd)
      (dss_cons (ds_if ((dw_or (dt_not (dt_val (de_call c_covers hr hB tk (dm_cons (dv 3) dm_nil)))) (dw_or1 ((dw_and (dt_cmp (dop_eq hu) (de_call c_steps_share hr hB tk (dm_cons (de_callTy dcl_list (da_cons (dv 1) da_nil) (by rfl) Z.list_ bt_list) dm_nil)) (de_tup (df_cons de_int (df_cons de_int df_nil)))) (dw_and1 (dt_not (dt_val (de_call c_exact_good hr hB tk (dm_cons (dv 3) dm_nil))))))).dt))).dt (dss_one (ds_ret de_bl)) dss_nil)
      (dss_cons (ds_set 4 (de_call c__law_draw hr hB tk (dm_lend 0 (dm_cons (de_callB dcl_len (da_cons (dv 1) da_nil) (by rfl) Z.len bt_len) dm_nil))) (nl hL (by decide)) nd)
      (dss_cons (ds_setLc 5 (own := [("step", 7)]) (di_rng2 de_int (de_op dop_add (de_ix (dv 1) (dv 4)) de_int) (by rfl) Z.range_) (blkOk_by (N := N__law_rests_right) (sc := defScope s__law_rests_right) (by decide +kernel)) (by decide) (nls hL (by decide)) (nl hL (by decide)) nd (fun _ _ _ _ _ => (dg_name 7 (nl hL (by decide)) nd)) (fun _ _ _ _ _ => (dts_one (dt_cmp (dop_eq hu) (de_op dop_mod (de_ix (dv 1) (dv 4)) (dv 7)) de_int))) (fun _ _ _ _ _ => (dv 7)))
      (dss_cons (ds_set 6 (de_op dop_add (de_op dop_add (de_sl (dv 1) do_none (do_some (dv 4))) (de_lst (df_cons (de_ix (dv 5) (de_call c__law_draw hr hB tk (dm_lend 0 (dm_cons (de_callB dcl_len (da_cons (dv 5) da_nil) (by rfl) Z.len bt_len) dm_nil)))) df_nil))) (de_sl (dv 1) (do_some (de_op dop_add (dv 4) de_int)) do_none)) (nl hL (by decide)) nd)
      (dss_one (ds_ret (de_and (de_cmp dop_isNot (de_call c_rests_for hr hB tk (dm_cons (dv 6) dm_nil)) de_non) (de_one (de_cmp dop_isNot (de_call c_rests_for hr hB tk (dm_cons (de_op dop_add (de_sl (dv 1) do_none (do_some de_int)) (de_lst (df_cons de_int df_nil))) dm_nil)) de_non)))))))))))
theorem ok__law_right {f : Addr} {fd : FuncData} (F : Fun K "_law_right" "_law_right" s__law_right f fd) (Z : Zs mg) (c_rests_for : Cal P w K mg base 11 "rests_for" 1 sp_rests_for) (c_cases_for : Cal P w K mg base 11 "cases_for" 1 sp_cases_for) (c_cases_good : Cal P w K mg base 11 "cases_good" 2 sp_cases_good) (c_steps_share : Cal P w K mg base 11 "steps_share" 1 sp_steps_share) (c__law_product : Cal P w K mg base 11 "_law_product" 1 sp__law_product) (c_rests_many : Cal P w K mg base 11 "rests_many" 1 sp_rests_many) (c__law_rests_right : Cal P w K mg base 11 "_law_rests_right" 3 sp__law_rests_right) : FnOk P w K mg base (L2N.CX P w) 12 f fd ["pen", "steps"] (low K mg 2 sp__law_right_k45) := by
  refine def_ok (N := N__law_right) (ps := ["pen", "steps"]) F sc__law_right (ls := [0]) (wb := w__law_right_k45) (fun cdv A outer s H E B hr hB hL tk hp => ?_) vc__law_right_k45
  have nd := sc__law_right.nd
  have hu := hr.u65
  have hu7 := hr.u67
  exact (dss_cons (ds_set 2 (de_call c_rests_for hr hB tk (dm_cons (de_callTy dcl_list (da_cons (dv 1) da_nil) (by rfl) Z.list_ bt_list) dm_nil)) (nl hL (by decide)) nd)
      (dss_cons (ds_set 3 (de_call c_cases_for hr hB tk (dm_cons (de_callTy dcl_list (da_cons (dv 1) da_nil) (by rfl) Z.list_ bt_list) dm_nil)) (nl hL (by decide)) nd)
      (dss_cons (ds_if ((dw_or (dt_cmp (dop_ne hu) (de_cmp dop_is (dv 2) de_non) (de_cmp dop_isNot (dv 3) de_non)) (dw_or1 ((dw_and (dt_cmp dop_isNot (dv 3) de_non) (dw_and1 (dt_not (dt_val (de_call c_cases_good hr hB tk (dm_cons (de_callTy dcl_list (da_cons (dv 1) da_nil) (by rfl) Z.list_ bt_list) (dm_cons (dv 3) dm_nil)))))))).dt))).dt (dss_one (ds_ret de_bl)) dss_nil)
      (dss_cons (ds_asgT (de_call c_steps_share hr hB tk (dm_cons (de_callTy dcl_list (da_cons (dv 1) da_nil) (by rfl) Z.list_ bt_list) dm_nil)) (dg_tup rfl (dgs_cons (dg_name 4 (nl hL (by decide)) nd) (dgs_cons (dg_name 5 (nl hL (by decide)) nd) dgs_nil))))
      (dss_cons (ds_if ((dw_and (dt_cmp (dop_lt hu) (dv 4) (dv 5)) (dw_and1 (dt_cmp dop_isNot (dv 2) de_non)))).dt (dss_one (ds_ret de_bl)) dss_nil)
      (dss_cons (ds_if (dt_cmp (dop_lt hu) (de_call c__law_product hr hB tk (dm_cons (dv 1) dm_nil)) de_int) (dss_cons (ds_set 6 (de_call c_rests_many hr hB tk (dm_cons (de_callTy dcl_list (da_cons (dv 1) da_nil) (by rfl) Z.list_ bt_list) dm_nil)) (nl hL (by decide)) nd)
      (dss_one (ds_if ((dw_or (dt_cmp (dop_ne hu) (de_call c_rests_many hr hB tk (dm_cons (de_rev (dv 1)) dm_nil)) (dv 6)) (dw_or1 (dt_cmp (dop_ne hu) (de_cmp (dop_gt hu) (dv 6) de_int) (de_cmp dop_isNot (dv 2) de_non))))).dt (dss_one (ds_ret de_bl)) dss_nil))) dss_nil)
      (dss_one (ds_ret (de_or (de_cmp dop_is (dv 2) de_non) (de_one (de_call c__law_rests_right hr hB tk (dm_lend 0 (dm_cons (dv 1) (dm_cons (dv 2) dm_nil))))))))))))))
theorem ok_law {f : Addr} {fd : FuncData} (F : Fun K "law" "law" s_law f fd) (Z : Zs mg) (c__law_cell_at : Cal P w K mg base 12 "_law_cell_at" 2 sp__law_cell_at) (c__law_pen_of : Cal P w K mg base 12 "_law_pen_of" 1 sp__law_pen_of) (c__law_steps_of : Cal P w K mg base 12 "_law_steps_of" 1 sp__law_steps_of) (c__law_right : Cal P w K mg base 12 "_law_right" 2 sp__law_right_k45) : FnOk P w K mg base (L2N.CX P w) 13 f fd ["script"] (low K mg 1 sp_law_k45) := by
  refine def_ok (N := N_law) (ps := ["script"]) F sc_law (ls := []) (wb := w_law_k45) (fun cdv A outer s H E B hr hB hL tk hp => ?_) vc_law_k45
  have nd := sc_law.nd
  have hu := hr.u65
  have hu7 := hr.u67
  exact (dss_cons (ds_for hp (di_seq (de_op dop_add (de_lst (df_cons (de_call c__law_cell_at hr hB tk (dm_cons (dv 0) (dm_cons de_int dm_nil))) df_nil)) (de_sl (dv 0) (do_some de_int) (do_some de_int)))) (dg_name 1 (nl hL (by decide)) nd) (dss_cons (ds_set 2 (de_call c__law_pen_of hr hB tk (dm_cons (dv 1) dm_nil)) (nl hL (by decide)) nd)
      (dss_one (ds_if (dt_not (dt_val (de_call c__law_right hr hB tk (dm_lend 2 (dm_cons (de_sl (de_call c__law_steps_of hr hB tk (dm_lend 2 dm_nil)) do_none (do_some de_int)) dm_nil))))) (dss_one (ds_ret de_bl)) dss_nil))))
      (dss_one (ds_ret de_bl)))
end
theorem all_mk {l : PySem.W.OpenLaw} {w : World} {K : PySem.W.Frag} {h : Heap} {mg : Str → Option Value} {fa f1 f2 f3 f4 f5 f6 f7 f8 f9 f10 f11 f12 f13 f14 f15 f16 f17 f18 f19 f20 f21 f22 f23 f24 f25 f26 f27 f28 f29 f30 f31 f32 f33 f34 f35 f36 f37 f38 f39 f40 f41 : Addr} (X : K.In h) (G : h.Ns mainGlobals mg) (hfa : mg "law" = some (.ref fa))
    {od1 an1 od2 an2 od3 an3 od4 an4 od5 an5 od6 an6 od7 an7 od8 an8 od9 an9 od10 an10 od11 an11 od12 an12 od13 an13 od14 an14 od15 an15 od16 an16 od17 an17 od18 an18 od19 an19 od20 an20 od21 an21 od22 an22 od23 an23 od24 an24 od25 an25 od26 an26 od27 an27 od28 an28 od29 an29 od30 an30 od31 an31 od32 an32 od33 an33 od34 an34 od35 an35 od36 an36 od37 an37 od38 an38 od39 an39 od40 an40 od41 an41 : Option Addr} {sl1 sl2 sl3 sl4 sl5 sl6 sl7 sl8 sl9 sl10 sl11 sl12 sl13 sl14 sl15 sl16 sl17 sl18 sl19 sl20 sl21 sl22 sl23 sl24 sl25 sl26 sl27 sl28 sl29 sl30 sl31 sl32 sl33 sl34 sl35 sl36 sl37 sl38 sl39 sl40 sl41 : Array (Option Value)} {oc1 kV1 dc1 pm1 cd1 ct1 oc2 kV2 dc2 pm2 cd2 ct2 oc3 kV3 dc3 pm3 cd3 ct3 oc4 kV4 dc4 pm4 cd4 ct4 oc5 kV5 dc5 pm5 cd5 ct5 oc6 kV6 dc6 pm6 cd6 ct6 oc7 kV7 dc7 pm7 cd7 ct7 oc8 kV8 dc8 pm8 cd8 ct8 oc9 kV9 dc9 pm9 cd9 ct9 oc10 kV10 dc10 pm10 cd10 ct10 oc11 kV11 dc11 pm11 cd11 ct11 oc12 kV12 dc12 pm12 cd12 ct12 oc13 kV13 dc13 pm13 cd13 ct13 oc14 kV14 dc14 pm14 cd14 ct14 oc15 kV15 dc15 pm15 cd15 ct15 oc16 kV16 dc16 pm16 cd16 ct16 oc17 kV17 dc17 pm17 cd17 ct17 oc18 kV18 dc18 pm18 cd18 ct18 oc19 kV19 dc19 pm19 cd19 ct19 oc20 kV20 dc20 pm20 cd20 ct20 oc21 kV21 dc21 pm21 cd21 ct21 oc22 kV22 dc22 pm22 cd22 ct22 oc23 kV23 dc23 pm23 cd23 ct23 oc24 kV24 dc24 pm24 cd24 ct24 oc25 kV25 dc25 pm25 cd25 ct25 oc26 kV26 dc26 pm26 cd26 ct26 oc27 kV27 dc27 pm27 cd27 ct27 oc28 kV28 dc28 pm28 cd28 ct28 oc29 kV29 dc29 pm29 cd29 ct29 oc30 kV30 dc30 pm30 cd30 ct30 oc31 kV31 dc31 pm31 cd31 ct31 oc32 kV32 dc32 pm32 cd32 ct32 oc33 kV33 dc33 pm33 cd33 ct33 oc34 kV34 dc34 pm34 cd34 ct34 oc35 kV35 dc35 pm35 cd35 ct35 oc36 kV36 dc36 pm36 cd36 ct36 oc37 kV37 dc37 pm37 cd37 ct37 oc38 kV38 dc38 pm38 cd38 ct38 oc39 kV39 dc39 pm39 cd39 ct39 oc40 kV40 dc40 pm40 cd40 ct40 oc41 kV41 dc41 pm41 cd41 ct41 : Value}
    (a1 : PySem.W.nsIn K mainGlobals "is_whole" = some (some (.ref f1))) (l1 : K.lookup f1 = some ⟨oc1, od1, .func (PySem.W.fnOf "is_whole" "is_whole" (defArgs s_is_whole) (defBody s_is_whole) (defScope s_is_whole) .none kV1 dc1 pm1 an1 cd1 ct1), sl1⟩) (c1 : PySem.W.codeIn K cd1 "is_whole" = true) (k1 : PySem.W.keepIn K (.ref f1) = true)
    (a2 : PySem.W.nsIn K mainGlobals "clock_good" = some (some (.ref f2))) (l2 : K.lookup f2 = some ⟨oc2, od2, .func (PySem.W.fnOf "clock_good" "clock_good" (defArgs s_clock_good) (defBody s_clock_good) (defScope s_clock_good) .none kV2 dc2 pm2 an2 cd2 ct2), sl2⟩) (c2 : PySem.W.codeIn K cd2 "clock_good" = true) (k2 : PySem.W.keepIn K (.ref f2) = true)
    (a3 : PySem.W.nsIn K mainGlobals "clocks_of" = some (some (.ref f3))) (l3 : K.lookup f3 = some ⟨oc3, od3, .func (PySem.W.fnOf "clocks_of" "clocks_of" (defArgs s_clocks_of) (defBody s_clocks_of) (defScope s_clocks_of) .none kV3 dc3 pm3 an3 cd3 ct3), sl3⟩) (c3 : PySem.W.codeIn K cd3 "clocks_of" = true) (k3 : PySem.W.keepIn K (.ref f3) = true)
    (a4 : PySem.W.nsIn K mainGlobals "rings" = some (some (.ref f4))) (l4 : K.lookup f4 = some ⟨oc4, od4, .func (PySem.W.fnOf "rings" "rings" (defArgs s_rings) (defBody s_rings) (defScope s_rings) .none kV4 dc4 pm4 an4 cd4 ct4), sl4⟩) (c4 : PySem.W.codeIn K cd4 "rings" = true) (k4 : PySem.W.keepIn K (.ref f4) = true)
    (a5 : PySem.W.nsIn K mainGlobals "rings_at" = some (some (.ref f5))) (l5 : K.lookup f5 = some ⟨oc5, od5, .func (PySem.W.fnOf "rings_at" "rings_at" (defArgs s_rings_at) (defBody s_rings_at) (defScope s_rings_at) .none kV5 dc5 pm5 an5 cd5 ct5), sl5⟩) (c5 : PySem.W.codeIn K cd5 "rings_at" = true) (k5 : PySem.W.keepIn K (.ref f5) = true)
    (a6 : PySem.W.nsIn K mainGlobals "divisor_of" = some (some (.ref f6))) (l6 : K.lookup f6 = some ⟨oc6, od6, .func (PySem.W.fnOf "divisor_of" "divisor_of" (defArgs s_divisor_of) (defBody s_divisor_of) (defScope s_divisor_of) .none kV6 dc6 pm6 an6 cd6 ct6), sl6⟩) (c6 : PySem.W.codeIn K cd6 "divisor_of" = true) (k6 : PySem.W.keepIn K (.ref f6) = true)
    (a7 : PySem.W.nsIn K mainGlobals "round_of" = some (some (.ref f7))) (l7 : K.lookup f7 = some ⟨oc7, od7, .func (PySem.W.fnOf "round_of" "round_of" (defArgs s_round_of) (defBody s_round_of) (defScope s_round_of) .none kV7 dc7 pm7 an7 cd7 ct7), sl7⟩) (c7 : PySem.W.codeIn K cd7 "round_of" = true) (k7 : PySem.W.keepIn K (.ref f7) = true)
    (a8 : PySem.W.nsIn K mainGlobals "check_round" = some (some (.ref f8))) (l8 : K.lookup f8 = some ⟨oc8, od8, .func (PySem.W.fnOf "check_round" "check_round" (defArgs s_check_round) (defBody s_check_round) (defScope s_check_round) .none kV8 dc8 pm8 an8 cd8 ct8), sl8⟩) (c8 : PySem.W.codeIn K cd8 "check_round" = true) (k8 : PySem.W.keepIn K (.ref f8) = true)
    (a9 : PySem.W.nsIn K mainGlobals "back_of" = some (some (.ref f9))) (l9 : K.lookup f9 = some ⟨oc9, od9, .func (PySem.W.fnOf "back_of" "back_of" (defArgs s_back_of) (defBody s_back_of) (defScope s_back_of) .none kV9 dc9 pm9 an9 cd9 ct9), sl9⟩) (c9 : PySem.W.codeIn K cd9 "back_of" = true) (k9 : PySem.W.keepIn K (.ref f9) = true)
    (a10 : PySem.W.nsIn K mainGlobals "meet_of" = some (some (.ref f10))) (l10 : K.lookup f10 = some ⟨oc10, od10, .func (PySem.W.fnOf "meet_of" "meet_of" (defArgs s_meet_of) (defBody s_meet_of) (defScope s_meet_of) .none kV10 dc10 pm10 an10 cd10 ct10), sl10⟩) (c10 : PySem.W.codeIn K cd10 "meet_of" = true) (k10 : PySem.W.keepIn K (.ref f10) = true)
    (a11 : PySem.W.nsIn K mainGlobals "mark_of" = some (some (.ref f11))) (l11 : K.lookup f11 = some ⟨oc11, od11, .func (PySem.W.fnOf "mark_of" "mark_of" (defArgs s_mark_of) (defBody s_mark_of) (defScope s_mark_of) .none kV11 dc11 pm11 an11 cd11 ct11), sl11⟩) (c11 : PySem.W.codeIn K cd11 "mark_of" = true) (k11 : PySem.W.keepIn K (.ref f11) = true)
    (a12 : PySem.W.nsIn K mainGlobals "shares_of" = some (some (.ref f12))) (l12 : K.lookup f12 = some ⟨oc12, od12, .func (PySem.W.fnOf "shares_of" "shares_of" (defArgs s_shares_of) (defBody s_shares_of) (defScope s_shares_of) .none kV12 dc12 pm12 an12 cd12 ct12), sl12⟩) (c12 : PySem.W.codeIn K cd12 "shares_of" = true) (k12 : PySem.W.keepIn K (.ref f12) = true)
    (a13 : PySem.W.nsIn K mainGlobals "clash_of" = some (some (.ref f13))) (l13 : K.lookup f13 = some ⟨oc13, od13, .func (PySem.W.fnOf "clash_of" "clash_of" (defArgs s_clash_of) (defBody s_clash_of) (defScope s_clash_of) .none kV13 dc13 pm13 an13 cd13 ct13), sl13⟩) (c13 : PySem.W.codeIn K cd13 "clash_of" = true) (k13 : PySem.W.keepIn K (.ref f13) = true)
    (a14 : PySem.W.nsIn K mainGlobals "exact_good" = some (some (.ref f14))) (l14 : K.lookup f14 = some ⟨oc14, od14, .func (PySem.W.fnOf "exact_good" "exact_good" (defArgs s_exact_good) (defBody s_exact_good) (defScope s_exact_good) .none kV14 dc14 pm14 an14 cd14 ct14), sl14⟩) (c14 : PySem.W.codeIn K cd14 "exact_good" = true) (k14 : PySem.W.keepIn K (.ref f14) = true)
    (a15 : PySem.W.nsIn K mainGlobals "check_steps" = some (some (.ref f15))) (l15 : K.lookup f15 = some ⟨oc15, od15, .func (PySem.W.fnOf "check_steps" "check_steps" (defArgs s_check_steps) (defBody s_check_steps) (defScope s_check_steps) .none kV15 dc15 pm15 an15 cd15 ct15), sl15⟩) (c15 : PySem.W.codeIn K cd15 "check_steps" = true) (k15 : PySem.W.keepIn K (.ref f15) = true)
    (a16 : PySem.W.nsIn K mainGlobals "size_of" = some (some (.ref f16))) (l16 : K.lookup f16 = some ⟨oc16, od16, .func (PySem.W.fnOf "size_of" "size_of" (defArgs s_size_of) (defBody s_size_of) (defScope s_size_of) .none kV16 dc16 pm16 an16 cd16 ct16), sl16⟩) (c16 : PySem.W.codeIn K cd16 "size_of" = true) (k16 : PySem.W.keepIn K (.ref f16) = true)
    (a17 : PySem.W.nsIn K mainGlobals "check_size" = some (some (.ref f17))) (l17 : K.lookup f17 = some ⟨oc17, od17, .func (PySem.W.fnOf "check_size" "check_size" (defArgs s_check_size) (defBody s_check_size) (defScope s_check_size) .none kV17 dc17 pm17 an17 cd17 ct17), sl17⟩) (c17 : PySem.W.codeIn K cd17 "check_size" = true) (k17 : PySem.W.keepIn K (.ref f17) = true)
    (a18 : PySem.W.nsIn K mainGlobals "marks_by" = some (some (.ref f18))) (l18 : K.lookup f18 = some ⟨oc18, od18, .func (PySem.W.fnOf "marks_by" "marks_by" (defArgs s_marks_by) (defBody s_marks_by) (defScope s_marks_by) .none kV18 dc18 pm18 an18 cd18 ct18), sl18⟩) (c18 : PySem.W.codeIn K cd18 "marks_by" = true) (k18 : PySem.W.keepIn K (.ref f18) = true)
    (a19 : PySem.W.nsIn K mainGlobals "are_rests" = some (some (.ref f19))) (l19 : K.lookup f19 = some ⟨oc19, od19, .func (PySem.W.fnOf "are_rests" "are_rests" (defArgs s_are_rests) (defBody s_are_rests) (defScope s_are_rests) .none kV19 dc19 pm19 an19 cd19 ct19), sl19⟩) (c19 : PySem.W.codeIn K cd19 "are_rests" = true) (k19 : PySem.W.keepIn K (.ref f19) = true)
    (a20 : PySem.W.nsIn K mainGlobals "rests_good" = some (some (.ref f20))) (l20 : K.lookup f20 = some ⟨oc20, od20, .func (PySem.W.fnOf "rests_good" "rests_good" (defArgs s_rests_good) (defBody s_rests_good) (defScope s_rests_good) .none kV20 dc20 pm20 an20 cd20 ct20), sl20⟩) (c20 : PySem.W.codeIn K cd20 "rests_good" = true) (k20 : PySem.W.keepIn K (.ref f20) = true)
    (a21 : PySem.W.nsIn K mainGlobals "rests_from" = some (some (.ref f21))) (l21 : K.lookup f21 = some ⟨oc21, od21, .func (PySem.W.fnOf "rests_from" "rests_from" (defArgs s_rests_from) (defBody s_rests_from) (defScope s_rests_from) .none kV21 dc21 pm21 an21 cd21 ct21), sl21⟩) (c21 : PySem.W.codeIn K cd21 "rests_from" = true) (k21 : PySem.W.keepIn K (.ref f21) = true)
    (a22 : PySem.W.nsIn K mainGlobals "rests_for" = some (some (.ref f22))) (l22 : K.lookup f22 = some ⟨oc22, od22, .func (PySem.W.fnOf "rests_for" "rests_for" (defArgs s_rests_for) (defBody s_rests_for) (defScope s_rests_for) .none kV22 dc22 pm22 an22 cd22 ct22), sl22⟩) (c22 : PySem.W.codeIn K cd22 "rests_for" = true) (k22 : PySem.W.keepIn K (.ref f22) = true)
    (a23 : PySem.W.nsIn K mainGlobals "rests_many" = some (some (.ref f23))) (l23 : K.lookup f23 = some ⟨oc23, od23, .func (PySem.W.fnOf "rests_many" "rests_many" (defArgs s_rests_many) (defBody s_rests_many) (defScope s_rests_many) .none kV23 dc23 pm23 an23 cd23 ct23), sl23⟩) (c23 : PySem.W.codeIn K cd23 "rests_many" = true) (k23 : PySem.W.keepIn K (.ref f23) = true)
    (a24 : PySem.W.nsIn K mainGlobals "steps_share" = some (some (.ref f24))) (l24 : K.lookup f24 = some ⟨oc24, od24, .func (PySem.W.fnOf "steps_share" "steps_share" (defArgs s_steps_share) (defBody s_steps_share) (defScope s_steps_share) .none kV24 dc24 pm24 an24 cd24 ct24), sl24⟩) (c24 : PySem.W.codeIn K cd24 "steps_share" = true) (k24 : PySem.W.keepIn K (.ref f24) = true)
    (a25 : PySem.W.nsIn K mainGlobals "shows_none" = some (some (.ref f25))) (l25 : K.lookup f25 = some ⟨oc25, od25, .func (PySem.W.fnOf "shows_none" "shows_none" (defArgs s_shows_none) (defBody s_shows_none) (defScope s_shows_none) .none kV25 dc25 pm25 an25 cd25 ct25), sl25⟩) (c25 : PySem.W.codeIn K cd25 "shows_none" = true) (k25 : PySem.W.keepIn K (.ref f25) = true)
    (a26 : PySem.W.nsIn K mainGlobals "cases_good" = some (some (.ref f26))) (l26 : K.lookup f26 = some ⟨oc26, od26, .func (PySem.W.fnOf "cases_good" "cases_good" (defArgs s_cases_good) (defBody s_cases_good) (defScope s_cases_good) .none kV26 dc26 pm26 an26 cd26 ct26), sl26⟩) (c26 : PySem.W.codeIn K cd26 "cases_good" = true) (k26 : PySem.W.keepIn K (.ref f26) = true)
    (a27 : PySem.W.nsIn K mainGlobals "first_left" = some (some (.ref f27))) (l27 : K.lookup f27 = some ⟨oc27, od27, .func (PySem.W.fnOf "first_left" "first_left" (defArgs s_first_left) (defBody s_first_left) (defScope s_first_left) .none kV27 dc27 pm27 an27 cd27 ct27), sl27⟩) (c27 : PySem.W.codeIn K cd27 "first_left" = true) (k27 : PySem.W.keepIn K (.ref f27) = true)
    (a28 : PySem.W.nsIn K mainGlobals "cases_from" = some (some (.ref f28))) (l28 : K.lookup f28 = some ⟨oc28, od28, .func (PySem.W.fnOf "cases_from" "cases_from" (defArgs s_cases_from) (defBody s_cases_from) (defScope s_cases_from) .none kV28 dc28 pm28 an28 cd28 ct28), sl28⟩) (c28 : PySem.W.codeIn K cd28 "cases_from" = true) (k28 : PySem.W.keepIn K (.ref f28) = true)
    (a29 : PySem.W.nsIn K mainGlobals "cases_for" = some (some (.ref f29))) (l29 : K.lookup f29 = some ⟨oc29, od29, .func (PySem.W.fnOf "cases_for" "cases_for" (defArgs s_cases_for) (defBody s_cases_for) (defScope s_cases_for) .none kV29 dc29 pm29 an29 cd29 ct29), sl29⟩) (c29 : PySem.W.codeIn K cd29 "cases_for" = true) (k29 : PySem.W.keepIn K (.ref f29) = true)
    (a30 : PySem.W.nsIn K mainGlobals "first_missed" = some (some (.ref f30))) (l30 : K.lookup f30 = some ⟨oc30, od30, .func (PySem.W.fnOf "first_missed" "first_missed" (defArgs s_first_missed) (defBody s_first_missed) (defScope s_first_missed) .none kV30 dc30 pm30 an30 cd30 ct30), sl30⟩) (c30 : PySem.W.codeIn K cd30 "first_missed" = true) (k30 : PySem.W.keepIn K (.ref f30) = true)
    (a31 : PySem.W.nsIn K mainGlobals "covers" = some (some (.ref f31))) (l31 : K.lookup f31 = some ⟨oc31, od31, .func (PySem.W.fnOf "covers" "covers" (defArgs s_covers) (defBody s_covers) (defScope s_covers) .none kV31 dc31 pm31 an31 cd31 ct31), sl31⟩) (c31 : PySem.W.codeIn K cd31 "covers" = true) (k31 : PySem.W.keepIn K (.ref f31) = true)
    (a32 : PySem.W.nsIn K mainGlobals "_law_cell_at" = some (some (.ref f32))) (l32 : K.lookup f32 = some ⟨oc32, od32, .func (PySem.W.fnOf "_law_cell_at" "_law_cell_at" (defArgs s__law_cell_at) (defBody s__law_cell_at) (defScope s__law_cell_at) .none kV32 dc32 pm32 an32 cd32 ct32), sl32⟩) (c32 : PySem.W.codeIn K cd32 "_law_cell_at" = true) (k32 : PySem.W.keepIn K (.ref f32) = true)
    (a33 : PySem.W.nsIn K mainGlobals "_law_next" = some (some (.ref f33))) (l33 : K.lookup f33 = some ⟨oc33, od33, .func (PySem.W.fnOf "_law_next" "_law_next" (defArgs s__law_next) (defBody s__law_next) (defScope s__law_next) .none kV33 dc33 pm33 an33 cd33 ct33), sl33⟩) (c33 : PySem.W.codeIn K cd33 "_law_next" = true) (k33 : PySem.W.keepIn K (.ref f33) = true)
    (a34 : PySem.W.nsIn K mainGlobals "_law_pen_of" = some (some (.ref f34))) (l34 : K.lookup f34 = some ⟨oc34, od34, .func (PySem.W.fnOf "_law_pen_of" "_law_pen_of" (defArgs s__law_pen_of) (defBody s__law_pen_of) (defScope s__law_pen_of) .none kV34 dc34 pm34 an34 cd34 ct34), sl34⟩) (c34 : PySem.W.codeIn K cd34 "_law_pen_of" = true) (k34 : PySem.W.keepIn K (.ref f34) = true)
    (a35 : PySem.W.nsIn K mainGlobals "_law_draw" = some (some (.ref f35))) (l35 : K.lookup f35 = some ⟨oc35, od35, .func (PySem.W.fnOf "_law_draw" "_law_draw" (defArgs s__law_draw) (defBody s__law_draw) (defScope s__law_draw) .none kV35 dc35 pm35 an35 cd35 ct35), sl35⟩) (c35 : PySem.W.codeIn K cd35 "_law_draw" = true) (k35 : PySem.W.keepIn K (.ref f35) = true)
    (a36 : PySem.W.nsIn K mainGlobals "_law_split" = some (some (.ref f36))) (l36 : K.lookup f36 = some ⟨oc36, od36, .func (PySem.W.fnOf "_law_split" "_law_split" (defArgs s__law_split) (defBody s__law_split) (defScope s__law_split) .none kV36 dc36 pm36 an36 cd36 ct36), sl36⟩) (c36 : PySem.W.codeIn K cd36 "_law_split" = true) (k36 : PySem.W.keepIn K (.ref f36) = true)
    (a37 : PySem.W.nsIn K mainGlobals "_law_steps_of" = some (some (.ref f37))) (l37 : K.lookup f37 = some ⟨oc37, od37, .func (PySem.W.fnOf "_law_steps_of" "_law_steps_of" (defArgs s__law_steps_of) (defBody s__law_steps_of) (defScope s__law_steps_of) .none kV37 dc37 pm37 an37 cd37 ct37), sl37⟩) (c37 : PySem.W.codeIn K cd37 "_law_steps_of" = true) (k37 : PySem.W.keepIn K (.ref f37) = true)
    (a38 : PySem.W.nsIn K mainGlobals "_law_product" = some (some (.ref f38))) (l38 : K.lookup f38 = some ⟨oc38, od38, .func (PySem.W.fnOf "_law_product" "_law_product" (defArgs s__law_product) (defBody s__law_product) (defScope s__law_product) .none kV38 dc38 pm38 an38 cd38 ct38), sl38⟩) (c38 : PySem.W.codeIn K cd38 "_law_product" = true) (k38 : PySem.W.keepIn K (.ref f38) = true)
    (a39 : PySem.W.nsIn K mainGlobals "_law_rests_right" = some (some (.ref f39))) (l39 : K.lookup f39 = some ⟨oc39, od39, .func (PySem.W.fnOf "_law_rests_right" "_law_rests_right" (defArgs s__law_rests_right) (defBody s__law_rests_right) (defScope s__law_rests_right) .none kV39 dc39 pm39 an39 cd39 ct39), sl39⟩) (c39 : PySem.W.codeIn K cd39 "_law_rests_right" = true) (k39 : PySem.W.keepIn K (.ref f39) = true)
    (a40 : PySem.W.nsIn K mainGlobals "_law_right" = some (some (.ref f40))) (l40 : K.lookup f40 = some ⟨oc40, od40, .func (PySem.W.fnOf "_law_right" "_law_right" (defArgs s__law_right) (defBody s__law_right) (defScope s__law_right) .none kV40 dc40 pm40 an40 cd40 ct40), sl40⟩) (c40 : PySem.W.codeIn K cd40 "_law_right" = true) (k40 : PySem.W.keepIn K (.ref f40) = true)
    (a41 : PySem.W.nsIn K mainGlobals "law" = some (some (.ref f41))) (l41 : K.lookup f41 = some ⟨oc41, od41, .func (PySem.W.fnOf "law" "law" (defArgs s_law) (defBody s_law) (defScope s_law) .none kV41 dc41 pm41 an41 cd41 ct41), sl41⟩) (c41 : PySem.W.codeIn K cd41 "law" = true) (k41 : PySem.W.keepIn K (.ref f41) = true)
    (z1 : PySem.W.nsIn K mainGlobals "all" = some none)
    (z2 : PySem.W.nsIn K mainGlobals "any" = some none)
    (z3 : PySem.W.nsIn K mainGlobals "bool" = some none)
    (z4 : PySem.W.nsIn K mainGlobals "enumerate" = some none)
    (z5 : PySem.W.nsIn K mainGlobals "int" = some none)
    (z6 : PySem.W.nsIn K mainGlobals "isinstance" = some none)
    (z7 : PySem.W.nsIn K mainGlobals "len" = some none)
    (z8 : PySem.W.nsIn K mainGlobals "list" = some none)
    (z9 : PySem.W.nsIn K mainGlobals "max" = some none)
    (z10 : PySem.W.nsIn K mainGlobals "range" = some none)
    (z11 : PySem.W.nsIn K mainGlobals "set" = some none)
    (z12 : PySem.W.nsIn K mainGlobals "sorted" = some none)
    (z13 : PySem.W.nsIn K mainGlobals "sum" = some none)
    (z14 : PySem.W.nsIn K mainGlobals "tuple" = some none)
    (z15 : PySem.W.nsIn K mainGlobals "zip" = some none)
    {tq1 : Tok} (q1 : PySem.W.nsIn K mainGlobals "MOST_CLOCKS" = some (some (.int 12 tq1)))
    {tq2 : Tok} (q2 : PySem.W.nsIn K mainGlobals "MOST_PRODUCT" = some (some (.int 3000 tq2)))
    {tq3 : Tok} (q3 : PySem.W.nsIn K mainGlobals "MOST_ROUND" = some (some (.int 10000 tq3)))
    {tq4 : Tok} (q4 : PySem.W.nsIn K mainGlobals "MOST_STEP" = some (some (.int 1000 tq4)))
    {tq5 : Tok} (q5 : PySem.W.nsIn K mainGlobals "MOST_STEPS" = some (some (.int 6 tq5)))
    {tq6 : Tok} (q6 : PySem.W.nsIn K mainGlobals "MOST_WANTED" = some (some (.int 24 tq6)))
    : ∃ fd : FuncData, (∀ (s : Shared) (v : Value), BindsTo s fd ⟨[v], []⟩ [("script", v)]) ∧ ∀ base : Heap, K.In base → base.Ns mainGlobals mg → FnOk l.prog w K mg base (L2N.CX l.prog w) 13 fa fd ["script"] (spTop K) := by
  have e := hfa.symm.trans (PySem.W.mg_of X G a41)
  cases e
  have Z : Zs mg := ⟨PySem.W.mg_none_of X G z1, PySem.W.mg_none_of X G z2, PySem.W.mg_none_of X G z3, PySem.W.mg_none_of X G z4, PySem.W.mg_none_of X G z5, PySem.W.mg_none_of X G z6, PySem.W.mg_none_of X G z7, PySem.W.mg_none_of X G z8, PySem.W.mg_none_of X G z9, PySem.W.mg_none_of X G z10, PySem.W.mg_none_of X G z11, PySem.W.mg_none_of X G z12, PySem.W.mg_none_of X G z13, PySem.W.mg_none_of X G z14, PySem.W.mg_none_of X G z15⟩
  have F1 := fun_mk (st := s_is_whole) l1 c1 k1
  have F2 := fun_mk (st := s_clock_good) l2 c2 k2
  have F3 := fun_mk (st := s_clocks_of) l3 c3 k3
  have F4 := fun_mk (st := s_rings) l4 c4 k4
  have F5 := fun_mk (st := s_rings_at) l5 c5 k5
  have F6 := fun_mk (st := s_divisor_of) l6 c6 k6
  have F7 := fun_mk (st := s_round_of) l7 c7 k7
  have F8 := fun_mk (st := s_check_round) l8 c8 k8
  have F9 := fun_mk (st := s_back_of) l9 c9 k9
  have F10 := fun_mk (st := s_meet_of) l10 c10 k10
  have F11 := fun_mk (st := s_mark_of) l11 c11 k11
  have F12 := fun_mk (st := s_shares_of) l12 c12 k12
  have F13 := fun_mk (st := s_clash_of) l13 c13 k13
  have F14 := fun_mk (st := s_exact_good) l14 c14 k14
  have F15 := fun_mk (st := s_check_steps) l15 c15 k15
  have F16 := fun_mk (st := s_size_of) l16 c16 k16
  have F17 := fun_mk (st := s_check_size) l17 c17 k17
  have F18 := fun_mk (st := s_marks_by) l18 c18 k18
  have F19 := fun_mk (st := s_are_rests) l19 c19 k19
  have F20 := fun_mk (st := s_rests_good) l20 c20 k20
  have F21 := fun_mk (st := s_rests_from) l21 c21 k21
  have F22 := fun_mk (st := s_rests_for) l22 c22 k22
  have F23 := fun_mk (st := s_rests_many) l23 c23 k23
  have F24 := fun_mk (st := s_steps_share) l24 c24 k24
  have F25 := fun_mk (st := s_shows_none) l25 c25 k25
  have F26 := fun_mk (st := s_cases_good) l26 c26 k26
  have F27 := fun_mk (st := s_first_left) l27 c27 k27
  have F28 := fun_mk (st := s_cases_from) l28 c28 k28
  have F29 := fun_mk (st := s_cases_for) l29 c29 k29
  have F30 := fun_mk (st := s_first_missed) l30 c30 k30
  have F31 := fun_mk (st := s_covers) l31 c31 k31
  have F32 := fun_mk (st := s__law_cell_at) l32 c32 k32
  have F33 := fun_mk (st := s__law_next) l33 c33 k33
  have F34 := fun_mk (st := s__law_pen_of) l34 c34 k34
  have F35 := fun_mk (st := s__law_draw) l35 c35 k35
  have F36 := fun_mk (st := s__law_split) l36 c36 k36
  have F37 := fun_mk (st := s__law_steps_of) l37 c37 k37
  have F38 := fun_mk (st := s__law_product) l38 c38 k38
  have F39 := fun_mk (st := s__law_rests_right) l39 c39 k39
  have F40 := fun_mk (st := s__law_right) l40 c40 k40
  have F41 := fun_mk (st := s_law) l41 c41 k41
  refine ⟨PySem.W.fnOf "law" "law" (defArgs s_law) (defBody s_law) (defScope s_law) .none kV41 dc41 pm41 an41 cd41 ct41, fun s v => .of_eq rfl, fun base _ _ => ?_⟩
  have b1 := F1.binds (ps := ["thing"]) fun _ _ _ _ _ _ us hl => match us, hl with | [_], _ => rfl
  have x_is_whole : Cal l.prog w K mg base 1 "is_whole" 1 sp_is_whole := cal_of F1 (PySem.W.mg_of X G a1) b1 (ok_is_whole F1 Z )
  have b2 := F2.binds (ps := ["thing"]) fun _ _ _ _ _ _ us hl => match us, hl with | [_], _ => rfl
  have x_clock_good : Cal l.prog w K mg base 2 "clock_good" 1 sp_clock_good := cal_of F2 (PySem.W.mg_of X G a2) b2 (ok_clock_good F2 Z (x_is_whole.mono (by decide)) ⟨_, PySem.W.mg_of X G q4⟩)
  have b3 := F3.binds (ps := ["things"]) fun _ _ _ _ _ _ us hl => match us, hl with | [_], _ => rfl
  have x_clocks_of : Cal l.prog w K mg base 3 "clocks_of" 1 sp_clocks_of := cal_of F3 (PySem.W.mg_of X G a3) b3 (ok_clocks_of F3 Z (x_clock_good.mono (by decide)) ⟨_, PySem.W.mg_of X G q1⟩)
  have b4 := F4.binds (ps := ["clock", "number"]) fun _ _ _ _ _ _ us hl => match us, hl with | [_, _], _ => rfl
  have x_rings : Cal l.prog w K mg base 1 "rings" 2 sp_rings := cal_of F4 (PySem.W.mg_of X G a4) b4 (ok_rings F4 Z )
  have b5 := F5.binds (ps := ["clocks", "number"]) fun _ _ _ _ _ _ us hl => match us, hl with | [_, _], _ => rfl
  have x_rings_at : Cal l.prog w K mg base 2 "rings_at" 2 sp_rings_at := cal_of F5 (PySem.W.mg_of X G a5) b5 (ok_rings_at F5 Z (x_rings.mono (by decide)))
  have b6 := F6.binds (ps := ["one", "other"]) fun _ _ _ _ _ _ us hl => match us, hl with | [_, _], _ => rfl
  have x_divisor_of : Cal l.prog w K mg base 1 "divisor_of" 2 sp_divisor_of := cal_of F6 (PySem.W.mg_of X G a6) b6 (ok_divisor_of F6 Z )
  have b7 := F7.binds (ps := ["clocks"]) fun _ _ _ _ _ _ us hl => match us, hl with | [_], _ => rfl
  have x_round_of : Cal l.prog w K mg base 2 "round_of" 1 sp_round_of := cal_of F7 (PySem.W.mg_of X G a7) b7 (ok_round_of F7 Z (x_divisor_of.mono (by decide)))
  have b8 := F8.binds (ps := ["clocks"]) fun _ _ _ _ _ _ us hl => match us, hl with | [_], _ => rfl
  have x_check_round : Cal l.prog w K mg base 3 "check_round" 1 sp_check_round := cal_of F8 (PySem.W.mg_of X G a8) b8 (ok_check_round F8 Z (x_round_of.mono (by decide)) ⟨_, PySem.W.mg_of X G q3⟩)
  have b9 := F9.binds (ps := ["one", "other"]) fun _ _ _ _ _ _ us hl => match us, hl with | [_, _], _ => rfl
  have x_back_of : Cal l.prog w K mg base 1 "back_of" 2 sp_back_of := cal_of F9 (PySem.W.mg_of X G a9) b9 (ok_back_of F9 Z )
  have b10 := F10.binds (ps := ["one", "other"]) fun _ _ _ _ _ _ us hl => match us, hl with | [_, _], _ => rfl
  have x_meet_of : Cal l.prog w K mg base 2 "meet_of" 2 sp_meet_of := cal_of F10 (PySem.W.mg_of X G a10) b10 (ok_meet_of F10 Z (x_divisor_of.mono (by decide)) (x_back_of.mono (by decide)))
  have b11 := F11.binds (ps := ["clock", "size"]) fun _ _ _ _ _ _ us hl => match us, hl with | [_, _], _ => rfl
  have x_mark_of : Cal l.prog w K mg base 1 "mark_of" 2 sp_mark_of := cal_of F11 (PySem.W.mg_of X G a11) b11 (ok_mark_of F11 Z )
  have b12 := F12.binds (ps := ["clocks"]) fun _ _ _ _ _ _ us hl => match us, hl with | [_], _ => rfl
  have x_shares_of : Cal l.prog w K mg base 3 "shares_of" 1 sp_shares_of := cal_of F12 (PySem.W.mg_of X G a12) b12 (ok_shares_of F12 Z (x_round_of.mono (by decide)) (x_divisor_of.mono (by decide)))
  have b13 := F13.binds (ps := ["clocks"]) fun _ _ _ _ _ _ us hl => match us, hl with | [_], _ => rfl
  have x_clash_of : Cal l.prog w K mg base 3 "clash_of" 1 sp_clash_of := cal_of F13 (PySem.W.mg_of X G a13) b13 (ok_clash_of F13 Z (x_meet_of.mono (by decide)))
  have b14 := F14.binds (ps := ["clocks"]) fun _ _ _ _ _ _ us hl => match us, hl with | [_], _ => rfl
  have x_exact_good : Cal l.prog w K mg base 4 "exact_good" 1 sp_exact_good := cal_of F14 (PySem.W.mg_of X G a14) b14 (ok_exact_good F14 Z (x_shares_of.mono (by decide)) (x_clash_of.mono (by decide)))
  have b15 := F15.binds (ps := ["thing"]) fun _ _ _ _ _ _ us hl => match us, hl with | [_], _ => rfl
  have x_check_steps : Cal l.prog w K mg base 2 "check_steps" 1 sp_check_steps := cal_of F15 (PySem.W.mg_of X G a15) b15 (ok_check_steps F15 Z (x_is_whole.mono (by decide)) ⟨_, PySem.W.mg_of X G q5⟩ ⟨_, PySem.W.mg_of X G q6⟩)
  have b16 := F16.binds (ps := ["steps"]) fun _ _ _ _ _ _ us hl => match us, hl with | [_], _ => rfl
  have x_size_of : Cal l.prog w K mg base 3 "size_of" 1 sp_size_of := cal_of F16 (PySem.W.mg_of X G a16) b16 (ok_size_of F16 Z (x_round_of.mono (by decide)))
  have b17 := F17.binds (ps := ["steps"]) fun _ _ _ _ _ _ us hl => match us, hl with | [_], _ => rfl
  have x_check_size : Cal l.prog w K mg base 4 "check_size" 1 sp_check_size := cal_of F17 (PySem.W.mg_of X G a17) b17 (ok_check_size F17 Z (x_size_of.mono (by decide)) ⟨_, PySem.W.mg_of X G q3⟩)
  have b18 := F18.binds (ps := ["steps", "rests", "size"]) fun _ _ _ _ _ _ us hl => match us, hl with | [_, _, _], _ => rfl
  have x_marks_by : Cal l.prog w K mg base 2 "marks_by" 3 sp_marks_by := cal_of F18 (PySem.W.mg_of X G a18) b18 (ok_marks_by F18 Z (x_mark_of.mono (by decide)))
  have b19 := F19.binds (ps := ["steps", "thing"]) fun _ _ _ _ _ _ us hl => match us, hl with | [_, _], _ => rfl
  have x_are_rests : Cal l.prog w K mg base 2 "are_rests" 2 sp_are_rests := cal_of F19 (PySem.W.mg_of X G a19) b19 (ok_are_rests F19 Z (x_is_whole.mono (by decide)))
  have b20 := F20.binds (ps := ["steps", "thing"]) fun _ _ _ _ _ _ us hl => match us, hl with | [_, _], _ => rfl
  have x_rests_good : Cal l.prog w K mg base 5 "rests_good" 2 sp_rests_good := cal_of F20 (PySem.W.mg_of X G a20) b20 (ok_rests_good F20 Z (x_check_steps.mono (by decide)) (x_check_size.mono (by decide)) (x_size_of.mono (by decide)) (x_are_rests.mono (by decide)) (x_marks_by.mono (by decide)))
  have b21 := F21.binds (ps := ["steps", "size", "begun", "left"]) fun _ _ _ _ _ _ us hl => match us, hl with | [_, _, _, _], _ => rfl
  have x_rests_from_0 : Cal l.prog w K mg base 0 "rests_from" 4 (sp_rests_from 0) := cal_never F21 (PySem.W.mg_of X G a21) b21
  have x_rests_from_1 : Cal l.prog w K mg base 1 "rests_from" 4 (sp_rests_from 1) := cal_of F21 (PySem.W.mg_of X G a21) b21 (ok_rests_from 0 0 F21 Z x_rests_from_0)
  have x_rests_from_2 : Cal l.prog w K mg base 2 "rests_from" 4 (sp_rests_from 2) := cal_of F21 (PySem.W.mg_of X G a21) b21 (ok_rests_from 1 1 F21 Z x_rests_from_1)
  have x_rests_from_3 : Cal l.prog w K mg base 3 "rests_from" 4 (sp_rests_from 3) := cal_of F21 (PySem.W.mg_of X G a21) b21 (ok_rests_from 2 2 F21 Z x_rests_from_2)
  have x_rests_from_4 : Cal l.prog w K mg base 4 "rests_from" 4 (sp_rests_from 4) := cal_of F21 (PySem.W.mg_of X G a21) b21 (ok_rests_from 3 3 F21 Z x_rests_from_3)
  have x_rests_from_5 : Cal l.prog w K mg base 5 "rests_from" 4 (sp_rests_from 5) := cal_of F21 (PySem.W.mg_of X G a21) b21 (ok_rests_from 4 4 F21 Z x_rests_from_4)
  have x_rests_from_6 : Cal l.prog w K mg base 6 "rests_from" 4 (sp_rests_from 6) := cal_of F21 (PySem.W.mg_of X G a21) b21 (ok_rests_from 5 5 F21 Z x_rests_from_5)
  have x_rests_from_7 : Cal l.prog w K mg base 7 "rests_from" 4 (sp_rests_from 7) := cal_of F21 (PySem.W.mg_of X G a21) b21 (ok_rests_from 6 6 F21 Z x_rests_from_6)
  have x_rests_from_8 : Cal l.prog w K mg base 8 "rests_from" 4 (sp_rests_from 8) := cal_of F21 (PySem.W.mg_of X G a21) b21 (ok_rests_from 7 7 F21 Z x_rests_from_7)
  have x_rests_from_9 : Cal l.prog w K mg base 9 "rests_from" 4 (sp_rests_from 9) := cal_of F21 (PySem.W.mg_of X G a21) b21 (ok_rests_from 8 8 F21 Z x_rests_from_8)
  have x_rests_from := x_rests_from_9
  have b22 := F22.binds (ps := ["steps"]) fun _ _ _ _ _ _ us hl => match us, hl with | [_], _ => rfl
  have x_rests_for : Cal l.prog w K mg base 10 "rests_for" 1 sp_rests_for := cal_of F22 (PySem.W.mg_of X G a22) b22 (ok_rests_for F22 Z (x_check_steps.mono (by decide)) (x_check_size.mono (by decide)) (x_size_of.mono (by decide)) (x_rests_from.mono (by decide)))
  have b23 := F23.binds (ps := ["steps"]) fun _ _ _ _ _ _ us hl => match us, hl with | [_], _ => rfl
  have x_rests_many : Cal l.prog w K mg base 4 "rests_many" 1 sp_rests_many := cal_of F23 (PySem.W.mg_of X G a23) b23 (ok_rests_many F23 Z (x_check_steps.mono (by decide)) (x_size_of.mono (by decide)) (x_mark_of.mono (by decide)) ⟨_, PySem.W.mg_of X G q2⟩)
  have b24 := F24.binds (ps := ["steps"]) fun _ _ _ _ _ _ us hl => match us, hl with | [_], _ => rfl
  have x_steps_share : Cal l.prog w K mg base 4 "steps_share" 1 sp_steps_share := cal_of F24 (PySem.W.mg_of X G a24) b24 (ok_steps_share F24 Z (x_check_steps.mono (by decide)) (x_shares_of.mono (by decide)))
  have b25 := F25.binds (ps := ["steps", "kept", "thing"]) fun _ _ _ _ _ _ us hl => match us, hl with | [_, _, _], _ => rfl
  have x_shows_none_0 : Cal l.prog w K mg base 1 "shows_none" 3 (sp_shows_none 0) := cal_never F25 (PySem.W.mg_of X G a25) b25
  have x_shows_none_1 : Cal l.prog w K mg base 2 "shows_none" 3 (sp_shows_none 1) := cal_of F25 (PySem.W.mg_of X G a25) b25 (ok_shows_none 0 1 F25 Z (x_is_whole.mono (by decide)) x_shows_none_0)
  have x_shows_none_2 : Cal l.prog w K mg base 3 "shows_none" 3 (sp_shows_none 2) := cal_of F25 (PySem.W.mg_of X G a25) b25 (ok_shows_none 1 2 F25 Z (x_is_whole.mono (by decide)) x_shows_none_1)
  have x_shows_none_3 : Cal l.prog w K mg base 4 "shows_none" 3 (sp_shows_none 3) := cal_of F25 (PySem.W.mg_of X G a25) b25 (ok_shows_none 2 3 F25 Z (x_is_whole.mono (by decide)) x_shows_none_2)
  have x_shows_none_4 : Cal l.prog w K mg base 5 "shows_none" 3 (sp_shows_none 4) := cal_of F25 (PySem.W.mg_of X G a25) b25 (ok_shows_none 3 4 F25 Z (x_is_whole.mono (by decide)) x_shows_none_3)
  have x_shows_none_5 : Cal l.prog w K mg base 6 "shows_none" 3 (sp_shows_none 5) := cal_of F25 (PySem.W.mg_of X G a25) b25 (ok_shows_none 4 5 F25 Z (x_is_whole.mono (by decide)) x_shows_none_4)
  have x_shows_none_6 : Cal l.prog w K mg base 7 "shows_none" 3 (sp_shows_none 6) := cal_of F25 (PySem.W.mg_of X G a25) b25 (ok_shows_none 5 6 F25 Z (x_is_whole.mono (by decide)) x_shows_none_5)
  have x_shows_none_7 : Cal l.prog w K mg base 8 "shows_none" 3 (sp_shows_none 7) := cal_of F25 (PySem.W.mg_of X G a25) b25 (ok_shows_none 6 7 F25 Z (x_is_whole.mono (by decide)) x_shows_none_6)
  have x_shows_none_8 : Cal l.prog w K mg base 9 "shows_none" 3 (sp_shows_none 8) := cal_of F25 (PySem.W.mg_of X G a25) b25 (ok_shows_none 7 8 F25 Z (x_is_whole.mono (by decide)) x_shows_none_7)
  have x_shows_none_9 : Cal l.prog w K mg base 10 "shows_none" 3 (sp_shows_none 9) := cal_of F25 (PySem.W.mg_of X G a25) b25 (ok_shows_none 8 9 F25 Z (x_is_whole.mono (by decide)) x_shows_none_8)
  have x_shows_none := x_shows_none_9
  have b26 := F26.binds (ps := ["steps", "thing"]) fun _ _ _ _ _ _ us hl => match us, hl with | [_, _], _ => rfl
  have x_cases_good : Cal l.prog w K mg base 11 "cases_good" 2 sp_cases_good := cal_of F26 (PySem.W.mg_of X G a26) b26 (ok_cases_good F26 Z (x_check_steps.mono (by decide)) (x_shows_none.mono (by decide)))
  have b27 := F27.binds (ps := ["steps", "kept"]) fun _ _ _ _ _ _ us hl => match us, hl with | [_, _], _ => rfl
  have x_first_left : Cal l.prog w K mg base 1 "first_left" 2 sp_first_left := cal_of F27 (PySem.W.mg_of X G a27) b27 (ok_first_left F27 Z )
  have b28 := F28.binds (ps := ["steps", "kept"]) fun _ _ _ _ _ _ us hl => match us, hl with | [_, _], _ => rfl
  have x_cases_from_0 : Cal l.prog w K mg base 1 "cases_from" 2 (sp_cases_from 0) := cal_never F28 (PySem.W.mg_of X G a28) b28
  have x_cases_from_1 : Cal l.prog w K mg base 2 "cases_from" 2 (sp_cases_from 1) := cal_of F28 (PySem.W.mg_of X G a28) b28 (ok_cases_from 0 1 F28 Z (x_first_left.mono (by decide)) x_cases_from_0)
  have x_cases_from_2 : Cal l.prog w K mg base 3 "cases_from" 2 (sp_cases_from 2) := cal_of F28 (PySem.W.mg_of X G a28) b28 (ok_cases_from 1 2 F28 Z (x_first_left.mono (by decide)) x_cases_from_1)
  have x_cases_from_3 : Cal l.prog w K mg base 4 "cases_from" 2 (sp_cases_from 3) := cal_of F28 (PySem.W.mg_of X G a28) b28 (ok_cases_from 2 3 F28 Z (x_first_left.mono (by decide)) x_cases_from_2)
  have x_cases_from_4 : Cal l.prog w K mg base 5 "cases_from" 2 (sp_cases_from 4) := cal_of F28 (PySem.W.mg_of X G a28) b28 (ok_cases_from 3 4 F28 Z (x_first_left.mono (by decide)) x_cases_from_3)
  have x_cases_from_5 : Cal l.prog w K mg base 6 "cases_from" 2 (sp_cases_from 5) := cal_of F28 (PySem.W.mg_of X G a28) b28 (ok_cases_from 4 5 F28 Z (x_first_left.mono (by decide)) x_cases_from_4)
  have x_cases_from_6 : Cal l.prog w K mg base 7 "cases_from" 2 (sp_cases_from 6) := cal_of F28 (PySem.W.mg_of X G a28) b28 (ok_cases_from 5 6 F28 Z (x_first_left.mono (by decide)) x_cases_from_5)
  have x_cases_from_7 : Cal l.prog w K mg base 8 "cases_from" 2 (sp_cases_from 7) := cal_of F28 (PySem.W.mg_of X G a28) b28 (ok_cases_from 6 7 F28 Z (x_first_left.mono (by decide)) x_cases_from_6)
  have x_cases_from_8 : Cal l.prog w K mg base 9 "cases_from" 2 (sp_cases_from 8) := cal_of F28 (PySem.W.mg_of X G a28) b28 (ok_cases_from 7 8 F28 Z (x_first_left.mono (by decide)) x_cases_from_7)
  have x_cases_from_9 : Cal l.prog w K mg base 10 "cases_from" 2 (sp_cases_from 9) := cal_of F28 (PySem.W.mg_of X G a28) b28 (ok_cases_from 8 9 F28 Z (x_first_left.mono (by decide)) x_cases_from_8)
  have x_cases_from := x_cases_from_9
  have b29 := F29.binds (ps := ["steps"]) fun _ _ _ _ _ _ us hl => match us, hl with | [_], _ => rfl
  have x_cases_for : Cal l.prog w K mg base 11 "cases_for" 1 sp_cases_for := cal_of F29 (PySem.W.mg_of X G a29) b29 (ok_cases_for F29 Z (x_rests_for.mono (by decide)) (x_cases_from.mono (by decide)))
  have b30 := F30.binds (ps := ["clocks"]) fun _ _ _ _ _ _ us hl => match us, hl with | [_], _ => rfl
  have x_first_missed : Cal l.prog w K mg base 4 "first_missed" 1 sp_first_missed := cal_of F30 (PySem.W.mg_of X G a30) b30 (ok_first_missed F30 Z (x_check_round.mono (by decide)) (x_round_of.mono (by decide)) (x_rings_at.mono (by decide)))
  have b31 := F31.binds (ps := ["clocks"]) fun _ _ _ _ _ _ us hl => match us, hl with | [_], _ => rfl
  have x_covers : Cal l.prog w K mg base 5 "covers" 1 sp_covers := cal_of F31 (PySem.W.mg_of X G a31) b31 (ok_covers F31 Z (x_first_missed.mono (by decide)))
  have b32 := F32.binds (ps := ["script", "k"]) fun _ _ _ _ _ _ us hl => match us, hl with | [_, _], _ => rfl
  have x__law_cell_at : Cal l.prog w K mg base 1 "_law_cell_at" 2 sp__law_cell_at := cal_of F32 (PySem.W.mg_of X G a32) b32 (ok__law_cell_at F32 Z )
  have b33 := F33.binds (ps := ["seed"]) fun _ _ _ _ _ _ us hl => match us, hl with | [_], _ => rfl
  have x__law_next : Cal l.prog w K mg base 1 "_law_next" 1 sp__law_next := cal_of F33 (PySem.W.mg_of X G a33) b33 (ok__law_next F33 Z )
  have b34 := F34.binds (ps := ["cell"]) fun _ _ _ _ _ _ us hl => match us, hl with | [_], _ => rfl
  have x__law_pen_of : Cal l.prog w K mg base 1 "_law_pen_of" 1 sp__law_pen_of := cal_of F34 (PySem.W.mg_of X G a34) b34 (ok__law_pen_of F34 Z )
  have b35 := F35.binds (ps := ["pen", "many"]) fun _ _ _ _ _ _ us hl => match us, hl with | [_, _], _ => rfl
  have x__law_draw : Cal l.prog w K mg base 2 "_law_draw" 2 sp__law_draw := cal_of F35 (PySem.W.mg_of X G a35) b35 (ok__law_draw F35 Z (x__law_next.mono (by decide)))
  have b36 := F36.binds (ps := ["pen", "times"]) fun _ _ _ _ _ _ us hl => match us, hl with | [_, _], _ => rfl
  have x__law_split : Cal l.prog w K mg base 3 "_law_split" 2 sp__law_split := cal_of F36 (PySem.W.mg_of X G a36) b36 (ok__law_split F36 Z (x__law_draw.mono (by decide)))
  have b37 := F37.binds (ps := ["pen"]) fun _ _ _ _ _ _ us hl => match us, hl with | [_], _ => rfl
  have x__law_steps_of : Cal l.prog w K mg base 4 "_law_steps_of" 1 sp__law_steps_of := cal_of F37 (PySem.W.mg_of X G a37) b37 (ok__law_steps_of F37 Z (x__law_draw.mono (by decide)) (x__law_split.mono (by decide)))
  have b38 := F38.binds (ps := ["steps"]) fun _ _ _ _ _ _ us hl => match us, hl with | [_], _ => rfl
  have x__law_product : Cal l.prog w K mg base 1 "_law_product" 1 sp__law_product := cal_of F38 (PySem.W.mg_of X G a38) b38 (ok__law_product F38 Z )
  have b39 := F39.binds (ps := ["pen", "steps", "rests"]) fun _ _ _ _ _ _ us hl => match us, hl with | [_, _, _], _ => rfl
  have x__law_rests_right : Cal l.prog w K mg base 11 "_law_rests_right" 3 sp__law_rests_right := cal_of F39 (PySem.W.mg_of X G a39) b39 (ok__law_rests_right F39 Z (x_rests_good.mono (by decide)) (x_clocks_of.mono (by decide)) (x_covers.mono (by decide)) (x_steps_share.mono (by decide)) (x_exact_good.mono (by decide)) (x__law_draw.mono (by decide)) (x_rests_for.mono (by decide)))
  have b40 := F40.binds (ps := ["pen", "steps"]) fun _ _ _ _ _ _ us hl => match us, hl with | [_, _], _ => rfl
  have x__law_right : Cal l.prog w K mg base 12 "_law_right" 2 sp__law_right_k45 := cal_of F40 (PySem.W.mg_of X G a40) b40 (ok__law_right F40 Z (x_rests_for.mono (by decide)) (x_cases_for.mono (by decide)) (x_cases_good.mono (by decide)) (x_steps_share.mono (by decide)) (x__law_product.mono (by decide)) (x_rests_many.mono (by decide)) (x__law_rests_right.mono (by decide)))
  exact top_ok (ok_law F41 Z (x__law_cell_at.mono (by decide)) (x__law_pen_of.mono (by decide)) (x__law_steps_of.mono (by decide)) (x__law_right.mono (by decide)))
end K45
end Dl
end L2
open PySem PySem.W PyProof.Rows
set_option maxHeartbeats 0 in
theorem PySem.Challenge.cw_coverclocks_k45_whole_rests_and_cases_holds : PySem.Challenge.rw_coverclocks_k45_whole_rests_and_cases.Holds := by
  w_on; o_law; k_head; (case hw => w_witness2)
  k_fill
  refine L2.walk_of (l := PySem.Challenge.rw_coverclocks_k45_whole_rests_and_cases) (n := 63) (k := 13) (x := "script") (CX := fun w => L2N.CX PySem.Challenge.rw_coverclocks_k45_whole_rests_and_cases.prog w) (sp := fun w => L2.Dl.spTop _) rfl (by decide) rfl ⟨rfl, by decide, by decide⟩ (fun w h Y => PySem.W.kIn_of Y) ?F (fun _ _ a ns hl hO hS => ⟨a, ns, rfl, hl, hS, fun _ _ e => e⟩) (fun _ _ _ _ _ h => L2.Dl.noCX h)
  case F =>
    intro w mg fa h KX G hmg
    refine' L2.Dl.K45.all_mk KX G hmg ?a1 ?l1 ?c1 ?k1 ?a2 ?l2 ?c2 ?k2 ?a3 ?l3 ?c3 ?k3 ?a4 ?l4 ?c4 ?k4 ?a5 ?l5 ?c5 ?k5 ?a6 ?l6 ?c6 ?k6 ?a7 ?l7 ?c7 ?k7 ?a8 ?l8 ?c8 ?k8 ?a9 ?l9 ?c9 ?k9 ?a10 ?l10 ?c10 ?k10 ?a11 ?l11 ?c11 ?k11 ?a12 ?l12 ?c12 ?k12 ?a13 ?l13 ?c13 ?k13 ?a14 ?l14 ?c14 ?k14 ?a15 ?l15 ?c15 ?k15 ?a16 ?l16 ?c16 ?k16 ?a17 ?l17 ?c17 ?k17 ?a18 ?l18 ?c18 ?k18 ?a19 ?l19 ?c19 ?k19 ?a20 ?l20 ?c20 ?k20 ?a21 ?l21 ?c21 ?k21 ?a22 ?l22 ?c22 ?k22 ?a23 ?l23 ?c23 ?k23 ?a24 ?l24 ?c24 ?k24 ?a25 ?l25 ?c25 ?k25 ?a26 ?l26 ?c26 ?k26 ?a27 ?l27 ?c27 ?k27 ?a28 ?l28 ?c28 ?k28 ?a29 ?l29 ?c29 ?k29 ?a30 ?l30 ?c30 ?k30 ?a31 ?l31 ?c31 ?k31 ?a32 ?l32 ?c32 ?k32 ?a33 ?l33 ?c33 ?k33 ?a34 ?l34 ?c34 ?k34 ?a35 ?l35 ?c35 ?k35 ?a36 ?l36 ?c36 ?k36 ?a37 ?l37 ?c37 ?k37 ?a38 ?l38 ?c38 ?k38 ?a39 ?l39 ?c39 ?k39 ?a40 ?l40 ?c40 ?k40 ?a41 ?l41 ?c41 ?k41 ?z1 ?z2 ?z3 ?z4 ?z5 ?z6 ?z7 ?z8 ?z9 ?z10 ?z11 ?z12 ?z13 ?z14 ?z15 ?q1 ?q2 ?q3 ?q4 ?q5 ?q6
    (case a1 => k_is)
    (case l1 => k_is)
    (case c1 => k_is)
    (case k1 => k_is)
    (case a2 => k_is)
    (case l2 => k_is)
    (case c2 => k_is)
    (case k2 => k_is)
    (case a3 => k_is)
    (case l3 => k_is)
    (case c3 => k_is)
    (case k3 => k_is)
    (case a4 => k_is)
    (case l4 => k_is)
    (case c4 => k_is)
    (case k4 => k_is)
    (case a5 => k_is)
    (case l5 => k_is)
    (case c5 => k_is)
    (case k5 => k_is)
    (case a6 => k_is)
    (case l6 => k_is)
    (case c6 => k_is)
    (case k6 => k_is)
    (case a7 => k_is)
    (case l7 => k_is)
    (case c7 => k_is)
    (case k7 => k_is)
    (case a8 => k_is)
    (case l8 => k_is)
    (case c8 => k_is)
    (case k8 => k_is)
    (case a9 => k_is)
    (case l9 => k_is)
    (case c9 => k_is)
    (case k9 => k_is)
    (case a10 => k_is)
    (case l10 => k_is)
    (case c10 => k_is)
    (case k10 => k_is)
    (case a11 => k_is)
    (case l11 => k_is)
    (case c11 => k_is)
    (case k11 => k_is)
    (case a12 => k_is)
    (case l12 => k_is)
    (case c12 => k_is)
    (case k12 => k_is)
    (case a13 => k_is)
    (case l13 => k_is)
    (case c13 => k_is)
    (case k13 => k_is)
    (case a14 => k_is)
    (case l14 => k_is)
    (case c14 => k_is)
    (case k14 => k_is)
    (case a15 => k_is)
    (case l15 => k_is)
    (case c15 => k_is)
    (case k15 => k_is)
    (case a16 => k_is)
    (case l16 => k_is)
    (case c16 => k_is)
    (case k16 => k_is)
    (case a17 => k_is)
    (case l17 => k_is)
    (case c17 => k_is)
    (case k17 => k_is)
    (case a18 => k_is)
    (case l18 => k_is)
    (case c18 => k_is)
    (case k18 => k_is)
    (case a19 => k_is)
    (case l19 => k_is)
    (case c19 => k_is)
    (case k19 => k_is)
    (case a20 => k_is)
    (case l20 => k_is)
    (case c20 => k_is)
    (case k20 => k_is)
    (case a21 => k_is)
    (case l21 => k_is)
    (case c21 => k_is)
    (case k21 => k_is)
    (case a22 => k_is)
    (case l22 => k_is)
    (case c22 => k_is)
    (case k22 => k_is)
    (case a23 => k_is)
    (case l23 => k_is)
    (case c23 => k_is)
    (case k23 => k_is)
    (case a24 => k_is)
    (case l24 => k_is)
    (case c24 => k_is)
    (case k24 => k_is)
    (case a25 => k_is)
    (case l25 => k_is)
    (case c25 => k_is)
    (case k25 => k_is)
    (case a26 => k_is)
    (case l26 => k_is)
    (case c26 => k_is)
    (case k26 => k_is)
    (case a27 => k_is)
    (case l27 => k_is)
    (case c27 => k_is)
    (case k27 => k_is)
    (case a28 => k_is)
    (case l28 => k_is)
    (case c28 => k_is)
    (case k28 => k_is)
    (case a29 => k_is)
    (case l29 => k_is)
    (case c29 => k_is)
    (case k29 => k_is)
    (case a30 => k_is)
    (case l30 => k_is)
    (case c30 => k_is)
    (case k30 => k_is)
    (case a31 => k_is)
    (case l31 => k_is)
    (case c31 => k_is)
    (case k31 => k_is)
    (case a32 => k_is)
    (case l32 => k_is)
    (case c32 => k_is)
    (case k32 => k_is)
    (case a33 => k_is)
    (case l33 => k_is)
    (case c33 => k_is)
    (case k33 => k_is)
    (case a34 => k_is)
    (case l34 => k_is)
    (case c34 => k_is)
    (case k34 => k_is)
    (case a35 => k_is)
    (case l35 => k_is)
    (case c35 => k_is)
    (case k35 => k_is)
    (case a36 => k_is)
    (case l36 => k_is)
    (case c36 => k_is)
    (case k36 => k_is)
    (case a37 => k_is)
    (case l37 => k_is)
    (case c37 => k_is)
    (case k37 => k_is)
    (case a38 => k_is)
    (case l38 => k_is)
    (case c38 => k_is)
    (case k38 => k_is)
    (case a39 => k_is)
    (case l39 => k_is)
    (case c39 => k_is)
    (case k39 => k_is)
    (case a40 => k_is)
    (case l40 => k_is)
    (case c40 => k_is)
    (case k40 => k_is)
    (case a41 => k_is)
    (case l41 => k_is)
    (case c41 => k_is)
    (case k41 => k_is)
    (case z1 => k_is)
    (case z2 => k_is)
    (case z3 => k_is)
    (case z4 => k_is)
    (case z5 => k_is)
    (case z6 => k_is)
    (case z7 => k_is)
    (case z8 => k_is)
    (case z9 => k_is)
    (case z10 => k_is)
    (case z11 => k_is)
    (case z12 => k_is)
    (case z13 => k_is)
    (case z14 => k_is)
    (case z15 => k_is)
    (case q1 => k_is)
    (case q2 => k_is)
    (case q3 => k_is)
    (case q4 => k_is)
    (case q5 => k_is)
    (case q6 => k_is)

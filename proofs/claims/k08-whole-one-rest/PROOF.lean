import PyProof.Rows.All
import Wide.All
import OpenK.AllK
import Wide.FinOn
import KE.KStateDown
import HandS.ForMost
import HandS.Defaults
import HandS.Wide
import HandS.Conv
import HandS.Zip
import HandS.TupAny
import HandS.TupLe
import HandS.IsInst
import HandS.Style
import HandS.Deep
import HandS.TupSets
import KE.GoesEnum
import PySem.Challenge.RW_scatterbooks_k08_whole_one_rest_for_long
import KE.SortData
import KE.DataCmp
import KE.KDictSum
import KE.KDictCopyH
import KE.KDictWalk
import HandS.ExcOwn
import HandS.ExcValue
import KE.KDictKeyed
import HandS.Head0
import HandS.Head1
import HandS.Head2
import HandS.HeadEnd
import HandS.HeadHook1
import HandS.HeadHook2
set_option Elab.async false
set_option linter.all false
set_option maxRecDepth 100000
set_option maxHeartbeats 1000000
/-! The layer: data trees shown by values, frozen and owned parts of the heap, judgements on them. -/
namespace K8
open PySem PySem.Spec PyProof.Rows L2

abbrev St := L2.St
/-- data: what a value that nobody changes any more shows -/
inductive D where
  | non | bl (b : Bool) | int (i : Int) | str (x : Str) | ty (n : String)
  | tup (ds : List D) | lst (ds : List D)
  /-- a dict with keys that are tuples of ints -/
  | dic (ks : List (List Int)) (ds : List D)
  /-- the script -/
  | scr (ns : List Int)
  /-- a tuple of texts of the program's top -/
  | wtup (ds : List Str)

mutual
inductive Is (K : PySem.W.Frag) (F : Hp) : V → D → Prop
  | non : Is K F .non .non
  | bl (b : Bool) : Is K F (.bl b) (.bl b)
  | int (i : Int) : Is K F (.int i) (.int i)
  | str (x : Str) : Is K F (.str x) (.str x)
  | ty (n : String) : Is K F (.ty n) (.ty n)
  | tup {a : Addr} {xs : List V} {ds : List D} : F a = some (.tup xs) → IsL K F xs ds → Is K F (.ref a) (.tup ds)
  | lst {a : Addr} {xs : List V} {ds : List D} : F a = some (.lst xs) → IsL K F xs ds → Is K F (.ref a) (.lst ds)
  | dic {a : Addr} {kvs : List (List Key × V)} {ks : List (List Int)} {ds : List D} : F a = some (.dT kvs) → kvs.map (·.1) = ks.map (·.map Sum.inl) → IsL K F (kvs.map (·.2)) ds → Is K F (.ref a) (.dic ks ds)
  | scr {a : Addr} {ns : List Int} : SqL K F a (ns.map V.int) → Is K F (.ref a) (.scr ns)
  | wtup {a : Addr} {xs : List Str} : SqT K F a (xs.map V.str) → Is K F (.ref a) (.wtup xs)
inductive IsL (K : PySem.W.Frag) (F : Hp) : List V → List D → Prop
  | nil : IsL K F [] []
  | cons {v : V} {vs : List V} {d : D} {ds : List D} : Is K F v d → IsL K F vs ds → IsL K F (v :: vs) (d :: ds)
end

theorem Same.sqL {K : PySem.W.Frag} {H H' : Hp} {a : Addr} {xs : List V} (e : Same H H') (h : SqL K H a xs) : SqL K H' a xs := e.seq h
theorem Same.sqT {K : PySem.W.Frag} {H H' : Hp} {a : Addr} {xs : List V} (e : Same H H') (h : SqT K H a xs) : SqT K H' a xs := by
  rcases h with (h | ⟨o, h⟩) | h
  · exact .inl (.inl (e _ _ h))
  · exact .inl (.inr ⟨o, e _ _ h⟩)
  · exact .inr h

mutual
theorem Is.mono {K : PySem.W.Frag} {F F' : Hp} (s : Same F F') : ∀ {v : V} {d : D}, Is K F v d → Is K F' v d
  | _, _, .non => .non
  | _, _, .bl b => .bl b
  | _, _, .int i => .int i
  | _, _, .str x => .str x
  | _, _, .ty n => .ty n
  | _, _, .tup h l => .tup (s _ _ h) (IsL.mono s l)
  | _, _, .lst h l => .lst (s _ _ h) (IsL.mono s l)
  | _, _, .dic h e l => .dic (s _ _ h) e (IsL.mono s l)
  | _, _, .scr h => .scr (Same.sqL s h)
  | _, _, .wtup h => .wtup (Same.sqT s h)
theorem IsL.mono {K : PySem.W.Frag} {F F' : Hp} (s : Same F F') : ∀ {vs : List V} {ds : List D}, IsL K F vs ds → IsL K F' vs ds
  | _, _, .nil => .nil
  | _, _, .cons h l => .cons (Is.mono s h) (IsL.mono s l)
end
section
variable {K : PySem.W.Frag} {F : Hp}
theorem IsL.length : ∀ {vs : List V} {ds : List D}, IsL K F vs ds → vs.length = ds.length
  | _, _, .nil => rfl
  | _, _, .cons _ l => congrArg Nat.succ l.length
theorem IsL.get : ∀ {vs : List V} {ds : List D} {i : Nat} {d : D}, IsL K F vs ds → ds[i]? = some d → ∃ v, vs[i]? = some v ∧ Is K F v d
  | _, _, _, _, .nil, e => by simp at e
  | _, _, 0, _, .cons h _, e => by
    simp at e
    subst e
    exact ⟨_, rfl, h⟩
  | _, _, i + 1, _, .cons _ l, e => by
    obtain ⟨v, h1, h2⟩ := IsL.get (i := i) l (by simpa using e)
    exact ⟨v, by simpa using h1, h2⟩
theorem IsL.get' : ∀ {vs : List V} {ds : List D} {i : Nat} {v : V}, IsL K F vs ds → vs[i]? = some v → ∃ d, ds[i]? = some d ∧ Is K F v d
  | _, _, _, _, .nil, e => by simp at e
  | _, _, 0, _, .cons h _, e => by
    simp at e
    subst e
    exact ⟨_, rfl, h⟩
  | _, _, i + 1, _, .cons _ l, e => by
    obtain ⟨v, h1, h2⟩ := IsL.get' (i := i) l (by simpa using e)
    exact ⟨v, by simpa using h1, h2⟩
theorem IsL.append : ∀ {vs ws : List V} {ds es : List D}, IsL K F vs ds → IsL K F ws es → IsL K F (vs ++ ws) (ds ++ es)
  | _, _, _, _, .nil, l => l
  | _, _, _, _, .cons h t, l => .cons h (IsL.append t l)
theorem IsL.one {v : V} {d : D} (h : Is K F v d) : IsL K F [v] [d] := .cons h .nil
theorem IsL.set {v : V} {d : D} (h : Is K F v d) : ∀ {vs : List V} {ds : List D} (i : Nat), IsL K F vs ds → IsL K F (vs.set i v) (ds.set i d)
  | _, _, _, .nil => .nil
  | _, _, 0, .cons _ l => .cons h l
  | _, _, i + 1, .cons g l => .cons g (IsL.set h i l)
theorem IsL.take : ∀ {vs : List V} {ds : List D} (n : Nat), IsL K F vs ds → IsL K F (vs.take n) (ds.take n)
  | _, _, 0, _ => .nil
  | _, _, _ + 1, .nil => .nil
  | _, _, n + 1, .cons h l => .cons h (IsL.take n l)
theorem IsL.drop : ∀ {vs : List V} {ds : List D} (n : Nat), IsL K F vs ds → IsL K F (vs.drop n) (ds.drop n)
  | _, _, 0, l => l
  | _, _, _ + 1, .nil => .nil
  | _, _, n + 1, .cons _ l => IsL.drop n l
theorem IsL.dropLast : ∀ {vs : List V} {ds : List D}, IsL K F vs ds → IsL K F vs.dropLast ds.dropLast
  | _, _, .nil => .nil
  | _, _, .cons _ .nil => .nil
  | _, _, .cons h (.cons g l) => .cons h (IsL.dropLast (.cons g l))
theorem IsL.rep : ∀ {vs : List V} {ds : List D} (k : Nat), IsL K F vs ds → IsL K F (List.replicate k vs).flatten (List.replicate k ds).flatten
  | _, _, 0, _ => .nil
  | vs, ds, k + 1, l => by
    rw [List.replicate_succ, List.flatten_cons, List.replicate_succ, List.flatten_cons]
    exact l.append (IsL.rep k l)
theorem IsL.reverse {vs : List V} {ds : List D} (h : IsL K F vs ds) : IsL K F vs.reverse ds.reverse := by
  induction vs generalizing ds with
  | nil => cases h; exact .nil
  | cons v vs ih =>
    cases h with
    | cons h l =>
      rw [List.reverse_cons, List.reverse_cons]
      exact (ih l).append (.one h)
theorem IsL.ints : ∀ {vs : List V} {ns : List Int}, IsL K F vs (ns.map D.int) → vs = ns.map V.int
  | _, [], .nil => rfl
  | _, n :: ns, .cons h l => by
    cases h
    rw [IsL.ints l]
    rfl
theorem IsL.of_ints : ∀ (ns : List Int), IsL K F (ns.map V.int) (ns.map D.int)
  | [] => .nil
  | n :: ns => .cons (.int n) (IsL.of_ints ns)
theorem IsL.of_get : ∀ {vs : List V} {ds : List D}, vs.length = ds.length → (∀ (i : Nat) v d, vs[i]? = some v → ds[i]? = some d → Is K F v d) → IsL K F vs ds
  | [], [], _, _ => .nil
  | [], _ :: _, e, _ => by simp at e
  | _ :: _, [], e, _ => by simp at e
  | v :: vs, d :: ds, e, h => .cons (h 0 v d rfl rfl) (IsL.of_get (by simpa using e) fun i v d a b => h (i + 1) v d (by simpa using a) (by simpa using b))
end

/-! ### the frozen part of the heap -/
/-- F stands in H (a dict of it may be locked for a while) -/
def Le (F H : Hp) : Prop := ∀ a u, F a = some u → H a = some u ∨ ∃ kvs o, u = .dT kvs ∧ H a = some (.frz o u)
theorem Same.le {F H : Hp} (s : Same F H) : Le F H := fun a u e => .inl (s a u e)
theorem Same.thenLe {F F' H : Hp} (s : Same F F') (l : Le F' H) : Le F H := fun a u e => l a u (s a u e)
section
variable {F H : Hp} {a : Addr} {xs : List V}
theorem Le.tup (l : Le F H) (e : F a = some (.tup xs)) : H a = some (.tup xs) := by
  rcases l _ _ e with h | ⟨_, _, h, _⟩
  · exact h
  · cases h
theorem Le.lst (l : Le F H) (e : F a = some (.lst xs)) : H a = some (.lst xs) := by
  rcases l _ _ e with h | ⟨_, _, h, _⟩
  · exact h
  · cases h
theorem Le.frz {o : Obj} {u : HO} (l : Le F H) (e : F a = some (.frz o u)) : H a = some (.frz o u) := by
  rcases l _ _ e with h | ⟨_, _, h, _⟩
  · exact h
  · cases h
theorem Le.dT {kvs : List (List Key × V)} (l : Le F H) (e : F a = some (.dT kvs)) : Rd H a (.dT kvs) := by
  rcases l _ _ e with h | ⟨_, o, _, h⟩
  · exact .inl h
  · exact .inr ⟨o, h⟩
theorem Le.sqL {K : PySem.W.Frag} (l : Le F H) (h : SqL K F a xs) : SqL K H a xs := by
  rcases h with (h | ⟨o, h⟩) | h
  · exact .inl (.inl (l.lst h))
  · exact .inl (.inr ⟨o, l.frz h⟩)
  · exact .inr h
theorem Le.sqT {K : PySem.W.Frag} (l : Le F H) (h : SqT K F a xs) : SqT K H a xs := by
  rcases h with (h | ⟨o, h⟩) | h
  · exact .inl (.inl (l.tup h))
  · exact .inl (.inr ⟨o, l.frz h⟩)
  · exact .inr h
theorem Le.none {F H : Hp} {a : Addr} (l : Le F H) (e : H a = none) : F a = none := by
  cases q : F a with
  | none => rfl
  | some u =>
    rcases l _ _ q with h | ⟨_, _, _, h⟩ <;> rw [e] at h <;> cases h
end

/-- M: the part of the heap that the callers own (it stands); F: what is frozen -/
structure Rl0 (M F H : Hp) : Prop where
  le : Le F H
  mh : Same M H
  fm : ∀ a u, F a = some u → M a = none ∨ ∃ o kvs, M a = some (.frz o (.dT kvs))
  /-- every tuple is frozen -/
  tp : ∀ a xs, H a = some (.tup xs) → F a = some (.tup xs)

/-- what a slot holds -/
inductive C where
  | un
  /-- frozen data -/
  | va (d : D)
  /-- a list of one's own -/
  | ml (ds : List D)
  /-- a list of one's own that stands at p -/
  | mr (p : Addr) (ds : List D)
  /-- a dict of one's own, keys tuples of ints -/
  | md (ks : List (List Int)) (ds : List D)
  /-- a list of one's own of lists of one's own -/
  | mm (dss : List (List D))
  /-- any other object of one's own: what stands at its address, by the values that show the data -/
  | mo (f : Addr → List V → HO) (ds : List D)
def C.own : C → Bool
  | .un => false
  | .va _ => false
  | _ => true

def OwnAt (K : PySem.W.Frag) (F H : Hp) (c : C) (p : Addr) (A : List Addr) : Prop := match c with
  | .ml ds => A = [p] ∧ ∃ xs, H p = some (.lst xs) ∧ IsL K F xs ds
  | .mr p' ds => A = [p] ∧ p' = p ∧ ∃ xs, H p = some (.lst xs) ∧ IsL K F xs ds
  | .md ks ds => A = [p] ∧ ∃ kvs, H p = some (.dT kvs) ∧ kvs.map (·.1) = ks.map (·.map Sum.inl) ∧ IsL K F (kvs.map (·.2)) ds
  | .mm dss => ∃ qs : List Addr, A = p :: qs ∧ (p :: qs).Nodup ∧ H p = some (.lst (qs.map V.ref)) ∧ qs.length = dss.length ∧ ∀ (i : Nat) q ds, qs[i]? = some q → dss[i]? = some ds → ∃ xs, H q = some (.lst xs) ∧ IsL K F xs ds
  | .mo f ds => A = [p] ∧ ∃ vs, H p = some (f p vs) ∧ IsL K F vs ds ∧ ∀ x y, f p vs ≠ .frz x (.dT y)
  | _ => False

structure Rl (K : PySem.W.Frag) (M : Hp) (ρ : List C) (F : Hp) (σ : St) (H : Hp) : Prop where
  z : Rl0 M F H
  len : ρ.length = σ.length
  va : ∀ (i : Nat) d, ρ[i]? = some (.va d) → ∃ v, σ[i]? = some (some v) ∧ Is K F v d
  ow : ∃ fp : Nat → List Addr, (∀ (i : Nat) c, ρ[i]? = some c → c.own = true → ∃ p, σ[i]? = some (some (.ref p)) ∧ OwnAt K F H c p (fp i) ∧ ∀ a ∈ fp i, F a = none ∧ M a = none ∧ H a ≠ none) ∧
    ∀ (i j : Nat) ci cj, i ≠ j → ρ[i]? = some ci → ci.own = true → ρ[j]? = some cj → cj.own = true → ∀ a ∈ fp i, a ∉ fp j

theorem OwnAt.there {K : PySem.W.Frag} {F H : Hp} {c : C} {p : Addr} {A : List Addr} (h : OwnAt K F H c p A) : p ∈ A := by
  cases c with
  | un => exact h.elim
  | va d => exact h.elim
  | ml ds => rw [h.1]; exact List.mem_singleton.mpr rfl
  | mr p' ds => rw [h.1]; exact List.mem_singleton.mpr rfl
  | md ks ds => rw [h.1]; exact List.mem_singleton.mpr rfl
  | mm dss =>
    obtain ⟨qs, e, _⟩ := h
    rw [e]
    exact List.mem_cons_self
  | mo f ds => rw [h.1]; exact List.mem_singleton.mpr rfl
theorem OwnAt.nf {K : PySem.W.Frag} {F H : Hp} {c : C} {p : Addr} {A : List Addr} (h : OwnAt K F H c p A) : ∀ a ∈ A, ∀ x y, H a ≠ some (.frz x (.dT y)) := by
  intro a ha x y e
  cases c with
  | ml ds =>
    obtain ⟨rfl, xs, h1, _⟩ := h
    rw [List.mem_singleton.mp ha, h1] at e
    cases e
  | mr q ds =>
    obtain ⟨rfl, _, xs, h1, _⟩ := h
    rw [List.mem_singleton.mp ha, h1] at e
    cases e
  | md ks ds =>
    obtain ⟨rfl, xs, h1, _⟩ := h
    rw [List.mem_singleton.mp ha, h1] at e
    cases e
  | mm dss =>
    obtain ⟨qs, rfl, _, h1, hl, h2⟩ := h
    rcases List.mem_cons.mp ha with rfl | hm
    · rw [h1] at e
      cases e
    · obtain ⟨i, hi, z⟩ := List.mem_iff_getElem.mp hm
      obtain ⟨xs, h3, _⟩ := h2 i a dss[i] (by rw [← z]; exact List.getElem?_eq_getElem hi) (List.getElem?_eq_getElem (by omega))
      rw [h3] at e
      cases e
  | mo f ds =>
    obtain ⟨rfl, vs, h1, _, h2⟩ := h
    rw [List.mem_singleton.mp ha, h1] at e
    exact h2 x y (Option.some.inj e)
  | un => cases h
  | va d => cases h
theorem OwnAt.keep {K : PySem.W.Frag} {F F' H H' : Hp} {c : C} {p : Addr} {A : List Addr} (h : OwnAt K F H c p A) (s : Same F F') (k : ∀ a ∈ A, H' a = H a) : OwnAt K F' H' c p A := by
  cases c with
  | un => exact h.elim
  | va d => exact h.elim
  | ml ds =>
    obtain ⟨e, xs, h1, h2⟩ := h
    exact ⟨e, xs, (k p (by rw [e]; exact List.mem_singleton.mpr rfl)).trans h1, h2.mono s⟩
  | mr p' ds =>
    obtain ⟨e, e2, xs, h1, h2⟩ := h
    exact ⟨e, e2, xs, (k p (by rw [e]; exact List.mem_singleton.mpr rfl)).trans h1, h2.mono s⟩
  | md ks ds =>
    obtain ⟨e, kvs, h1, h2, h3⟩ := h
    exact ⟨e, kvs, (k p (by rw [e]; exact List.mem_singleton.mpr rfl)).trans h1, h2, h3.mono s⟩
  | mm dss =>
    obtain ⟨qs, e, nd, h1, hl, h2⟩ := h
    refine ⟨qs, e, nd, (k p (by rw [e]; exact List.mem_cons_self)).trans h1, hl, fun i q ds a b => ?_⟩
    obtain ⟨xs, h3, h4⟩ := h2 i q ds a b
    exact ⟨xs, (k q (by rw [e]; exact List.mem_cons_of_mem _ (List.mem_of_getElem? a))).trans h3, h4.mono s⟩
  | mo f ds =>
    obtain ⟨e, vs, h1, h2, h3⟩ := h
    exact ⟨e, vs, (k p (by rw [e]; exact List.mem_singleton.mpr rfl)).trans h1, h2.mono s, h3⟩

section
variable {K : PySem.W.Frag} {M F F' H H' : Hp} {ρ ρ' : List C} {σ σ' : St}
/-- heap and frozen part grow, the own part and the callers' stand -/
theorem Rl.grow (R : Rl K M ρ F σ H) (s : Same F F') (z : Rl0 M F' H') (k : ∀ a, H a ≠ none → F a = none → M a = none → H' a = H a) (f : ∀ a, H a ≠ none → F a = none → F' a = none) : Rl K M ρ F' σ H' := by
  obtain ⟨fp, h1, h2⟩ := R.ow
  refine ⟨z, R.len, fun i d e => ?_, fp, fun i c e o => ?_, h2⟩
  · obtain ⟨v, a, b⟩ := R.va i d e
    exact ⟨v, a, b.mono s⟩
  · obtain ⟨p, a, b, c⟩ := h1 i c e o
    refine ⟨p, a, b.keep s fun x hx => ?_, fun x hx => ?_⟩
    · obtain ⟨q1, q2, q3⟩ := c x hx
      exact k x q3 q1 q2
    · obtain ⟨q1, q2, q3⟩ := c x hx
      refine ⟨f x q3 q1, q2, ?_⟩
      rw [k x q3 q1 q2]
      exact q3
theorem same_upd {F : Hp} {p : Addr} {o : HO} (h : F p = none) : Same F (upd F p o) := fun b u e => by
  rw [upd_ne (ne_of_none e h)]
  exact e
theorem Rl0.alloc {p : Addr} {o : HO} (z : Rl0 M F H) (h : H p = none) : Rl0 M (upd F p o) (upd H p o) := by
  refine ⟨fun a u e => ?_, fun b u e => ?_, fun a u e => ?_, fun a xs e => ?_⟩
  · by_cases hb : a = p
    · subst hb
      rw [upd_same] at e ⊢
      exact .inl e
    · rw [upd_ne hb] at e ⊢
      exact z.le a u e
  · rw [upd_ne (ne_of_none (z.mh _ _ e) h)]
    exact z.mh _ _ e
  · by_cases hb : a = p
    · subst hb
      cases q : M a with
      | none => exact .inl rfl
      | some w => rw [z.mh _ _ q] at h; cases h
    · rw [upd_ne hb] at e
      exact z.fm a u e
  · by_cases hb : a = p
    · subst hb
      rw [upd_same] at e ⊢
      exact e
    · rw [upd_ne hb] at e ⊢
      exact z.tp a xs e
theorem Rl0.tpu {p : Addr} {o : HO} (z : Rl0 M F H) (ht : ∀ xs, o ≠ .tup xs := by intro xs h; cases h) : ∀ a xs, upd H p o a = some (.tup xs) → F a = some (.tup xs) := fun a xs e => by
  by_cases hb : a = p
  · subst hb
    rw [upd_same] at e
    exact absurd (Option.some.inj e) (ht xs)
  · rw [upd_ne hb] at e
    exact z.tp a xs e
/-- a new frozen object -/
theorem Rl.alloc {p : Addr} {o : HO} (R : Rl K M ρ F σ H) (h : H p = none) : Rl K M ρ (upd F p o) σ (upd H p o) :=
  R.grow (same_upd (R.z.le.none h)) (R.z.alloc h) (fun a q _ _ => upd_ne fun e => q (by rw [e]; exact h)) fun a q e => by
    rw [upd_ne fun x => q (by rw [x]; exact h)]
    exact e
theorem Rl.freeP {p : Addr} (R : Rl K M ρ F σ H) (h : H p = none) : F p = none := R.z.le.none h
/-- a new object, in nobody's frozen part: it stands behind the heap as garbage -/
theorem Rl0.lay {p : Addr} {o : HO} (z : Rl0 M F H) (h : H p = none) (ht : ∀ xs, o ≠ .tup xs := by intro xs h; cases h) : Rl0 M F (upd H p o) := by
  refine ⟨fun a u e => ?_, fun b u e => ?_, z.fm, z.tpu ht⟩
  · have hb : a ≠ p := fun x => by rw [x, z.le.none h] at e; cases e
    rw [upd_ne hb]
    exact z.le a u e
  · rw [upd_ne (ne_of_none (z.mh _ _ e) h)]
    exact z.mh _ _ e
theorem Rl.lay {p : Addr} {o : HO} (R : Rl K M ρ F σ H) (h : H p = none) (ht : ∀ xs, o ≠ .tup xs := by intro xs h; cases h) : Rl K M ρ F σ (upd H p o) :=
  R.grow (Same.refl _) (R.z.lay h ht) (fun a q _ _ => upd_ne fun e => q (by rw [e]; exact h)) fun a q e => e

/-! ### slots -/
theorem Rl.set {i : Nat} {v : V} {d : D} (R : Rl K M ρ F σ H) (h : Is K F v d) : Rl K M (ρ.set i (.va d)) F (σ.set i (some v)) H := by
  obtain ⟨fp, h1, h2⟩ := R.ow
  have key : ∀ (j : Nat) c, (ρ.set i (.va d))[j]? = some c → c ≠ .va d ∨ j ≠ i → j ≠ i ∧ ρ[j]? = some c ∨ c = .va d := fun j c e hh => by
    by_cases hj : i = j
    · subst hj
      rw [List.getElem?_set] at e
      simp only [if_true] at e
      split at e
      · exact .inr (Option.some.inj e).symm
      · cases e
    · rw [List.getElem?_set_ne hj] at e
      exact .inl ⟨fun x => hj x.symm, e⟩
  refine ⟨R.z, by rw [List.length_set, List.length_set]; exact R.len, fun j d' e => ?_, fp, fun j c e o => ?_, fun j k cj ck hne e1 o1 e2 o2 => ?_⟩
  · by_cases hj : i = j
    · subst hj
      rw [List.getElem?_set] at e
      simp only [if_true] at e
      split at e
      · rename_i hl
        cases e
        exact ⟨v, by rw [List.getElem?_set_self (by rw [← R.len]; exact hl)], h⟩
      · cases e
    · rw [List.getElem?_set_ne hj] at e
      obtain ⟨w, a, b⟩ := R.va j d' e
      exact ⟨w, by rw [List.getElem?_set_ne hj]; exact a, b⟩
  · have hne : c ≠ .va d := fun x => by subst x; cases o
    rcases key j c e (.inl hne) with ⟨hj, e'⟩ | x
    · obtain ⟨p, a, b⟩ := h1 j c e' o
      exact ⟨p, by rw [List.getElem?_set_ne (fun x => hj x.symm)]; exact a, b⟩
    · exact absurd x hne
  · have n1 : cj ≠ .va d := fun x => by subst x; cases o1
    have n2 : ck ≠ .va d := fun x => by subst x; cases o2
    rcases key j cj e1 (.inl n1) with ⟨_, e1'⟩ | x
    · rcases key k ck e2 (.inl n2) with ⟨_, e2'⟩ | x
      · exact h2 j k cj ck hne e1' o1 e2' o2
      · exact absurd x n2
    · exact absurd x n1
/-- less is known of the slots -/
def Ge (ρ ρ' : List C) : Prop := ρ.length = ρ'.length ∧ ∀ (i : Nat) c, ρ'[i]? = some c → c = .un ∨ ρ[i]? = some c
theorem Ge.refl (ρ : List C) : Ge ρ ρ := ⟨rfl, fun _ _ e => .inr e⟩
theorem Ge.nil : Ge [] [] := Ge.refl _
theorem Ge.cons {c c' : C} {ρ ρ' : List C} (h : c' = .un ∨ c = c') (g : Ge ρ ρ') : Ge (c :: ρ) (c' :: ρ') := by
  refine ⟨by simp [g.1], fun i x e => ?_⟩
  cases i with
  | zero =>
    have e' : c' = x := by simpa using e
    subst e'
    rcases h with h | h
    · exact .inl h
    · exact .inr (by simp [h])
  | succ i =>
    rcases g.2 i x (by simpa using e) with h | h
    · exact .inl h
    · exact .inr (by simpa using h)
theorem Ge.trans {a b c : List C} (h : Ge a b) (g : Ge b c) : Ge a c := ⟨h.1.trans g.1, fun i x e => by
  rcases g.2 i x e with q | q
  · exact .inl q
  · exact h.2 i x q⟩
theorem Rl.weak (R : Rl K M ρ F σ H) (g : Ge ρ ρ') : Rl K M ρ' F σ H := by
  obtain ⟨fp, h1, h2⟩ := R.ow
  have up : ∀ {i : Nat} {c : C}, ρ'[i]? = some c → c ≠ .un → ρ[i]? = some c := fun {i c} e n => (g.2 i c e).elim (fun x => absurd x n) id
  refine ⟨R.z, g.1.symm.trans R.len, fun i d e => R.va i d (up e (fun x => by cases x)), fp, fun i c e o => h1 i c (up e fun x => by subst x; cases o) o, fun i j ci cj hn e1 o1 e2 o2 => h2 i j ci cj hn (up e1 fun x => by subst x; cases o1) o1 (up e2 fun x => by subst x; cases o2) o2⟩
/-- a slot's own object, put at one slot from the last one -/
theorem Rl.move {i : Nat} {c : C} {p : Addr} (R : Rl K M (ρ ++ [c]) F (σ ++ [some (.ref p)]) H) (oc : c.own = true) : Rl K M (ρ.set i c) F (σ.set i (some (.ref p))) H := by
  obtain ⟨fp, h1, h2⟩ := R.ow
  have hl : ρ.length = σ.length := by
    have e := R.len
    simp only [List.length_append, List.length_cons, List.length_nil] at e
    omega
  have lastR : (ρ ++ [c])[ρ.length]? = some c := by simp
  have lastS : (σ ++ [some (.ref p)])[ρ.length]? = some (some (.ref p)) := by rw [hl]; simp
  have old : ∀ {j : Nat} {x : C}, ρ[j]? = some x → (ρ ++ [c])[j]? = some x := fun {j x} e => by
    rw [List.getElem?_append_left (List.getElem?_eq_some_iff.mp e).1]
    exact e
  have oldS : ∀ {j : Nat}, j < ρ.length → (σ ++ [some (.ref p)])[j]? = σ[j]? := fun {j} e => List.getElem?_append_left (by omega)
  have key : ∀ {j : Nat} {x : C}, (ρ.set i c)[j]? = some x → (j = i ∧ x = c ∧ i < ρ.length) ∨ (j ≠ i ∧ ρ[j]? = some x) := fun {j x} e => by
    by_cases hj : i = j
    · subst hj
      rw [List.getElem?_set] at e
      simp only [if_true] at e
      split at e
      · exact .inl ⟨rfl, (Option.some.inj e).symm, by assumption⟩
      · cases e
    · rw [List.getElem?_set_ne hj] at e
      exact .inr ⟨fun x => hj x.symm, e⟩
  refine ⟨R.z, by rw [List.length_set, List.length_set]; exact hl, fun j d e => ?_, fun j => if j = i then fp ρ.length else fp j, fun j x e o => ?_, fun j k cj ck hne e1 o1 e2 o2 => ?_⟩
  · rcases key e with ⟨rfl, q, _⟩ | ⟨hj, e'⟩
    · rw [← q] at oc; cases oc
    · obtain ⟨v, a, b⟩ := R.va j d (old e')
      rw [oldS (List.getElem?_eq_some_iff.mp e').1] at a
      exact ⟨v, by rw [List.getElem?_set_ne fun x => hj x.symm]; exact a, b⟩
  · rcases key e with ⟨rfl, q, hlt⟩ | ⟨hj, e'⟩
    · subst q
      obtain ⟨p', a, b⟩ := h1 _ _ lastR oc
      rw [lastS] at a
      cases a
      refine ⟨p, by rw [List.getElem?_set_self (by omega)], ?_⟩
      simp only [if_true]
      exact b
    · obtain ⟨p', a, b⟩ := h1 j x (old e') o
      rw [oldS (List.getElem?_eq_some_iff.mp e').1] at a
      refine ⟨p', by rw [List.getElem?_set_ne fun x => hj x.symm]; exact a, ?_⟩
      simp only [if_neg hj]
      exact b
  · rcases key e1 with ⟨rfl, q, _⟩ | ⟨hj, e1'⟩
    · rcases key e2 with ⟨rfl, _, _⟩ | ⟨hk, e2'⟩
      · exact absurd rfl hne
      · have hn : ρ.length ≠ k := fun x => by
          have := (List.getElem?_eq_some_iff.mp e2').1
          omega
        subst q
        simp only [if_pos rfl, if_neg hk]
        exact h2 _ k _ ck hn lastR oc (old e2') o2
    · rcases key e2 with ⟨rfl, q, _⟩ | ⟨hk, e2'⟩
      · have hn : j ≠ ρ.length := fun x => by
          have := (List.getElem?_eq_some_iff.mp e1').1
          omega
        subst q
        simp only [if_pos rfl, if_neg hj]
        exact h2 j _ cj _ hn (old e1') o1 lastR oc
      · simp only [if_neg hj, if_neg hk]
        exact h2 j k cj ck hne (old e1') o1 (old e2') o2
/-- the last slot dropped -/
theorem Rl.drop {c : C} {x : Option V} (R : Rl K M (ρ ++ [c]) F (σ ++ [x]) H) : Rl K M ρ F σ H := by
  obtain ⟨fp, h1, h2⟩ := R.ow
  have hl : ρ.length = σ.length := by
    have e := R.len
    simp only [List.length_append, List.length_cons, List.length_nil] at e
    omega
  have old : ∀ {j : Nat} {x : C}, ρ[j]? = some x → (ρ ++ [c])[j]? = some x := fun {j x} e => by
    rw [List.getElem?_append_left (List.getElem?_eq_some_iff.mp e).1]
    exact e
  have oldS : ∀ {j : Nat}, j < ρ.length → (σ ++ [x])[j]? = σ[j]? := fun {j} e => List.getElem?_append_left (by omega)
  refine ⟨R.z, hl, fun j d e => ?_, fp, fun j y e o => ?_, fun j k cj ck hn e1 o1 e2 o2 => h2 j k cj ck hn (old e1) o1 (old e2) o2⟩
  · obtain ⟨v, a, b⟩ := R.va j d (old e)
    rw [oldS (List.getElem?_eq_some_iff.mp e).1] at a
    exact ⟨v, a, b⟩
  · obtain ⟨p, a, b⟩ := h1 j y (old e) o
    rw [oldS (List.getElem?_eq_some_iff.mp e).1] at a
    exact ⟨p, a, b⟩
end
end K8
/-! The layer: judgements on expressions. -/
namespace K8
open PySem PySem.Spec PyProof.Rows L2

def tEv (K : PySem.W.Frag) (ρ : List C) (d : D) (ρ' : List C) : TE := fun σ H Q => ∃ M F, Rl K M ρ F σ H ∧ ∀ F' H' v, Same F F' → Rl K M ρ' F' σ H' → Is K F' v d → Q v H'
def tEvB (K : PySem.W.Frag) (ρ : List C) (b : Bool) (ρ' : List C) : TT := fun σ H Q => ∃ M F, Rl K M ρ F σ H ∧ ∀ F' H', Same F F' → Rl K M ρ' F' σ H' → Q b H'
def tEvA (K : PySem.W.Frag) (ρ : List C) (ds : List D) (ρ' : List C) : TA := fun σ H Q => ∃ M F, Rl K M ρ F σ H ∧ ∀ F' H' vs, Same F F' → Rl K M ρ' F' σ H' → IsL K F' vs ds → Q vs H'
/-- a new object of one's own -/
def tEvN (K : PySem.W.Frag) (ρ : List C) (c : C) (ρ' : List C) : TE := fun σ H Q => ∃ M F, Rl K M ρ F σ H ∧ ∀ F' H' p, Same F F' → Rl K M (ρ' ++ [c]) F' (σ ++ [some (.ref p)]) H' → Q (.ref p) H'
abbrev Ev (X : Cx) (e : Expr) (ρ : List C) (d : D) (ρ' : List C) : Prop := PE X e (tEv X.K ρ d ρ')
abbrev EvB (X : Cx) (e : Expr) (ρ : List C) (b : Bool) (ρ' : List C) : Prop := PT X e (tEvB X.K ρ b ρ')
abbrev EvW (X : Cx) (e : Expr) (ρ : List C) (b : Bool) (ρ' : List C) : Prop := PW X e (tEvB X.K ρ b ρ')
abbrev EvA (X : Cx) (es : List Expr) (ρ : List C) (ds : List D) (ρ' : List C) : Prop := PA X es (tEvA X.K ρ ds ρ')
abbrev EvN (X : Cx) (e : Expr) (ρ : List C) (c : C) (ρ' : List C) : Prop := PE X e (tEvN X.K ρ c ρ')

section
variable {X : Cx} {e a b : Expr} {es : List Expr} {pos : Pos} {ρ ρ1 ρ2 ρ3 : List C} {d d1 d2 d3 : D} {ds : List D} {c : C} {k k1 k2 : Bool}
theorem pe_imp {t t' : TE} (h : PE X e t) (i : ∀ σ H Q, t' σ H Q → t σ H Q) : PE X e t' := ⟨fun pins s σ H Q I q => h.run pins s σ H Q I (i σ H Q q)⟩
theorem pt_imp {t t' : TT} (h : PT X e t) (i : ∀ σ H Q, t' σ H Q → t σ H Q) : PT X e t' := ⟨fun pins s σ H Q I q => h.run pins s σ H Q I (i σ H Q q)⟩
theorem pw_imp {t t' : TT} (h : PW X e t) (i : ∀ σ H Q, t' σ H Q → t σ H Q) : PW X e t' := ⟨fun wh pins s σ H Q I q => h.run wh pins s σ H Q I (i σ H Q q)⟩
theorem pa_imp {t t' : TA} (h : PA X es t) (i : ∀ σ H Q, t' σ H Q → t σ H Q) : PA X es t' := ⟨fun ps pins s σ H Q I q => h.run ps pins s σ H Q I (i σ H Q q)⟩

/-! ### names, constants -/
theorem ev_var (i : Nat) {x : Str} (hN : X.N[i]? = some x) (hv : Vis X.env.scope x) (h : ρ[i]? = some (.va d)) (hd : (x == ("__debug__" : Str)) = false := by decide) (hcd : (x == ("__classdict__" : Str)) = false := by decide) : Ev X (.Name x pos) ρ d ρ :=
  pe_imp (pe_var hN hv hd hcd) fun σ H Q ⟨M, F, R, q⟩ => by
    obtain ⟨v, hs, hi⟩ := R.va i d h
    exact ⟨v, hs, q F H v (Same.refl _) R hi⟩
theorem ev_c {v : V} (h : PE X e (tC v)) (i : ∀ F, Is X.K F v d) : Ev X e ρ d ρ := pe_imp h fun σ H Q ⟨M, F, R, q⟩ => q F H v (Same.refl _) R (i F)
theorem ev_int {i : Int} {j : Nat} : Ev X (.Constant (.int i) j pos) ρ (.int i) ρ := ev_c pe_int fun _ => .int i
theorem ev_bl {i : Bool} {j : Nat} : Ev X (.Constant (.bool i) j pos) ρ (.bl i) ρ := ev_c pe_bl fun _ => .bl i
theorem ev_non {j : Nat} : Ev X (.Constant .none j pos) ρ .non ρ := ev_c pe_non fun _ => .non
theorem ev_str {x : Str} {j : Nat} : Ev X (.Constant (.str x) j pos) ρ (.str x) ρ := ev_c pe_str fun _ => .str x
/-- a module's int -/
theorem ev_gint {x : Str} {i : Int} (hg : Gl X x) (hm : ∃ t, X.mg x = some (.int i t)) (hd : (x == ("__debug__" : Str)) = false := by decide) : Ev X (.Name x pos) ρ (.int i) ρ := by
  obtain ⟨t, hm⟩ := hm
  exact ev_c (pe_glob (v := .int i) hg hm ⟨t, rfl⟩ hd) fun _ => .int i
theorem ev_ty {x : Str} {n : String} (hg : Gl X x) (hm : X.mg x = none) (hv : bootBuiltins x = some (.type n)) (hn : x ≠ "__name__" := by decide) (hd : (x == ("__debug__" : Str)) = false := by decide) : Ev X (.Name x pos) ρ (.ty n) ρ :=
  ev_c (v := .ty n) (pe_bltn hg hm hv rfl hn hd) fun _ => .ty n
/-- a slot's own object becomes frozen -/
theorem Rl.freezeO {K : PySem.W.Frag} {M F H : Hp} {σ : St} {i : Nat} {p : Addr} {o : HO} (R : Rl K M ρ F σ H) (hc : ρ[i]? = some c) (oc : c.own = true) (hp : ∀ p' A, OwnAt K F H c p' A → σ[i]? = some (some (.ref p')) → A = [p'] ∧ p' = p)
    (ho : H p = some o) (hi : Is K (upd F p o) (.ref p) d) : Rl K M (ρ.set i (.va d)) (upd F p o) σ H ∧ Same F (upd F p o) := by
  obtain ⟨fp, h1, h2⟩ := R.ow
  obtain ⟨p', hs, oa, hf⟩ := h1 i c hc oc
  obtain ⟨hA, rfl⟩ := hp p' (fp i) oa hs
  obtain ⟨f1, f2, f3⟩ := hf p' (by rw [hA]; exact List.mem_singleton.mpr rfl)
  have sm : Same F (upd F p' o) := same_upd f1
  have hil : i < ρ.length := (List.getElem?_eq_some_iff.mp hc).1
  have key : ∀ {j : Nat} {x : C}, (ρ.set i (.va d))[j]? = some x → (j = i ∧ x = .va d) ∨ (j ≠ i ∧ ρ[j]? = some x) := fun {j x} e => by
    by_cases hj : i = j
    · subst hj
      rw [List.getElem?_set_self hil] at e
      exact .inl ⟨rfl, (Option.some.inj e).symm⟩
    · rw [List.getElem?_set_ne hj] at e
      exact .inr ⟨fun x => hj x.symm, e⟩
  refine ⟨⟨⟨fun a u e => ?_, R.z.mh, fun a u e => ?_, fun a xs e => by
    by_cases ha : a = p'
    · subst ha
      rw [ho] at e
      rw [upd_same]
      exact e
    · rw [upd_ne ha]
      exact R.z.tp a xs e⟩, by rw [List.length_set]; exact R.len, fun j d' e => ?_, fp, fun j x e o' => ?_, fun j k cj ck hne e1 o1 e2 o2 => ?_⟩, sm⟩
  · by_cases ha : a = p'
    · subst ha
      rw [upd_same] at e
      rw [ho]
      exact .inl e
    · rw [upd_ne ha] at e
      exact R.z.le a u e
  · by_cases ha : a = p'
    · subst ha
      exact .inl f2
    · rw [upd_ne ha] at e
      exact R.z.fm a u e
  · rcases key e with ⟨rfl, x⟩ | ⟨hj, e'⟩
    · cases x
      exact ⟨_, hs, hi⟩
    · obtain ⟨v, a, b⟩ := R.va j d' e'
      exact ⟨v, a, b.mono sm⟩
  · rcases key e with ⟨rfl, x⟩ | ⟨hj, e'⟩
    · subst x
      cases o'
    · obtain ⟨q, a, b, c'⟩ := h1 j x e' o'
      refine ⟨q, a, b.keep sm fun _ _ => rfl, fun y hy => ?_⟩
      obtain ⟨g1, g2, g3⟩ := c' y hy
      refine ⟨?_, g2, g3⟩
      have hn : y ≠ p' := fun z => h2 j i x c hj e' o' hc oc y hy (by rw [z, hA]; exact List.mem_singleton.mpr rfl)
      rw [upd_ne hn]
      exact g1
  · rcases key e1 with ⟨rfl, x⟩ | ⟨_, e1'⟩
    · subst x
      cases o1
    · rcases key e2 with ⟨rfl, x⟩ | ⟨_, e2'⟩
      · subst x
        cases o2
      · exact h2 j k cj ck hne e1' o1 e2' o2
theorem Rl.ml {K : PySem.W.Frag} {M F H : Hp} {σ : St} {i : Nat} (R : Rl K M ρ F σ H) (hc : ρ[i]? = some (.ml ds)) : ∃ p xs, σ[i]? = some (some (.ref p)) ∧ H p = some (.lst xs) ∧ IsL K F xs ds ∧ F p = none ∧ M p = none := by
  obtain ⟨fp, h1, _⟩ := R.ow
  obtain ⟨p, hs, ⟨hA, xs, h3, h4⟩, hf⟩ := h1 i _ hc rfl
  obtain ⟨f1, f2, _⟩ := hf p (by rw [hA]; exact List.mem_singleton.mpr rfl)
  exact ⟨p, xs, hs, h3, h4, f1, f2⟩
theorem Rl.freeze {K : PySem.W.Frag} {M F H : Hp} {σ : St} {i : Nat} (R : Rl K M ρ F σ H) (hc : ρ[i]? = some (.ml ds)) :
    ∃ p F', σ[i]? = some (some (.ref p)) ∧ Rl K M (ρ.set i (.va (.lst ds))) F' σ H ∧ Same F F' ∧ Is K F' (.ref p) (.lst ds) := by
  obtain ⟨p, xs, hs, h3, h4, f1, f2⟩ := R.ml hc
  have hi : Is K (upd F p (.lst xs)) (.ref p) (.lst ds) := .lst upd_same (h4.mono (same_upd f1))
  obtain ⟨R', sm⟩ := R.freezeO (d := .lst ds) hc rfl (fun p' A oa hs' => ⟨oa.1, by rw [hs] at hs'; cases hs'; rfl⟩) h3 hi
  exact ⟨p, _, hs, R', sm, hi⟩
theorem Rl.md {K : PySem.W.Frag} {M F H : Hp} {σ : St} {i : Nat} {ks : List (List Int)} (R : Rl K M ρ F σ H) (hc : ρ[i]? = some (.md ks ds)) :
    ∃ p kvs, σ[i]? = some (some (.ref p)) ∧ H p = some (.dT kvs) ∧ kvs.map (·.1) = ks.map (·.map Sum.inl) ∧ IsL K F (kvs.map (·.2)) ds ∧ F p = none ∧ M p = none := by
  obtain ⟨fp, h1, _⟩ := R.ow
  obtain ⟨p, hs, ⟨hA, kvs, h3, h4, h5⟩, hf⟩ := h1 i _ hc rfl
  obtain ⟨f1, f2, _⟩ := hf p (by rw [hA]; exact List.mem_singleton.mpr rfl)
  exact ⟨p, kvs, hs, h3, h4, h5, f1, f2⟩
theorem Rl.freezeD {K : PySem.W.Frag} {M F H : Hp} {σ : St} {i : Nat} {ks : List (List Int)} (R : Rl K M ρ F σ H) (hc : ρ[i]? = some (.md ks ds)) :
    ∃ p F', σ[i]? = some (some (.ref p)) ∧ Rl K M (ρ.set i (.va (.dic ks ds))) F' σ H ∧ Same F F' ∧ Is K F' (.ref p) (.dic ks ds) := by
  obtain ⟨p, kvs, hs, h3, h4, h5, f1, f2⟩ := R.md hc
  have hi : Is K (upd F p (.dT kvs)) (.ref p) (.dic ks ds) := .dic upd_same h4 (h5.mono (same_upd f1))
  obtain ⟨R', sm⟩ := R.freezeO (d := .dic ks ds) hc rfl (fun p' A oa hs' => ⟨oa.1, by rw [hs] at hs'; cases hs'; rfl⟩) h3 hi
  exact ⟨p, _, hs, R', sm, hi⟩
/-- an own list read as a value: it is frozen from then on -/
theorem ev_varF (i : Nat) {x : Str} (hN : X.N[i]? = some x) (hv : Vis X.env.scope x) (h : ρ[i]? = some (.ml ds)) (hd : (x == ("__debug__" : Str)) = false := by decide) (hcd : (x == ("__classdict__" : Str)) = false := by decide) : Ev X (.Name x pos) ρ (.lst ds) (ρ.set i (.va (.lst ds))) :=
  pe_imp (pe_var hN hv hd hcd) fun σ H Q ⟨M, F, R, q⟩ => by
    obtain ⟨p, F', hs, R', sm, hi⟩ := R.freeze h
    exact ⟨.ref p, hs, q F' H _ sm R' hi⟩
theorem ev_varD (i : Nat) {x : Str} {ks : List (List Int)} (hN : X.N[i]? = some x) (hv : Vis X.env.scope x) (h : ρ[i]? = some (.md ks ds)) (hd : (x == ("__debug__" : Str)) = false := by decide) (hcd : (x == ("__classdict__" : Str)) = false := by decide) : Ev X (.Name x pos) ρ (.dic ks ds) (ρ.set i (.va (.dic ks ds))) :=
  pe_imp (pe_var hN hv hd hcd) fun σ H Q ⟨M, F, R, q⟩ => by
    obtain ⟨p, F', hs, R', sm, hi⟩ := R.freezeD h
    exact ⟨.ref p, hs, q F' H _ sm R' hi⟩

/-! ### operators -/
def BinD (K : PySem.W.Frag) (r : R2) (d1 d2 d : D) : Prop := ∀ M ρ F σ H x y Q, Rl K M ρ F σ H → Is K F x d1 → Is K F y d2 → (∀ F' H' v, Same F F' → Rl K M ρ F' σ H' → Is K F' v d → Q v H') → r x y H Q
def Bop (X : Cx) (op : Operator) (d1 d2 d : D) : Prop := ∃ r, OpR X (binaryOp op) r ∧ BinD X.K r d1 d2 d
def Cop (X : Cx) (op : CmpOp) (d1 d2 : D) (k : Bool) : Prop := ∃ r, OpR X (compareOp op) r ∧ BinD X.K r d1 d2 (.bl k)
def Iop (X : Cx) (d1 d2 d : D) : Prop := ∃ r, IxR X r ∧ BinD X.K r d1 d2 d
/-- two operands, then a rule by values -/
theorem bin_ev {K : PySem.W.Frag} {r : R2} {σ : St} {H : Hp} {Q : VK} (h : BinD K r d1 d2 d) (q : tEv K ρ d ρ2 σ H Q) : tOp r (tEv K ρ d1 ρ1) (tEv K ρ1 d2 ρ2) σ H Q := by
  obtain ⟨M, F, R, k⟩ := q
  exact ⟨M, F, R, fun F1 H1 x s1 R1 i1 => ⟨M, F1, R1, fun F2 H2 y s2 R2 i2 => h M ρ2 F2 σ H2 x y Q R2 (i1.mono s2) i2 fun F3 H3 v s3 R3 i3 => k F3 H3 v ((s1.trans s2).trans s3) R3 i3⟩⟩
theorem ev_op {op : Operator} (ha : Ev X a ρ d1 ρ1) (hb : Ev X b ρ1 d2 ρ2) (h : Bop X op d1 d2 d) : Ev X (.BinOp a op b pos) ρ d ρ2 := by
  obtain ⟨r, ho, hd⟩ := h
  exact pe_imp (pe_op ho ha hb) fun σ H Q q => bin_ev hd q
theorem ev_cmp {op : CmpOp} (ha : Ev X a ρ d1 ρ1) (hb : Ev X b ρ1 d2 ρ2) (h : Cop X op d1 d2 k) (hm : behindInMarks op b = false := by first | exact nomark _ | rfl) : Ev X (.Compare a [op] [b] pos) ρ (.bl k) ρ2 := by
  obtain ⟨r, ho, hd⟩ := h
  exact pe_imp (pe_cmpR ho ha hb hm) fun σ H Q q => bin_ev hd q
theorem evB_cmp {op : CmpOp} (ha : Ev X a ρ d1 ρ1) (hb : Ev X b ρ1 d2 ρ2) (h : Cop X op d1 d2 k) (hm : behindInMarks op b = false := by first | exact nomark _ | rfl) : EvB X (.Compare a [op] [b] pos) ρ k ρ2 := by
  obtain ⟨r, ho, hd⟩ := h
  refine pt_imp (pt_cmpR ho ha hb hm) fun σ H Q ⟨M, F, R, q⟩ => ?_
  refine bin_ev (Q := fun x H' => ∃ k, x = .bl k ∧ Q k H') hd ⟨M, F, R, fun F' H' v s R' i => ?_⟩
  cases i
  exact ⟨_, rfl, q F' H' s R'⟩
theorem ev_ix (ha : Ev X a ρ d1 ρ1) (hb : Ev X b ρ1 d2 ρ2) (h : Iop X d1 d2 d) (hs : PlainIx b := by exact fun _ _ => rfl) : Ev X (.Subscript a b pos) ρ d ρ2 := by
  obtain ⟨r, ho, hd⟩ := h
  exact pe_imp (pe_ix ho ha hb hs) fun σ H Q q => bin_ev hd q
theorem ev_neg {i : Int} (ha : Ev X a ρ (.int i) ρ1) : Ev X (.UnaryOp .USub a pos) ρ (.int (-i)) ρ1 :=
  pe_imp (pe_un un_neg ha) fun σ H Q ⟨M, F, R, q⟩ => ⟨M, F, R, fun F' H' v s R' i' => by
    cases i'
    exact ⟨_, rfl, q F' H' _ s R' (.int _)⟩⟩
theorem ev_notV (ha : Ev X a ρ (.bl k) ρ1) : Ev X (.UnaryOp .Not a pos) ρ (.bl (!k)) ρ1 :=
  pe_imp (pe_not ha) fun σ H Q ⟨M, F, R, q⟩ => ⟨M, F, R, fun F' H' v s R' i' => by
    cases i'
    exact ⟨_, rfl, q F' H' _ s R' (.bl _)⟩⟩
def D.isNon : D → Bool
  | .non => true
  | _ => false
theorem Is.isNon {K : PySem.W.Frag} {F : Hp} {v : V} (h : Is K F v d) : decide (v = .non) = d.isNon := by
  cases h <;> rfl
theorem ev_isNone {j : Nat} {p' : Pos} (ha : Ev X a ρ d ρ1) : Ev X (.Compare a [.Is] [.Constant .none j p'] pos) ρ (.bl d.isNon) ρ1 :=
  pe_imp (pe_cmp (pc_isN ha) rfl) fun σ H Q ⟨M, F, R, q⟩ => ⟨M, F, R, fun F' H' v s R' i => by
    have q' := q F' H' _ s R' (.bl _)
    rw [← i.isNon] at q'
    exact q'⟩
theorem ev_notNone {j : Nat} {p' : Pos} (ha : Ev X a ρ d ρ1) : Ev X (.Compare a [.IsNot] [.Constant .none j p'] pos) ρ (.bl (!d.isNon)) ρ1 :=
  pe_imp (pe_cmp (pc_notN ha) rfl) fun σ H Q ⟨M, F, R, q⟩ => ⟨M, F, R, fun F' H' v s R' i => by
    have q' := q F' H' _ s R' (.bl _)
    rw [← i.isNon] at q'
    exact q'⟩
/-- a chain of two comparisons; the second one is asked if the first one holds -/
theorem ev_chain {e : Expr} {op op' : CmpOp} {pos : Pos} (ha : Ev X a ρ d1 ρ1) (hb : Ev X b ρ1 d2 ρ2) (hc : Ev X e ρ2 d3 ρ2) (h1 : Cop X op d1 d2 k1) (h2 : Cop X op' d2 d3 k2)
    (hm : lastMarks [op, op'] [b, e] = false := by with_unfolding_all rfl) : Ev X (.Compare a [op, op'] [b, e] pos) ρ (.bl (k1 && k2)) ρ2 := by
  obtain ⟨r1, ho1, hd1⟩ := h1
  obtain ⟨r2, ho2, hd2⟩ := h2
  refine pe_imp (pe_chain ho1 ho2 ha hb hc hm) fun σ H Q ⟨M, F, R, q⟩ => ⟨M, F, R, fun F1 H1 x s1 R1 i1 => ⟨M, F1, R1, fun F2 H2 y s2 R2 i2 => ?_⟩⟩
  refine hd1 M ρ2 F2 σ H2 x y _ R2 (i1.mono s2) i2 fun F3 H3 v s3 R3 i3 => ?_
  cases i3
  refine ⟨_, rfl, ?_⟩
  cases k1 with
  | false => exact q F3 H3 _ ((s1.trans s2).trans s3) R3 (.bl _)
  | true =>
    refine ⟨M, F3, R3, fun F4 H4 z s4 R4 i4 => ?_⟩
    exact hd2 M ρ2 F4 σ H4 y z Q R4 ((i2.mono s3).mono s4) i4 fun F5 H5 w s5 R5 i5 => q F5 H5 w ((((s1.trans s2).trans s3).trans s4).trans s5) R5 i5
/-! ### tests -/
theorem evB_val (h : Ev X e ρ (.bl k) ρ1) (he : ∀ whole, isTrue e X.env whole = (do let v ← whole; standAt e.pos; holding [v] (truthy v)) := by intro _; rfl) : EvB X e ρ k ρ1 :=
  pt_imp (pt_val h he) fun σ H Q ⟨M, F, R, q⟩ => ⟨M, F, R, fun F' H' v s R' i => by
    cases i
    exact ⟨_, rfl, q F' H' s R'⟩⟩
theorem evB_not (h : EvB X e ρ k ρ1) : EvB X (.UnaryOp .Not e pos) ρ (!k) ρ1 :=
  pt_imp (pt_not h) fun σ H Q ⟨M, F, R, q⟩ => ⟨M, F, R, fun F' H' s R' => q F' H' s R'⟩
theorem evW_and1 (h : EvB X e ρ k ρ1) : EvW X (.BoolOp .And [e] pos) ρ k ρ1 := pw_and1 h
theorem evW_or1 (h : EvB X e ρ k ρ1) : EvW X (.BoolOp .Or [e] pos) ρ k ρ1 := pw_or1 h
/-- the second part is asked only if the first one holds -/
theorem evW_and {b' : Expr} {rest : List Expr} (h : EvB X a ρ k1 ρ1) (h2 : k1 = true → EvW X (.BoolOp .And (b' :: rest) pos) ρ1 k2 ρ1) : EvW X (.BoolOp .And (a :: b' :: rest) pos) ρ (k1 && k2) ρ1 := by
  cases k1 with
  | true =>
    refine pw_imp (pw_and h (h2 rfl)) fun σ H Q ⟨M, F, R, q⟩ => ⟨M, F, R, fun F' H' s R' => ⟨M, F', R', fun F2 H2 s2 R2 => q F2 H2 (s.trans s2) R2⟩⟩
  | false =>
    refine ⟨fun wh pins s σ H Q I ⟨M, F, R, q⟩ => ?_⟩
    refine isTrue_and (thn (h.run pins s σ H (fun b H1 => b = false ∧ Q b H1) I ⟨M, F, R, fun F' H' s R' => ⟨rfl, q F' H' s R'⟩⟩) fun c s1 ⟨H1, I1, e1, q1⟩ => ?_)
    subst e1
    exact ⟨H1, I1, q1⟩
theorem evW_or {b' : Expr} {rest : List Expr} (h : EvB X a ρ k1 ρ1) (h2 : k1 = false → EvW X (.BoolOp .Or (b' :: rest) pos) ρ1 k2 ρ1) : EvW X (.BoolOp .Or (a :: b' :: rest) pos) ρ (k1 || k2) ρ1 := by
  cases k1 with
  | false =>
    refine pw_imp (pw_or h (h2 rfl)) fun σ H Q ⟨M, F, R, q⟩ => ⟨M, F, R, fun F' H' s R' => ⟨M, F', R', fun F2 H2 s2 R2 => q F2 H2 (s.trans s2) R2⟩⟩
  | true =>
    refine ⟨fun wh pins s σ H Q I ⟨M, F, R, q⟩ => ?_⟩
    refine isTrue_or (thn (h.run pins s σ H (fun b H1 => b = true ∧ Q b H1) I ⟨M, F, R, fun F' H' s R' => ⟨rfl, q F' H' s R'⟩⟩) fun c s1 ⟨H1, I1, e1, q1⟩ => ?_)
    subst e1
    exact ⟨H1, I1, q1⟩
/-- .. as values -/
theorem ev_one {op : BoolOp} (h : Ev X e ρ d ρ1) : Ev X (.BoolOp op [e] pos) ρ d ρ1 := pe_one h
theorem ev_and {b' : Expr} {rest : List Expr} (h : Ev X a ρ (.bl k1) ρ1) (h2 : k1 = true → Ev X (.BoolOp .And (b' :: rest) pos) ρ1 (.bl k2) ρ1) : Ev X (.BoolOp .And (a :: b' :: rest) pos) ρ (.bl (k1 && k2)) ρ1 := by
  cases k1 with
  | true =>
    refine pe_imp (pe_and h (h2 rfl)) fun σ H Q ⟨M, F, R, q⟩ => ⟨M, F, R, fun F' H' v s R' i => ?_⟩
    cases i
    exact ⟨_, rfl, M, F', R', fun F2 H2 v2 s2 R2 i2 => q F2 H2 v2 (s.trans s2) R2 i2⟩
  | false =>
    refine ⟨fun pins s σ H Q I ⟨M, F, R, q⟩ => ?_⟩
    refine BoolOp_and (thn (h.run pins s σ H (fun v H1 => v = .bl false ∧ Q (.bl false) H1) I ⟨M, F, R, fun F' H' v s R' i => ?_⟩) fun v s1 ⟨x, H1, I1, r1, e1, q1⟩ => ?_)
    · cases i
      exact ⟨rfl, q F' H' _ s R' (.bl _)⟩
    · subst e1
      cases r1
      exact wpAny_truthy_bool ⟨.bl false, H1, I1, rfl, q1⟩
theorem ev_or {b' : Expr} {rest : List Expr} (h : Ev X a ρ (.bl k1) ρ1) (h2 : k1 = false → Ev X (.BoolOp .Or (b' :: rest) pos) ρ1 (.bl k2) ρ1) : Ev X (.BoolOp .Or (a :: b' :: rest) pos) ρ (.bl (k1 || k2)) ρ1 := by
  cases k1 with
  | false =>
    refine pe_imp (pe_or h (h2 rfl)) fun σ H Q ⟨M, F, R, q⟩ => ⟨M, F, R, fun F' H' v s R' i => ?_⟩
    cases i
    exact ⟨_, rfl, M, F', R', fun F2 H2 v2 s2 R2 i2 => q F2 H2 v2 (s.trans s2) R2 i2⟩
  | true =>
    refine ⟨fun pins s σ H Q I ⟨M, F, R, q⟩ => ?_⟩
    refine BoolOp_or (thn (h.run pins s σ H (fun v H1 => v = .bl true ∧ Q (.bl true) H1) I ⟨M, F, R, fun F' H' v s R' i => ?_⟩) fun v s1 ⟨x, H1, I1, r1, e1, q1⟩ => ?_)
    · cases i
      exact ⟨rfl, q F' H' _ s R' (.bl _)⟩
    · subst e1
      cases r1
      exact wpAny_truthy_bool ⟨.bl true, H1, I1, rfl, q1⟩
/-- a if t else b -/
theorem ev_ifexp {t : Expr} (ht : EvB X t ρ k ρ1) (ha : k = true → Ev X a ρ1 d ρ2) (hb : k = false → Ev X b ρ1 d ρ2) : Ev X (.IfExp t a b pos) ρ d ρ2 := by
  refine ⟨fun pins s σ H Q I ⟨M, F, R, q⟩ => ?_⟩
  refine wpAny_IfExp (thn (ht.run pins s σ H (fun c H1 => c = k ∧ ∃ F', Same F F' ∧ Rl X.K M ρ1 F' σ H1) I ⟨M, F, R, fun F' H' s R' => ⟨rfl, F', s, R'⟩⟩) fun c s1 ⟨H1, I1, e1, F', s', R'⟩ => ?_)
  subst e1
  cases c with
  | true => exact (ha rfl).run pins s1 σ H1 Q I1 ⟨M, F', R', fun F2 H2 v2 s2 R2 i2 => q F2 H2 v2 (s'.trans s2) R2 i2⟩
  | false => exact (hb rfl).run pins s1 σ H1 Q I1 ⟨M, F', R', fun F2 H2 v2 s2 R2 i2 => q F2 H2 v2 (s'.trans s2) R2 i2⟩
theorem evN_ifexp {t : Expr} (ht : EvB X t ρ k ρ1) (ha : k = true → EvN X a ρ1 c ρ2) (hb : k = false → EvN X b ρ1 c ρ2) : EvN X (.IfExp t a b pos) ρ c ρ2 := by
  refine ⟨fun pins s σ H Q I ⟨M, F, R, q⟩ => ?_⟩
  refine wpAny_IfExp (thn (ht.run pins s σ H (fun c H1 => c = k ∧ ∃ F', Same F F' ∧ Rl X.K M ρ1 F' σ H1) I ⟨M, F, R, fun F' H' s R' => ⟨rfl, F', s, R'⟩⟩) fun c s1 ⟨H1, I1, e1, F', s', R'⟩ => ?_)
  subst e1
  cases c with
  | true => exact (ha rfl).run pins s1 σ H1 Q I1 ⟨M, F', R', fun F2 H2 v2 s2 R2 => q F2 H2 v2 (s'.trans s2) R2⟩
  | false => exact (hb rfl).run pins s1 σ H1 Q I1 ⟨M, F', R', fun F2 H2 v2 s2 R2 => q F2 H2 v2 (s'.trans s2) R2⟩

/-! ### argument lists, displays -/
theorem evA_nil : EvA X [] ρ [] ρ := pa_imp pa_nil fun σ H Q ⟨M, F, R, q⟩ => q F H [] (Same.refl _) R .nil
theorem evA_cons (ha : Ev X e ρ d ρ1) (hr : EvA X es ρ1 ds ρ2) (hs : starEach (e :: es) X.env = (false, eval e X.env) :: starEach es X.env := by rfl) : EvA X (e :: es) ρ (d :: ds) ρ2 :=
  pa_imp (pa_cons ha hr hs) fun σ H Q ⟨M, F, R, q⟩ => ⟨M, F, R, fun F1 H1 x s1 R1 i1 => ⟨M, F1, R1, fun F2 H2 xs s2 R2 i2 => q F2 H2 (x :: xs) (s1.trans s2) R2 (.cons (i1.mono s2) i2)⟩⟩
theorem ev_tup {j : Nat} (h : EvA X es ρ ds ρ1) (hl : ds.length ≤ sizeLine := by first | exact Nat.le_of_ble_eq_true rfl | (show _ ≤ sizeLine; decide)) : Ev X (.Tuple es j pos) ρ (.tup ds) ρ1 :=
  pe_imp (pe_tup h) fun σ H Q ⟨M, F, R, q⟩ => ⟨M, F, R, fun F1 H1 xs s1 R1 i1 => ⟨by rw [i1.length]; exact hl, fun p hp => q _ _ _ (s1.trans (same_upd (R1.freeP hp))) (R1.alloc hp) (.tup upd_same (i1.mono (same_upd (R1.freeP hp))))⟩⟩
/-- a new list of one's own -/
theorem Rl.own {K : PySem.W.Frag} {M F H : Hp} {σ : St} {p : Addr} {xs : List V} (R : Rl K M ρ F σ H) (hp : H p = none) (hl : IsL K F xs ds) : Rl K M (ρ ++ [.ml ds]) F (σ ++ [some (.ref p)]) (upd H p (.lst xs)) := by
  have R' := R.lay (o := .lst xs) hp
  obtain ⟨fp, h1, h2⟩ := R'.ow
  have key : ∀ {j : Nat} {x : C}, (ρ ++ [C.ml ds])[j]? = some x → (j < ρ.length ∧ ρ[j]? = some x) ∨ (j = ρ.length ∧ x = .ml ds) := fun {j x} e => by
    by_cases hj : j < ρ.length
    · rw [List.getElem?_append_left hj] at e
      exact .inl ⟨hj, e⟩
    · have hb := (List.getElem?_eq_some_iff.mp e).1
      simp only [List.length_append, List.length_cons, List.length_nil] at hb
      have ej : j = ρ.length := by omega
      subst ej
      simp at e
      exact .inr ⟨rfl, e.symm⟩
  have oldS : ∀ {j : Nat}, j < ρ.length → (σ ++ [some (V.ref p)])[j]? = σ[j]? := fun {j} e => List.getElem?_append_left (by rw [← R.len]; exact e)
  have nin : ∀ {j : Nat} {x : C}, ρ[j]? = some x → x.own = true → p ∉ fp j := fun {j x} e o hm => by
    obtain ⟨fp', g1, _⟩ := R.ow
    obtain ⟨q, a, b, c⟩ := h1 j x e o
    obtain ⟨q', a', b', c'⟩ := g1 j x e o
    rw [a] at a'
    cases a'
    have same : fp j = fp' j := by
      cases x with
      | un => cases o
      | va d => cases o
      | ml ds => exact b.1.trans b'.1.symm
      | md ks ds => exact b.1.trans b'.1.symm
      | mr p' ds => exact b.1.trans b'.1.symm
      | mo _ _ => exact b.1.trans b'.1.symm
      | mm dss =>
        obtain ⟨qs, e1, nd, h3, _⟩ := b
        obtain ⟨qs', e1', nd', h3', _⟩ := b'
        have hq : q ≠ p := fun z => by
          have := (c' q (by rw [e1']; exact List.mem_cons_self)).2.2
          rw [z, hp] at this
          exact this rfl
        rw [upd_ne hq, h3'] at h3
        have h4 := Option.some.inj h3
        injection h4 with h5
        have h6 : qs' = qs := by
          have := congrArg (List.map fun v => match v with | V.ref a => a | _ => 0) h5
          simpa [List.map_map, Function.comp_def] using this
        rw [e1, e1', h6]
    rw [same] at hm
    exact (c' p hm).2.2 hp
  refine ⟨R'.z, by simp [R.len], fun j d e => ?_, fun j => if j = ρ.length then [p] else fp j, fun j x e o => ?_, fun j k cj ck hne e1 o1 e2 o2 => ?_⟩
  · rcases key e with ⟨hj, e'⟩ | ⟨_, x⟩
    · obtain ⟨v, a, b⟩ := R.va j d e'
      exact ⟨v, by rw [oldS hj]; exact a, b⟩
    · cases x
  · rcases key e with ⟨hj, e'⟩ | ⟨rfl, rfl⟩
    · obtain ⟨q, a, b⟩ := h1 j x e' o
      refine ⟨q, by rw [oldS hj]; exact a, ?_⟩
      have hn : j ≠ ρ.length := Nat.ne_of_lt hj
      simp only [if_neg hn]
      exact b
    · refine ⟨p, by rw [R.len]; simp, ?_⟩
      simp only [if_true]
      refine ⟨⟨rfl, xs, upd_same, hl⟩, fun y hy => ?_⟩
      rw [List.mem_singleton.mp hy]
      refine ⟨R.freeP hp, ?_, by rw [upd_same]; simp⟩
      cases q : M p with
      | none => rfl
      | some w => rw [R.z.mh _ _ q] at hp; cases hp
  · rcases key e1 with ⟨hj, e1'⟩ | ⟨rfl, x1⟩
    · have hn : j ≠ ρ.length := Nat.ne_of_lt hj
      rcases key e2 with ⟨hk, e2'⟩ | ⟨rfl, x2⟩
      · have hn2 : k ≠ ρ.length := Nat.ne_of_lt hk
        simp only [if_neg hn, if_neg hn2]
        exact h2 j k cj ck hne e1' o1 e2' o2
      · simp only [if_neg hn, if_true]
        intro y hy hm
        rw [List.mem_singleton.mp hm] at hy
        exact nin e1' o1 hy
    · rcases key e2 with ⟨hk, e2'⟩ | ⟨rfl, x2⟩
      · have hn2 : k ≠ ρ.length := Nat.ne_of_lt hk
        simp only [if_neg hn2, if_true]
        intro y hy hm
        rw [List.mem_singleton.mp hy] at hm
        exact nin e2' o2 hm
      · exact absurd rfl hne
theorem evN_lst (h : EvA X es ρ ds ρ1) (hl : ds.length ≤ sizeLine := by first | exact Nat.le_of_ble_eq_true rfl | (show _ ≤ sizeLine; decide)) : EvN X (.List es pos) ρ (.ml ds) ρ1 :=
  pe_imp (pe_lst h) fun σ H Q ⟨M, F, R, q⟩ => ⟨M, F, R, fun F1 H1 xs s1 R1 i1 => ⟨by rw [i1.length]; exact hl, fun p hp => q F1 _ p s1 (R1.own hp i1)⟩⟩
theorem ev_of_new (h : EvN X e ρ (.ml ds) ρ1) : Ev X e ρ (.lst ds) ρ1 :=
  pe_imp h fun σ H Q ⟨M, F, R, q⟩ => ⟨M, F, R, fun F1 H1 p s1 R1 => by
    have hl : ρ1.length = σ.length := by
      have e := R1.len
      simp only [List.length_append, List.length_cons, List.length_nil] at e
      omega
    obtain ⟨p', F', hs, R', sm, hi⟩ := R1.freeze (i := ρ1.length) (ds := ds) (by simp)
    rw [hl] at hs
    simp at hs
    subst hs
    have e : (ρ1 ++ [C.ml ds]).set ρ1.length (.va (.lst ds)) = ρ1 ++ [.va (.lst ds)] := by simp
    rw [e] at R'
    exact q F' H1 _ (s1.trans sm) R'.drop hi⟩
theorem ev_lst (h : EvA X es ρ ds ρ1) (hl : ds.length ≤ sizeLine := by first | exact Nat.le_of_ble_eq_true rfl | (show _ ≤ sizeLine; decide)) : Ev X (.List es pos) ρ (.lst ds) ρ1 := ev_of_new (evN_lst h hl)
end
end K8
/-! The layer: operators, built-ins, subscripts, the objects of one's own. -/
namespace K8
open PySem PySem.Spec PyProof.Rows L2

/-! ### plain data as the library's data -/
mutual
def D.py : D → PyData
  | .non => .none
  | .bl b => .bool b
  | .int i => .int i
  | .str x => .str x
  | .ty _ => .none
  | .tup ds => .tuple (D.pyL ds)
  | .lst ds => .list (D.pyL ds)
  | .dic _ _ => .none
  | .scr _ => .none
  | .wtup _ => .none
def D.pyL : List D → List PyData
  | [] => []
  | d :: ds => d.py :: D.pyL ds
end
theorem D.pyL_map : ∀ ds : List D, D.pyL ds = ds.map D.py
  | [] => rfl
  | d :: ds => by rw [D.pyL, D.pyL_map ds]; rfl
/-- plain data of at most so many levels, without bools -/
def D.okn : Nat → D → Prop
  | 0, d => match d with
    | .non => True
    | .int _ => True
    | _ => False
  | n + 1, d => match d with
    | .non => True
    | .int _ => True
    | .tup ds => ∀ x ∈ ds, D.okn n x
    | .lst ds => ∀ x ∈ ds, D.okn n x
    | _ => False
theorem okn_int {n : Nat} {i : Int} : D.okn n (.int i) := by cases n <;> exact True.intro
theorem okn_non {n : Nat} : D.okn n .non := by cases n <;> exact True.intro
theorem D.okn.up : ∀ {n : Nat} {d : D}, D.okn n d → D.okn (n + 1) d
  | 0, d, h => by
    cases d <;> first | exact True.intro | exact h.elim
  | n + 1, d, h => by
    cases d with
    | non => exact True.intro
    | int i => exact True.intro
    | tup ds => exact fun x hx => D.okn.up (h x hx)
    | lst ds => exact fun x hx => D.okn.up (h x hx)
    | _ => exact h.elim
section
variable {K : PySem.W.Frag} {F H : Hp}
mutual
theorem dp_of (l : Le F H) : ∀ {v : V} {d : D} (n : Nat), D.okn n d → Is K F v d → Dp K H v d.py
  | _, _, n, ok, .non => by rw [D.py]; exact .non
  | _, _, n, ok, .bl _ => by cases n <;> exact ok.elim
  | _, _, n, ok, .int _ => by rw [D.py]; exact .int _
  | _, _, n, ok, .str _ => by cases n <;> exact ok.elim
  | _, _, n, ok, .ty _ => by cases n <;> exact ok.elim
  | _, _, 0, ok, .tup h g => ok.elim
  | _, _, n + 1, ok, .tup h g => by rw [D.py]; exact .tup (.inl (.inl (l.tup h))) (dpL_of l n ok g)
  | _, _, 0, ok, .lst h g => ok.elim
  | _, _, n + 1, ok, .lst h g => by rw [D.py]; exact .lst (.inl (.inl (l.lst h))) (dpL_of l n ok g)
  | _, _, n, ok, .dic _ _ _ => by cases n <;> exact ok.elim
  | _, _, n, ok, .scr _ => by cases n <;> exact ok.elim
  | _, _, n, ok, .wtup _ => by cases n <;> exact ok.elim
theorem dpL_of (l : Le F H) : ∀ {vs : List V} {ds : List D} (n : Nat), (∀ x ∈ ds, D.okn n x) → IsL K F vs ds → DpAll K H vs (D.pyL ds)
  | _, _, n, ok, .nil => by rw [D.pyL]; exact .nil
  | _, _, n, ok, .cons h g => by rw [D.pyL]; exact .cons (dp_of l n (ok _ List.mem_cons_self) h) (dpL_of l n (fun x hx => ok x (List.mem_cons_of_mem _ hx)) g)
end
end
theorem py_lay : ∀ (n : Nat) (d : D), D.okn n d → d.py.canLay0 = true ∧ d.py.depth ≤ n := by
  have all : ∀ (n : Nat), (∀ d, D.okn n d → d.py.canLay0 = true ∧ d.py.depth ≤ n) → ∀ ds : List D, (∀ x ∈ ds, D.okn n x) → PyData.canLayAll0 (D.pyL ds) = true ∧ PyData.depthAll (D.pyL ds) ≤ n := by
    intro n ih ds
    induction ds with
    | nil => intro _; simp [D.pyL, PyData.canLayAll0, PyData.depthAll]
    | cons d ds ihd =>
      intro h
      obtain ⟨a, b⟩ := ih d (h d List.mem_cons_self)
      obtain ⟨a', b'⟩ := ihd fun x hx => h x (List.mem_cons_of_mem _ hx)
      simp only [D.pyL, PyData.canLayAll0, PyData.depthAll, a, a', Bool.and_self, true_and]
      omega
  intro n
  induction n with
  | zero =>
    intro d h
    cases d <;> first | exact h.elim | simp [D.py, PyData.canLay0, PyData.depth]
  | succ n ih =>
    intro d h
    cases d with
    | tup ds =>
      obtain ⟨a, b⟩ := all n ih ds h
      simp only [D.py, PyData.canLay0, PyData.depth, a, true_and]
      omega
    | lst ds =>
      obtain ⟨a, b⟩ := all n ih ds h
      simp only [D.py, PyData.canLay0, PyData.depth, a, true_and]
      omega
    | _ => first | exact h.elim | simp [D.py, PyData.canLay0, PyData.depth]
theorem py_shaped {n : Nat} {d : D} (h : D.okn n d) (hn : n ≤ 64) : SeqAt.shaped d.py = true := by
  obtain ⟨a, b⟩ := py_lay n d h
  show (d.py.canLay0 && decide (d.py.depth ≤ 64)) = true
  rw [a, decide_eq_true (by omega)]
  rfl
theorem eqv_iff : ∀ (n : Nat) (d e : D), D.okn n d → D.okn n e → (PyData.eqv d.py e.py = true ↔ d = e) := by
  have all : ∀ (n : Nat), (∀ d e, D.okn n d → D.okn n e → (PyData.eqv d.py e.py = true ↔ d = e)) → ∀ ds es : List D, (∀ x ∈ ds, D.okn n x) → (∀ x ∈ es, D.okn n x) → (PyData.eqvAll (D.pyL ds) (D.pyL es) = true ↔ ds = es) := by
    intro n ih ds
    induction ds with
    | nil =>
      intro es _ _
      cases es <;> simp [D.pyL, PyData.eqvAll]
    | cons d ds ihd =>
      intro es h1 h2
      cases es with
      | nil => simp [D.pyL, PyData.eqvAll]
      | cons e es =>
        have a := ih d e (h1 d List.mem_cons_self) (h2 e List.mem_cons_self)
        have b := ihd es (fun x hx => h1 x (List.mem_cons_of_mem _ hx)) fun x hx => h2 x (List.mem_cons_of_mem _ hx)
        simp only [D.pyL, PyData.eqvAll, Bool.and_eq_true, a, b, List.cons.injEq]
  intro n
  induction n with
  | zero =>
    intro d e h g
    cases d <;> first | exact h.elim | (cases e <;> first | exact g.elim | simp [D.py, PyData.eqv])
  | succ n ih =>
    intro d e h g
    cases d <;> first | exact h.elim | (cases e <;> first | exact g.elim | simp [D.py, PyData.eqv]) | skip
    all_goals first | (rename_i ds es; exact all n ih ds es h g) | skip
def D.beq (d e : D) : Bool := PyData.eqv d.py e.py
theorem beq_dec {α : Type} [DecidableEq α] {enc : α → D} {n : Nat} (ok : ∀ a, D.okn n (enc a)) (inj : ∀ a b, enc a = enc b → a = b) (a b : α) : (enc a).beq (enc b) = decide (a = b) := by
  by_cases h : a = b
  · subst h
    rw [decide_eq_true rfl]
    exact (eqv_iff n _ _ (ok a) (ok a)).mpr rfl
  · rw [decide_eq_false h]
    cases q : (enc a).beq (enc b) with
    | false => rfl
    | true => exact absurd (inj a b ((eqv_iff n _ _ (ok a) (ok b)).mp q)) h

section
variable {X : Cx} {k : Nat}
/-! ### operators -/
theorem bop_add {i j : Int} : Bop X .Add (.int i) (.int j) (.int (i + j)) := ⟨_, op_add, fun M ρ F σ H x y Q R a b k => by
  cases a; cases b
  exact ⟨_, _, rfl, rfl, k F H _ (Same.refl _) R (.int _)⟩⟩
theorem bop_sub {i j : Int} : Bop X .Sub (.int i) (.int j) (.int (i - j)) := ⟨_, op_sub, fun M ρ F σ H x y Q R a b k => by
  cases a; cases b
  exact ⟨_, _, rfl, rfl, k F H _ (Same.refl _) R (.int _)⟩⟩
theorem bop_mul {i j : Int} (h : CMulW i j) : Bop X .Mult (.int i) (.int j) (.int (i * j)) := ⟨_, op_mulW, fun M ρ F σ H x y Q R a b k => by
  cases a; cases b
  exact ⟨_, _, rfl, rfl, h, k F H _ (Same.refl _) R (.int _)⟩⟩
theorem bop_mulS {i j : Int} (h : CMul i j) : Bop X .Mult (.int i) (.int j) (.int (i * j)) := ⟨_, op_mul, fun M ρ F σ H x y Q R a b k => by
  cases a; cases b
  exact ⟨_, _, rfl, rfl, h, k F H _ (Same.refl _) R (.int _)⟩⟩
theorem bop_div {i j : Int} (h : CDivW i j) : Bop X .FloorDiv (.int i) (.int j) (.int (i / j)) := ⟨_, op_fdivW, fun M ρ F σ H x y Q R a b k => by
  cases a; cases b
  exact ⟨_, _, rfl, rfl, h, k F H _ (Same.refl _) R (.int _)⟩⟩
theorem bop_divN {i j : Int} (h : CDivN i j) : Bop X .FloorDiv (.int i) (.int j) (.int (i.fdiv j)) := ⟨_, op_fdivN, fun M ρ F σ H x y Q R a b k => by
  cases a; cases b
  exact ⟨_, _, rfl, rfl, h, k F H _ (Same.refl _) R (.int _)⟩⟩
theorem bop_mod {i j : Int} (h : 0 < j) : Bop X .Mod (.int i) (.int j) (.int (i % j)) := ⟨_, op_mod, fun M ρ F σ H x y Q R a b k => by
  cases a; cases b
  exact ⟨_, _, rfl, rfl, h, k F H _ (Same.refl _) R (.int _)⟩⟩
theorem bop_pow {i j : Int} (h : CPow i j) : Bop X .Pow (.int i) (.int j) (.int (i ^ j.toNat)) := ⟨_, op_pow, fun M ρ F σ H x y Q R a b k => by
  cases a; cases b
  exact ⟨_, _, rfl, rfl, h, k F H _ (Same.refl _) R (.int _)⟩⟩
theorem bop_cat {xs ys : List D} (h : xs.length + ys.length ≤ sizeLine) : Bop X .Add (.lst xs) (.lst ys) (.lst (xs ++ ys)) := ⟨_, op_cat, fun M ρ F σ H x y Q R a b k => by
  cases a with
  | lst h1 l1 =>
    cases b with
    | lst h2 l2 =>
      refine ⟨_, _, _, _, rfl, rfl, R.z.le.lst h1, R.z.le.lst h2, by rw [l1.length, l2.length]; exact h, fun p hp => ?_⟩
      have sm := fun o => same_upd (o := o) (R.freeP hp)
      exact k _ _ _ (sm _) (R.alloc hp) (.lst upd_same ((l1.mono (sm _)).append (l2.mono (sm _))))⟩
theorem bop_rep {xs : List D} {n : Nat} (h : xs.length * n ≤ sizeLine) (hn : n ≤ 1000000) : Bop X .Mult (.lst xs) (.int (n : Int)) (.lst (List.replicate n xs).flatten) := ⟨_, op_rep, fun M ρ F σ H x y Q R a b k => by
  cases a with
  | lst h1 l1 =>
    cases b
    refine ⟨_, _, _, rfl, rfl, R.z.le.lst h1, by omega, by omega, by rw [l1.length, Int.toNat_natCast]; exact h, fun p hp => ?_⟩
    have sm := fun o => same_upd (o := o) (R.freeP hp)
    rw [Int.toNat_natCast]
    exact k _ _ _ (sm _) (R.alloc hp) (.lst upd_same ((l1.mono (sm _)).rep n))⟩
theorem bop_catT {xs ys : List D} (h : xs.length + ys.length ≤ sizeLine) : Bop X .Add (.tup xs) (.tup ys) (.tup (xs ++ ys)) := ⟨_, op_catA, fun M ρ F σ H x y Q R a b k => by
  cases a with
  | tup h1 l1 =>
    cases b with
    | tup h2 l2 =>
      refine ⟨_, _, _, _, rfl, rfl, .inl (.inl (R.z.le.tup h1)), .inl (.inl (R.z.le.tup h2)), by rw [l1.length, l2.length]; exact h, fun e => ?_, fun _ e => ?_, fun _ _ p hp => ?_⟩
      · subst e
        cases l1
        exact k _ _ _ (Same.refl _) R (.tup h2 l2)
      · subst e
        cases l2
        rw [List.append_nil] at k
        exact k _ _ _ (Same.refl _) R (.tup h1 l1)
      · have sm := fun o => same_upd (o := o) (R.freeP hp)
        exact k _ _ _ (sm _) (R.alloc hp) (.tup upd_same ((l1.mono (sm _)).append (l2.mono (sm _))))⟩

/-! ### comparisons -/
theorem cop_lt {i j : Int} : Cop X .Lt (.int i) (.int j) (decide (i < j)) := ⟨_, op_lt, fun M ρ F σ H x y Q R a b k => by
  cases a; cases b
  exact ⟨_, _, rfl, rfl, k F H _ (Same.refl _) R (.bl _)⟩⟩
theorem cop_le {i j : Int} : Cop X .LtE (.int i) (.int j) (decide (i ≤ j)) := ⟨_, op_le, fun M ρ F σ H x y Q R a b k => by
  cases a; cases b
  exact ⟨_, _, rfl, rfl, k F H _ (Same.refl _) R (.bl _)⟩⟩
theorem cop_gt {i j : Int} : Cop X .Gt (.int i) (.int j) (decide (j < i)) := ⟨_, op_gt, fun M ρ F σ H x y Q R a b k => by
  cases a; cases b
  exact ⟨_, _, rfl, rfl, k F H _ (Same.refl _) R (.bl _)⟩⟩
theorem cop_ge {i j : Int} : Cop X .GtE (.int i) (.int j) (decide (j ≤ i)) := ⟨_, op_ge, fun M ρ F σ H x y Q R a b k => by
  cases a; cases b
  exact ⟨_, _, rfl, rfl, k F H _ (Same.refl _) R (.bl _)⟩⟩
theorem cop_eqI {i j : Int} : Cop X .Eq (.int i) (.int j) (decide (i = j)) := ⟨_, op_eq, fun M ρ F σ H x y Q R a b k => by
  cases a; cases b
  have e : decide (V.int i = V.int j) = decide (i = j) := by rw [dec_int]; exact Bool.beq_eq_decide_eq ..
  refine ⟨rfl, ?_⟩
  rw [e]
  exact k F H _ (Same.refl _) R (.bl _)⟩
theorem cop_neI {i j : Int} : Cop X .NotEq (.int i) (.int j) (!decide (i = j)) := ⟨_, op_ne, fun M ρ F σ H x y Q R a b k => by
  cases a; cases b
  have e : decide (V.int i = V.int j) = decide (i = j) := by rw [dec_int]; exact Bool.beq_eq_decide_eq ..
  refine ⟨rfl, ?_⟩
  rw [e]
  exact k F H _ (Same.refl _) R (.bl _)⟩
theorem cop_eqS {i j : Str} : Cop X .Eq (.str i) (.str j) (decide (i = j)) := ⟨_, op_eq, fun M ρ F σ H x y Q R a b k => by
  cases a; cases b
  have e : decide (V.str i = V.str j) = decide (i = j) := by simp
  refine ⟨rfl, ?_⟩
  rw [e]
  exact k F H _ (Same.refl _) R (.bl _)⟩
theorem cop_eqB {i j : Bool} : Cop X .Eq (.bl i) (.bl j) (decide (i = j)) := ⟨_, op_eq, fun M ρ F σ H x y Q R a b k => by
  cases a; cases b
  have e : decide (V.bl i = V.bl j) = decide (i = j) := by simp
  refine ⟨rfl, ?_⟩
  rw [e]
  exact k F H _ (Same.refl _) R (.bl _)⟩
theorem cop_neB {i j : Bool} : Cop X .NotEq (.bl i) (.bl j) (!decide (i = j)) := ⟨_, op_ne, fun M ρ F σ H x y Q R a b k => by
  cases a; cases b
  have e : decide (V.bl i = V.bl j) = decide (i = j) := by simp
  refine ⟨rfl, ?_⟩
  rw [e]
  exact k F H _ (Same.refl _) R (.bl _)⟩
/-- data of any depth -/
theorem cop_eqD {d e : D} {n : Nat} (hr : Room k X.A) (hd : D.okn n d) (he : D.okn n e) (hn : n ≤ 64 := by decide) : Cop X .Eq d e (d.beq e) := ⟨_, op_eqD hr.units, fun M ρ F σ H x y Q R a b k =>
  ⟨d.py, e.py, dp_of R.z.le n hd a, dp_of R.z.le n he b, py_shaped hd hn, py_shaped he hn, k F H _ (Same.refl _) R (.bl _)⟩⟩
theorem cop_neD {d e : D} {n : Nat} (hr : Room k X.A) (hd : D.okn n d) (he : D.okn n e) (hn : n ≤ 64 := by decide) : Cop X .NotEq d e (!d.beq e) := ⟨_, op_neD hr.units, fun M ρ F σ H x y Q R a b k =>
  ⟨d.py, e.py, dp_of R.z.le n hd a, dp_of R.z.le n he b, py_shaped hd hn, py_shaped he hn, k F H _ (Same.refl _) R (.bl _)⟩⟩
theorem any_beq (ds : List D) (d : D) : ((D.pyL ds).any fun z => PyData.eqv z d.py) = ds.any fun z => z.beq d := by
  rw [D.pyL_map, List.any_map]
  rfl
theorem cop_inD {d : D} {ds : List D} {n : Nat} (hr : X.A.units + 65 < cLine) (hd : D.okn n d) (he : D.okn n (.lst ds)) (hn : n ≤ 64 := by decide) : Cop X .In d (.lst ds) (ds.any fun z => z.beq d) := ⟨_, op_inD hr, fun M ρ F σ H x y Q R a b k => by
  have p := dp_of R.z.le n he b
  have s := py_shaped he hn
  rw [D.py] at p s
  refine ⟨d.py, D.pyL ds, dp_of R.z.le n hd a, p, py_shaped hd hn, s, ?_⟩
  rw [any_beq]
  exact k F H _ (Same.refl _) R (.bl _)⟩
theorem cop_ninD {d : D} {ds : List D} {n : Nat} (hr : X.A.units + 65 < cLine) (hd : D.okn n d) (he : D.okn n (.lst ds)) (hn : n ≤ 64 := by decide) : Cop X .NotIn d (.lst ds) (!(ds.any fun z => z.beq d)) := ⟨_, op_notInD hr, fun M ρ F σ H x y Q R a b k => by
  have p := dp_of R.z.le n he b
  have s := py_shaped he hn
  rw [D.py] at p s
  refine ⟨d.py, D.pyL ds, dp_of R.z.le n hd a, p, py_shaped hd hn, s, ?_⟩
  rw [any_beq]
  exact k F H _ (Same.refl _) R (.bl _)⟩

/-! ### items -/
theorem atI_map {xs : List V} {ds : List D} {K : PySem.W.Frag} {F : Hp} {i : Int} {d : D} (l : IsL K F xs ds) (h : atI ds i = some d) : ∃ v, atI xs i = some v ∧ Is K F v d := by
  unfold atI at h ⊢
  rw [l.length]
  cases q : ixN ds.length i with
  | none => rw [q] at h; cases h
  | some j =>
    rw [q] at h
    exact l.get h
theorem iop_lst {ds : List D} {i : Int} {d : D} (h : atI ds i = some d) : Iop X (.lst ds) (.int i) d := ⟨_, ix_list, fun M ρ F σ H x y Q R a b k => by
  cases a with
  | lst h1 l1 =>
    cases b
    obtain ⟨v, e, iv⟩ := atI_map l1 h
    exact ⟨_, _, _, v, rfl, rfl, .inl (.inl (R.z.le.lst h1)), e, k F H v (Same.refl _) R iv⟩⟩
theorem iop_tup {ds : List D} {i : Int} {d : D} (h : atI ds i = some d) : Iop X (.tup ds) (.int i) d := ⟨_, ix_tup, fun M ρ F σ H x y Q R a b k => by
  cases a with
  | tup h1 l1 =>
    cases b
    obtain ⟨v, e, iv⟩ := atI_map l1 h
    exact ⟨_, _, _, v, rfl, rfl, .inl (.inl (R.z.le.tup h1)), e, k F H v (Same.refl _) R iv⟩⟩
theorem iop_scr {ns : List Int} {i n : Int} (h : atI ns i = some n) : Iop X (.scr ns) (.int i) (.int n) := ⟨_, ix_list, fun M ρ F σ H x y Q R a b k => by
  cases a with
  | scr h1 =>
    cases b
    have e : atI (ns.map V.int) i = some (.int n) := by
      unfold atI at h ⊢
      rw [List.length_map]
      cases q : ixN ns.length i with
      | none => rw [q] at h; cases h
      | some j =>
        rw [q] at h
        have h' : ns[j]? = some n := h
        show (ns.map V.int)[j]? = _
        rw [List.getElem?_map, h']
        rfl
    exact ⟨_, _, _, _, rfl, rfl, R.z.le.sqL h1, e, k F H _ (Same.refl _) R (.int _)⟩⟩
end

/-! ### slices -/
def cutD (ds : List D) (lo hi : Option Int) : List D := (ds.drop (HT.sIx ds.length 0 lo)).take (HT.sIx ds.length ds.length hi - HT.sIx ds.length 0 lo)
theorem IsL.cut {K : PySem.W.Frag} {F : Hp} {xs : List V} {ds : List D} (l : IsL K F xs ds) (lo hi : Option Int) : IsL K F (cutV xs lo hi) (cutD ds lo hi) := by
  unfold cutV cutD
  rw [l.length]
  exact (l.drop _).take _
section
variable {X : Cx} {e a b : Expr} {es : List Expr} {pos p p2 : Pos} {ρ ρ1 ρ2 ρ3 : List C} {d d1 d2 d3 : D} {ds : List D} {c : C} {k k1 k2 : Bool} {lo hi : Option Expr} {i j : Option Int}
/-- a part of a slice -/
def tEvO (K : PySem.W.Frag) (ρ : List C) (i : Option Int) (ρ' : List C) : TO := fun σ H Q => ∃ M F, Rl K M ρ F σ H ∧ ∀ F' H', Same F F' → Rl K M ρ' F' σ H' → Q i H'
abbrev EvO (X : Cx) (e : Option Expr) (ρ : List C) (i : Option Int) (ρ' : List C) : Prop := PO X e (tEvO X.K ρ i ρ')
theorem po_imp {t t' : TO} {e : Option Expr} (h : PO X e t) (i : ∀ σ H Q, t' σ H Q → t σ H Q) : PO X e t' := ⟨fun pins s σ H Q I q => h.run pins s σ H Q I (i σ H Q q)⟩
theorem evO_none : EvO X none ρ none ρ := po_imp po_none fun σ H Q ⟨M, F, R, q⟩ => q F H (Same.refl _) R
theorem evO_some {n : Int} (h : Ev X e ρ (.int n) ρ1) : EvO X (some e) ρ (some n) ρ1 := po_imp (po_some h) fun σ H Q ⟨M, F, R, q⟩ => ⟨M, F, R, fun F' H' v s R' i => by
  cases i
  exact ⟨n, rfl, q F' H' s R'⟩⟩
theorem ev_sliceL (h : Ev X e ρ (.lst ds) ρ1) (hl : EvO X lo ρ1 i ρ2) (hh : EvO X hi ρ2 j ρ3) : Ev X (.Subscript e (.Slice lo hi none p2) pos) ρ (.lst (cutD ds i j)) ρ3 :=
  pe_imp (pe_slice sl_list h hl hh) fun σ H Q ⟨M, F, R, q⟩ => ⟨M, F, R, fun F1 H1 v s1 R1 i1 => ⟨M, F1, R1, fun F2 H2 s2 R2 => ⟨M, F2, R2, fun F3 H3 s3 R3 => by
    cases i1 with
    | lst h1 l1 =>
      refine ⟨_, _, rfl, .inl (.inl (R3.z.le.lst (s3 _ _ (s2 _ _ h1)))), fun p hp => ?_⟩
      have sm := fun o => same_upd (o := o) (R3.freeP hp)
      exact q _ _ _ (((s1.trans s2).trans s3).trans (sm _)) (R3.alloc hp) (.lst upd_same ((((l1.mono s2).mono s3).mono (sm _)).cut i j))⟩⟩⟩
theorem ev_sliceT (h : Ev X e ρ (.tup ds) ρ1) (hl : EvO X lo ρ1 i ρ2) (hh : EvO X hi ρ2 j ρ3) : Ev X (.Subscript e (.Slice lo hi none p2) pos) ρ (.tup (cutD ds i j)) ρ3 :=
  pe_imp (pe_slice sl_tupA h hl hh) fun σ H Q ⟨M, F, R, q⟩ => ⟨M, F, R, fun F1 H1 v s1 R1 i1 => ⟨M, F1, R1, fun F2 H2 s2 R2 => ⟨M, F2, R2, fun F3 H3 s3 R3 => by
    cases i1 with
    | tup h1 l1 =>
      have h3 := s3 _ _ (s2 _ _ h1)
      have l3 := (l1.mono s2).mono s3
      refine ⟨_, _, rfl, .inl (.inl (R3.z.le.tup h3)), fun e => ?_, fun _ p hp => ?_⟩
      · have e' : cutD ds i j = ds := by
          unfold cutD
          rw [← l1.length, e.1, e.2, l1.length]
          simp
        rw [e'] at q
        exact q _ _ _ ((s1.trans s2).trans s3) R3 (.tup h3 l3)
      · have sm := fun o => same_upd (o := o) (R3.freeP hp)
        exact q _ _ _ (((s1.trans s2).trans s3).trans (sm _)) (R3.alloc hp) (.tup upd_same ((l3.mono (sm _)).cut i j))⟩⟩⟩

/-! ### built-ins by their values -/
def CallD (K : PySem.W.Frag) (r : List V → Hp → VK → Prop) (ds : List D) (d : D) : Prop := ∀ M ρ F σ H vs Q, Rl K M ρ F σ H → IsL K F vs ds → (∀ F' H' v, Same F F' → Rl K M ρ F' σ H' → Is K F' v d → Q v H') → r vs H Q
theorem call_ev {r : List V → Hp → VK → Prop} {σ : St} {H : Hp} {Q : VK} {K : PySem.W.Frag} (h : CallD K r ds d) (q : tEv K ρ d ρ1 σ H Q) : tCB r (tEvA K ρ ds ρ1) σ H Q := by
  obtain ⟨M, F, R, k⟩ := q
  exact ⟨M, F, R, fun F1 H1 vs s1 R1 i1 => h M ρ1 F1 σ H1 vs Q R1 i1 fun F2 H2 v s2 R2 i2 => k F2 H2 v (s1.trans s2) R2 i2⟩
theorem ev_callB {x : Str} {id : String} {r : List V → Hp → VK → Prop} (hc : CallR X (.builtin id) r) (hd : CallD X.K r ds d) (hg : Gl X x) (hm : X.mg x = none) (hv : bootBuiltins x = some (.builtin id)) (ha : EvA X (e :: es) ρ ds ρ1) (hn : x ≠ "__name__" := by decide) (hdb : (x == ("__debug__" : Str)) = false := by decide)
    (he : starEach (e :: es) X.env = (false, eval e X.env) :: starEach es X.env := by rfl) (hpl : (backTo pos (starEach es X.env)).any (·.1) = false := by rfl) : Ev X (.Call (.Name x p) (e :: es) [] pos) ρ d ρ1 :=
  pe_imp (pe_callB hc hg hm hv ha hn hdb he hpl) fun σ H Q q => call_ev hd q
theorem ev_callTy {x : Str} {T : String} {r : List V → Hp → VK → Prop} (hc : CallR X (.type T) r) (hd : CallD X.K r ds d) (hg : Gl X x) (hm : X.mg x = none) (hv : bootBuiltins x = some (.type T)) (ha : EvA X (e :: es) ρ ds ρ1) (hn : x ≠ "__name__" := by decide) (hdb : (x == ("__debug__" : Str)) = false := by decide)
    (he : starEach (e :: es) X.env = (false, eval e X.env) :: starEach es X.env := by rfl) (hpl : (backTo pos (starEach es X.env)).any (·.1) = false := by rfl) : Ev X (.Call (.Name x p) (e :: es) [] pos) ρ d ρ1 :=
  pe_imp (pe_callTy hc hg hm hv ha hn hdb he hpl) fun σ H Q q => call_ev hd q
/-- len(x) of a list, a tuple, the script -/
def LenD : D → Option Nat
  | .lst ds => some ds.length
  | .tup ds => some ds.length
  | .scr ns => some ns.length
  | _ => none
theorem ev_len {n : Nat} (h : Ev X e ρ d ρ1) (hl : LenD d = some n) (hg : Gl X "len") (hm : X.mg "len" = none) (he : starEach [e] X.env = (false, eval e X.env) :: starEach [] X.env := by rfl) : Ev X (.Call (.Name "len" p) [e] [] pos) ρ (.int (n : Int)) ρ1 := by
  refine ev_callB (ds := [d]) call_len_seq (fun M ρ F σ H vs Q R l k => ?_) hg hm boot_len (evA_cons h evA_nil he) (he := he)
  cases l with
  | cons h1 l1 =>
    cases l1
    cases h1 with
    | tup a b =>
      cases hl
      refine ⟨_, _, rfl, .inr (.inl (.inl (R.z.le.tup a))), ?_⟩
      rw [b.length]
      exact k F H _ (Same.refl _) R (.int _)
    | lst a b =>
      cases hl
      refine ⟨_, _, rfl, .inl (.inl (.inl (R.z.le.lst a))), ?_⟩
      rw [b.length]
      exact k F H _ (Same.refl _) R (.int _)
    | scr a =>
      cases hl
      refine ⟨_, _, rfl, .inl (R.z.le.sqL a), ?_⟩
      rw [List.length_map]
      exact k F H _ (Same.refl _) R (.int _)
    | _ => cases hl
theorem ev_abs {i : Int} (h : Ev X e ρ (.int i) ρ1) (hg : Gl X "abs") (hm : X.mg "abs" = none) (he : starEach [e] X.env = (false, eval e X.env) :: starEach [] X.env := by rfl) : Ev X (.Call (.Name "abs" p) [e] [] pos) ρ (.int (i.natAbs : Int)) ρ1 := by
  refine ev_callB (ds := [.int i]) call_abs (fun M ρ F σ H vs Q R l k => ?_) hg hm (by decide +kernel) (evA_cons h evA_nil he) (he := he)
  cases l with
  | cons h1 l1 =>
    cases l1
    cases h1
    refine ⟨_, rfl, ?_⟩
    have e : (if i < 0 then -i else i) = (i.natAbs : Int) := by split <;> omega
    rw [e]
    exact k F H _ (Same.refl _) R (.int _)
theorem ev_intI {i : Int} (h : Ev X e ρ (.int i) ρ1) (hg : Gl X "int") (hm : X.mg "int" = none) (he : starEach [e] X.env = (false, eval e X.env) :: starEach [] X.env := by rfl) : Ev X (.Call (.Name "int" p) [e] [] pos) ρ (.int i) ρ1 := by
  refine ev_callTy (ds := [.int i]) call_int1 (fun M ρ F σ H vs Q R l k => ?_) hg hm (by decide +kernel) (evA_cons h evA_nil he) (he := he)
  cases l with
  | cons h1 l1 =>
    cases l1
    cases h1
    exact .inl ⟨_, rfl, k F H _ (Same.refl _) R (.int _)⟩
theorem ev_intB (h : Ev X e ρ (.bl k) ρ1) (hg : Gl X "int") (hm : X.mg "int" = none) (he : starEach [e] X.env = (false, eval e X.env) :: starEach [] X.env := by rfl) : Ev X (.Call (.Name "int" p) [e] [] pos) ρ (.int (if k then 1 else 0)) ρ1 := by
  refine ev_callTy (ds := [.bl k]) call_int1 (fun M ρ F σ H vs Q R l kk => ?_) hg hm (by decide +kernel) (evA_cons h evA_nil he) (he := he)
  cases l with
  | cons h1 l1 =>
    cases l1
    cases h1
    exact .inr ⟨_, rfl, kk F H _ (Same.refl _) R (.int _)⟩
theorem ev_sum {ns : List Int} (h : Ev X e ρ (.lst (ns.map D.int)) ρ1) (hc : X.calm = true) (hg : Gl X "sum") (hm : X.mg "sum" = none) (he : starEach [e] X.env = (false, eval e X.env) :: starEach [] X.env := by rfl) : Ev X (.Call (.Name "sum" p) [e] [] pos) ρ (.int ns.sum) ρ1 := by
  refine ev_callB (ds := [.lst (ns.map D.int)]) (cr_sum hc) (fun M ρ F σ H vs Q R l k => ?_) hg hm (by decide +kernel) (evA_cons h evA_nil he) (he := he)
  cases l with
  | cons h1 l1 =>
    cases l1
    cases h1 with
    | lst a b =>
      have e := b.ints
      subst e
      exact ⟨_, _, rfl, .inl (.inl (R.z.le.lst a)), k F H _ (Same.refl _) R (.int _)⟩
theorem ev_max {ns : List Int} {m : Int} (h : Ev X e ρ (.lst (ns.map D.int)) ρ1) (h1 : m ∈ ns) (h2 : ∀ y ∈ ns, y ≤ m) (hc : X.calm = true) (hg : Gl X "max") (hm : X.mg "max" = none) (he : starEach [e] X.env = (false, eval e X.env) :: starEach [] X.env := by rfl) : Ev X (.Call (.Name "max" p) [e] [] pos) ρ (.int m) ρ1 := by
  refine ev_callB (ds := [.lst (ns.map D.int)]) (cr_max hc) (fun M ρ F σ H vs Q R l k => ?_) hg hm (by decide +kernel) (evA_cons h evA_nil he) (he := he)
  cases l with
  | cons g1 l1 =>
    cases l1
    cases g1 with
    | lst a b =>
      have e := b.ints
      subst e
      refine ⟨_, _, rfl, .inl (.inl (R.z.le.lst a)), List.length_pos_of_mem h1, fun y hy hl => ?_⟩
      have ey : y = m := by
        have a1 := hl m h1
        have a2 := h2 y hy
        omega
      subst ey
      exact k F H _ (Same.refl _) R (.int _)
/-- list(x): a new list of one's own -/
theorem evN_list (h : Ev X e ρ d ρ1) (hd : d = .lst ds ∨ d = .tup ds) (hg : Gl X "list") (hm : X.mg "list" = none) (he : starEach [e] X.env = (false, eval e X.env) :: starEach [] X.env := by rfl) : EvN X (.Call (.Name "list" p) [e] [] pos) ρ (.ml ds) ρ1 := by
  refine pe_imp (pe_callTy call_list_of hg hm (by decide +kernel) (evA_cons h evA_nil he) (he := he)) fun σ H Q ⟨M, F, R, q⟩ => ⟨M, F, R, fun F1 H1 vs s1 R1 l => ?_⟩
  cases l with
  | cons h1 l1 =>
    cases l1
    rcases hd with rfl | rfl
    · cases h1 with
      | lst a b => exact ⟨_, _, rfl, .inl (.inl (.inl (R1.z.le.lst a))), fun p hp => q F1 _ p s1 (R1.own hp b)⟩
    · cases h1 with
      | tup a b => exact ⟨_, _, rfl, .inr (.inl (.inl (R1.z.le.tup a))), fun p hp => q F1 _ p s1 (R1.own hp b)⟩
theorem ev_tupleL (h : Ev X e ρ (.lst ds) ρ1) (hg : Gl X "tuple") (hm : X.mg "tuple" = none) (he : starEach [e] X.env = (false, eval e X.env) :: starEach [] X.env := by rfl) : Ev X (.Call (.Name "tuple" p) [e] [] pos) ρ (.tup ds) ρ1 := by
  refine ev_callTy (ds := [.lst ds]) call_tuple_of (fun M ρ F σ H vs Q R l k => ?_) hg hm (by decide +kernel) (evA_cons h evA_nil he) (he := he)
  cases l with
  | cons h1 l1 =>
    cases l1
    cases h1 with
    | lst a b =>
      refine ⟨_, _, rfl, .inl ⟨.inl (.inl (R.z.le.lst a)), fun p hp => ?_⟩⟩
      have sm := fun o => same_upd (o := o) (R.freeP hp)
      exact k _ _ _ (sm _) (R.alloc hp) (.tup upd_same (b.mono (sm _)))
/-- list(range(n)) -/
theorem evN_listRg {n : Nat} {p3 p4 : Pos} (h : Ev X e ρ (.int (n : Int)) ρ1) (hn : n ≤ 16777216) (hc : X.calm = true) (hg : Gl X "list") (hm : X.mg "list" = none) (hg2 : Gl X "range") (hm2 : X.mg "range" = none)
    (he : starEach [e] X.env = (false, eval e X.env) :: starEach [] X.env := by rfl) (he2 : starEach [Expr.Call (.Name "range" p3) [e] [] p4] X.env = (false, eval (Expr.Call (.Name "range" p3) [e] [] p4) X.env) :: starEach [] X.env := by rfl) :
    EvN X (.Call (.Name "list" p) [.Call (.Name "range" p3) [e] [] p4] [] pos) ρ (.ml ((List.range n).map fun (i : Nat) => D.int (i : Int))) ρ1 := by
  refine pe_imp (pe_listRg hc hg hm (prg_1 hg2 hm2 h he) he2) fun σ H Q ⟨M, F, R, q⟩ => ⟨M, F, R, fun F1 H1 v s1 R1 i1 => ?_⟩
  cases i1
  refine ⟨_, rfl, RgOk.of_le (by omega) (by omega) (by omega) (by omega), fun p hp => ?_⟩
  refine q F1 _ p s1 (R1.own hp ?_)
  unfold rgV
  have e : ((n : Int) - 0).toNat = n := by omega
  rw [e]
  refine .of_get (by simp) fun i v d a b => ?_
  rw [List.getElem?_map] at a b
  cases hr : (List.range n)[i]? with
  | none => rw [hr] at a; cases a
  | some r =>
    rw [hr] at a b
    cases a
    cases b
    show Is X.K F1 (.int (0 + (r : Int))) (.int (r : Int))
    rw [Int.zero_add]
    exact .int _
end
end K8
/-! The layer: what is walked, targets, comprehensions. -/
namespace K8
open PySem PySem.Spec PyProof.Rows L2

/-! ### enumerate of a tuple -/
section
set_option maxHeartbeats 2000000
theorem new_enum1 {v : Value} {o : Obj} {B : Heap → Prop} (b : Begins v o B) :
    Meets (Builtin.«enumerate.__new__» ⟨[.type "enumerate", v], []⟩) (fun _ R s => B s.heap ∧
      R (.ok (.ret (.ref (s.heap.push o).objs.size))) { s with heap := (s.heap.push o).push { cls := .type "enumerate", data := .fields #[.none, .bool false, .ref s.heap.objs.size, rawInt 0, .none, .none] } }) := by
  refine .of_wp fun prog w A R s h => ?_
  obtain ⟨hp, g, dr, tk, os⟩ := s
  obtain ⟨hB, hR⟩ := h
  have sub := sub_enumerate
  have it0 : ∀ {A' : Around} {E : Value → Shared → Prop} {Q : Value → Shared → Prop}, Q (.ref hp.objs.size) ⟨hp.push o, g, dr, tk, os⟩ → wpAny (model prog w) A' (pyIter v) Q E ⟨hp, g, dr, tk, os⟩ := fun q => b.iter prog w _ _ ⟨hp, g, dr, tk, os⟩ _ hB q
  wp_walk using it0
  refine wpAny_stack_any fun st => wpAny_pure ?_
  split
  · rename_i c _ _ _ _ _
    cases (c == Value.type "enumerate")
    · wp_walk using it0
      exact ⟨_, rfl, hR⟩
    · wp_walk using it0
      exact ⟨_, rfl, hR⟩
  · wp_walk using it0
    exact ⟨_, rfl, hR⟩
end
theorem call_enum1 {prog : Program} {w : World} {A : Around} {E : Value → Shared → Prop} {s : Shared} {t : Addr} {items : Array Value} {Q : Value → Shared → Prop} (ht : s.heap.IsTuple t items)
    (h : ∀ h', IsEnum h' (s.heap.objs.size + 1) s.heap.objs.size 0 .none → h'.IsTupleIter s.heap.objs.size t 0 → (∀ b o, s.heap.get? b = some o → h'.get? b = some o) → Q (.ref (s.heap.objs.size + 1)) { s with heap := h' }) :
    wpAny (model prog w) A (call (.type "enumerate") [.ref t]) Q E s := by
  refine callType_new F.called_enumerate (by decide) (F.typeCall_enumerate_1 _) (F.newCall_enumerate_1 _) (fun obj => F.args_object_init_2 obj _) F.entry_enumerate_new (new_enum1 (begins_tuple t items)) ⟨ht, ?_⟩
  have hz : (s.heap.push { cls := .type "tuple_iterator", data := .fields #[.ref t, .int 0 0] }).objs.size = s.heap.objs.size + 1 := Heap.size_push ..
  show _ ∧ _
  rw [hz]
  have he : IsEnum ((s.heap.push { cls := .type "tuple_iterator", data := .fields #[.ref t, .int 0 0] }).push { cls := .type "enumerate", data := .fields #[.none, .bool false, .ref s.heap.objs.size, rawInt 0, .none, .none] }) (s.heap.objs.size + 1) s.heap.objs.size 0 .none := by
    have q := Heap.get?_push_size (s.heap.push { cls := .type "tuple_iterator", data := .fields #[.ref t, .int 0 0] }) (o := { cls := .type "enumerate", data := .fields #[.none, .bool false, .ref s.heap.objs.size, rawInt 0, .none, .none] }) rfl
    rw [hz] at q
    exact q
  exact ⟨⟨_, he, rfl⟩, h _ he ⟨_, Heap.get?_push_of_some _ (Heap.get?_push_size _ rfl), rfl, rfl⟩ fun b o x => Heap.get?_push_of_some _ (Heap.get?_push_of_some _ x)⟩
/-- the tuple at a, its items in new pairs -/
def IteT (K : PySem.W.Frag) (a : Addr) : It :=
  ⟨fun i H => ∃ (xs : List V) (x : V), SqT K H a xs ∧ xs[i]? = some x, fun i H v H' => ∃ T x, v = .ref T ∧ H T = none ∧ H' = upd H T (.tup [.int (i : Nat), x]) ∧ ∀ xs, SqT K H a xs → xs[i]? = some x, fun i H => ∃ xs : List V, SqT K H a xs ∧ xs.length ≤ i⟩
theorem turn_enumT {P : Program} {w : World} {K : PySem.W.Frag} {elts : List Expr} {kk : Nat} {tpos : Pos} (a e it : Addr) (hea : e ≠ a) (hia : a ≠ it) :
    Turn P w K (.Tuple elts kk tpos) (IteT K a) [e, it] e (fun i h => (∃ old, IsEnum h e it ((i : Nat) : Int) old) ∧ h.IsTupleIter it a i ∧ e ≠ it) where
  mem := by simp
  obj := fun i h st b hb => by
    obtain ⟨⟨old, he⟩, ⟨o, ho, hc, hd⟩, _⟩ := st
    have e' : b = e ∨ b = it := by simpa using hb
    rcases e' with z | z
    · rw [z]; exact ⟨_, he, fun v q => nomatch q⟩
    · rw [z]; exact ⟨o, ho, fun v q => by rw [hd] at q; cases q⟩
  keep := fun i h h' st k => by
    obtain ⟨⟨old, he⟩, hi, hne⟩ := st
    exact ⟨⟨old, k e (by simp) _ he⟩, hi.at fun o e => k it (by simp) o e, hne⟩
  item := by
    intro X hP hw hK hc i pins s σ H E I hf st hg
    subst hP hw hK
    obtain ⟨⟨old, he⟩, hit, hne⟩ := st
    obtain ⟨xs, x, hq, hx⟩ := hg
    obtain ⟨its, rv, p, hz⟩ := I.tuple hq
    obtain ⟨u, hu, ru⟩ := rv.get hx
    have hel : e < s.heap.objs.size := Heap.lt_size he
    have hil : it < s.heap.objs.size := by
      obtain ⟨_, q, _⟩ := hit
      exact Heap.lt_size q
    have hil2 : i < its.toArray.size := by
      have := (List.getElem?_eq_some_iff.mp hu).1
      simpa using this
    refine wpAny_pyNext_enum_itemC (Draws.tuple (A := X.A.in1) (I.ok.hd hc) it a hia its.toArray) he ⟨hit, p⟩ hil2 hne (by simp [hne, hea]) fun u' h' tk hP ho hit' hT hsz hk => ?_
    have eu : u' = u := by
      have q : its[i]? = some u' := by simpa using hP
      rw [hu] at q
      exact (Option.some.inj q).symm
    subst eu
    refine ⟨_, rfl, wpAny_letOwnedTupleGo_enum (s := { s with heap := h', toks := tk + 1 }) ho fun h'' he' sb => ?_⟩
    have hT2 : h''.get? s.heap.objs.size = some { cls := .type "tuple", data := .seq #[.int i tk, u'] } := (sb.2 _ (Nat.ne_of_gt hel)).trans hT
    have new : ObjOk X.prog X.w (upd H s.heap.objs.size (.tup [.int (i : Nat), x])) h'' s.heap.objs.size (.tup [.int (i : Nat), x]) :=
      ⟨by show 2 ≤ sizeLine; decide, [.int i tk, u'], .cons ⟨_, rfl⟩ (.cons ru .nil), ⟨_, hT2, rfl, _, rfl⟩⟩
    have I1 : Inv X pins σ (upd H s.heap.objs.size (.tup [.int (i : Nat), x])) { s with heap := h'', toks := tk + 1 } :=
      I.turnedNew (ch := [e, it]) (fun b ob hb q => (sb.2 b (fun z => hb (by simp [z]))).trans (hk b ob (fun z => hb (by simp [z])) (fun z => hb (by simp [z])) q)) hf (Nat.le_refl _) new
    refine ⟨.ref s.heap.objs.size, _, I1, rfl, ⟨_, x, rfl, I.hok.fresh (Nat.le_refl _), rfl, fun ys hy => by rw [I.tuple_inj hy hq]; exact hx⟩, ⟨⟨u', ?_⟩, hit'.1.at fun o q => (sb.2 it (Ne.symm hne)).trans q, hne⟩, fun b hb => ?_⟩
    · have e1 : ((i + 1 : Nat) : Int) = (i : Int) + 1 := by omega
      rw [e1]
      exact he'
    · have hb' : b < s.heap.objs.size := by
        have e' : b = e ∨ b = it := by simpa using hb
        rcases e' with z | z
        · rw [z]; exact hel
        · rw [z]; exact hil
      rw [upd_ne (Nat.ne_of_lt hb')]
      exact (hf b hb).1
  done := by
    intro X hP hw hK hc i pins s σ H E I hf st hg
    subst hP hw hK
    obtain ⟨⟨old, he⟩, hit, hne⟩ := st
    obtain ⟨xs, hq, hx⟩ := hg
    obtain ⟨its, rv, p, hz⟩ := I.tuple hq
    obtain ⟨f0, f1, f2, f3, f4, f5⟩ := hf it (by simp)
    have hl := rv.length
    by_cases hi : i = its.toArray.size
    · subst hi
      exact wpAny_pyNext_enum_endD (Draws.tuple (A := X.A.in1) (I.ok.hd hc) it a hia its.toArray) he ⟨hit, p⟩ fun h' eb => ⟨rfl, I.turned (t' := s.toks) (fun b o hb q => eb b o hb q) f0 f1 f3 f4 f5⟩
    · refine wpAny_pyNext_enum_endD (Draws.mk (n := i) (fp := [it, a]) (P := fun _ _ => True) (St := fun j h => j = i ∧ h.IsTupleIter it a i ∧ h.IsTuple a its.toArray) (fun j h st => let ⟨o, ho, _⟩ := st.2.1; ⟨o, ho⟩)
        (fun j h h' st k => ⟨st.1, st.2.1.at fun o e => k it (by simp) o e, st.2.2.at fun o e => k a (by simp) o e⟩)
        (fun j s Q E hj st hQ => absurd hj (by rw [st.1]; exact Nat.lt_irrefl _)) (fun s Q E st hE => wpAny_nextOf_tuple_end (I.ok.hd hc) st.2.1 st.2.2 (by simp; omega) hE)) he ⟨rfl, hit, p⟩
        fun h' eb => ⟨rfl, I.turned (t' := s.toks) (fun b o hb q => eb b o hb q) f0 f1 f3 f4 f5⟩
  self := fun A i s Q E st h => let ⟨⟨_, he⟩, _⟩ := st; wpAny_pyIter_enum he h
def iEnumT (K : PySem.W.Frag) (ta : TA) : TI := fun σ H R => ta σ H fun vs H1 => ∃ a xs, vs = [.ref a] ∧ SqT K H1 a xs ∧ R (IteT K a) H1
theorem pi_enumT {X : Cx} {e : Expr} {ta : TA} {p pos tpos : Pos} {elts : List Expr} {kk : Nat} (hg : Gl X "enumerate") (hm : X.mg "enumerate" = none) (ha : PA X [e] ta) (hs : starEach [e] X.env = [(false, eval e X.env)] := by rfl) :
    PI X (.Tuple elts kk tpos) (.Call (.Name "enumerate" p) [e] [] pos) (iEnumT X.K ta) := by
  refine ⟨fun pins s σ H R I h => ?_⟩
  refine Call_ (ld_blt I hg hm boot_enumerate (PyProof.Rows.callWith_type1 (thn (ha.run pos pins s σ H _ I h) fun us s1 ⟨vs, H1, I1, r1, q1⟩ => ?_) hs rfl))
  obtain ⟨a, xs, ex, hq, q⟩ := q1
  subst ex
  cases r1 with
  | cons r rr =>
    cases rr
    cases r
    obtain ⟨its, rv, p', hz⟩ := I1.tuple hq
    refine call_enum1 p' fun h' he hit hk => wpAny_pyIter_enum he ?_
    have I2 : Inv X pins σ H1 { s1 with heap := h' } := I1.kept (t' := s1.toks) hk
    have hlt : a < s1.heap.objs.size := p'.lt
    refine ⟨s1.heap.objs.size + 1, [s1.heap.objs.size + 1, s1.heap.objs.size], _, _, H1, rfl, I2, turn_enumT a (s1.heap.objs.size + 1) s1.heap.objs.size (Nat.ne_of_gt (Nat.lt_succ_of_lt hlt)) (Nat.ne_of_lt hlt), ⟨⟨.none, he⟩, hit, Nat.succ_ne_self _⟩, fun b hb => ?_, q⟩
    have e' : b = s1.heap.objs.size + 1 ∨ b = s1.heap.objs.size := by simpa using hb
    have hle : s1.heap.objs.size ≤ b := by
      rcases e' with z | z
      · rw [z]; exact Nat.le_add_right _ _
      · rw [z]; exact Nat.le_refl _
    exact I1.fpOk hle (I1.hok.fresh hle)

/-! ### what is walked -/
def Yld (K : PySem.W.Frag) (J : It) (xs : List D) (M F : Hp) : Prop := ∀ (ρ : List C) (F' : Hp) (σ : St) (H : Hp), Same F F' → Rl K M ρ F' σ H → ∀ i : Nat, (xs.length ≤ i → J.stop i H) ∧
  ∀ x, xs[i]? = some x → J.go i H ∧ ∀ v H', J.yld i H v H' → ∃ F'', Same F' F'' ∧ Rl K M ρ F'' σ H' ∧ Is K F'' v x
def tItr (K : PySem.W.Frag) (ρ : List C) (xs : List D) (ρ' : List C) : TI := fun σ H R => ∃ M F, Rl K M ρ F σ H ∧ ∀ J M1 F' H', Same M M1 → Same F F' → Rl K M1 ρ' F' σ H' → (∀ M', Same M1 M' → Yld K J xs M' F') → R J H'
abbrev Itr' (X : Cx) (tg iter : Expr) (ρ : List C) (xs : List D) (ρ' : List C) : Prop := PI X tg iter (tItr X.K ρ xs ρ')
section
variable {X : Cx} {tg e a b : Expr} {es : List Expr} {pos p : Pos} {ρ ρ1 ρ2 : List C} {ds xs ys : List D}
theorem pi_imp {t t' : TI} (h : PI X tg e t) (i : ∀ σ H R, t' σ H R → t σ H R) : PI X tg e t' := ⟨fun pins s σ H R I q => h.run pins s σ H R I (i σ H R q)⟩
theorem itr_lst (h : Ev X e ρ (.lst ds) ρ1) : Itr' X tg e ρ ds ρ1 :=
  pi_imp (pi_list h) fun σ H R ⟨M, F, R0, k⟩ => ⟨M, F, R0, fun F1 H1 v s1 R1 i1 => by
    cases i1 with
    | lst h1 l1 =>
      rename_i a vs
      refine ⟨a, rfl, ⟨_, .inl (.inl (R1.z.le.lst h1))⟩, k _ M F1 H1 (Same.refl _) s1 R1 fun M' _ ρ' F' σ' H' s' R' i => ⟨fun hi => ⟨vs, .inl (.inl (R'.z.le.lst (s' _ _ h1))), by rw [l1.length]; exact hi⟩, fun x hx => ?_⟩⟩
      obtain ⟨v, hv, iv⟩ := l1.get hx
      have q : SqL X.K H' a vs := .inl (.inl (R'.z.le.lst (s' _ _ h1)))
      refine ⟨⟨vs, v, q, hv⟩, fun w H2 ⟨e2, y⟩ => ?_⟩
      subst e2
      have ew := y vs q
      rw [hv] at ew
      cases ew
      exact ⟨F', Same.refl _, R', iv.mono s'⟩⟩
theorem itr_tup (h : Ev X e ρ (.tup ds) ρ1) : Itr' X tg e ρ ds ρ1 :=
  pi_imp (pi_tup h) fun σ H R ⟨M, F, R0, k⟩ => ⟨M, F, R0, fun F1 H1 v s1 R1 i1 => by
    cases i1 with
    | tup h1 l1 =>
      rename_i a vs
      refine ⟨a, rfl, ⟨_, .inl (.inl (R1.z.le.tup h1))⟩, k _ M F1 H1 (Same.refl _) s1 R1 fun M' _ ρ' F' σ' H' s' R' i => ⟨fun hi => ⟨vs, .inl (.inl (R'.z.le.tup (s' _ _ h1))), by rw [l1.length]; exact hi⟩, fun x hx => ?_⟩⟩
      obtain ⟨v, hv, iv⟩ := l1.get hx
      have q : SqT X.K H' a vs := .inl (.inl (R'.z.le.tup (s' _ _ h1)))
      refine ⟨⟨vs, v, q, hv⟩, fun w H2 ⟨e2, y⟩ => ?_⟩
      subst e2
      have ew := y vs q
      rw [hv] at ew
      cases ew
      exact ⟨F', Same.refl _, R', iv.mono s'⟩⟩
theorem itr_wtup {zs : List Str} (h : Ev X e ρ (.wtup zs) ρ1) : Itr' X tg e ρ (zs.map D.str) ρ1 :=
  pi_imp (pi_tup h) fun σ H R ⟨M, F, R0, k⟩ => ⟨M, F, R0, fun F1 H1 v s1 R1 i1 => by
    cases i1 with
    | wtup h1 =>
      rename_i a
      refine ⟨a, rfl, ⟨_, R1.z.le.sqT h1⟩, k _ M F1 H1 (Same.refl _) s1 R1 fun M' _ ρ' F' σ' H' s' R' i => ⟨fun hi => ⟨_, R'.z.le.sqT (Same.sqT s' h1), by simpa using hi⟩, fun x hx => ?_⟩⟩
      rw [List.getElem?_map] at hx
      cases hz : zs[i]? with
      | none => rw [hz] at hx; cases hx
      | some z =>
        rw [hz] at hx
        cases hx
        have q : SqT X.K H' a (zs.map V.str) := R'.z.le.sqT (Same.sqT s' h1)
        have hv : (zs.map V.str)[i]? = some (V.str z) := by rw [List.getElem?_map, hz]; rfl
        refine ⟨⟨_, _, q, hv⟩, fun w H2 ⟨e2, y⟩ => ?_⟩
        subst e2
        have ew := y _ q
        rw [hv] at ew
        cases ew
        exact ⟨F', Same.refl _, R', .str _⟩⟩
theorem itr_range1 {n : Nat} (h : Ev X e ρ (.int (n : Int)) ρ1) (hn : n ≤ 1000000000) (hg : Gl X "range") (hm : X.mg "range" = none) (hs : starEach [e] X.env = [(false, eval e X.env)] := by rfl) :
    Itr' X tg (.Call (.Name "range" p) [e] [] pos) ρ ((List.range n).map fun (i : Nat) => D.int (i : Int)) ρ1 :=
  pi_imp (pi_range1 hg hm (evA_cons h evA_nil hs) hs) fun σ H R ⟨M, F, R0, k⟩ => ⟨M, F, R0, fun F1 H1 vs s1 R1 l1 => by
    cases l1 with
    | cons i1 l2 =>
      cases l2
      cases i1
      refine ⟨_, rfl, by omega, by omega, ?_⟩
      rw [Int.toNat_natCast]
      refine k _ M F1 H1 (Same.refl _) s1 R1 fun M' _ ρ' F' σ' H' s' R' i => ⟨fun hi => (by simpa using hi : n ≤ i), fun x hx => ?_⟩
      rw [List.getElem?_map] at hx
      cases hz : (List.range n)[i]? with
      | none => rw [hz] at hx; cases hx
      | some z =>
        rw [hz] at hx
        cases hx
        obtain ⟨h1, h2⟩ := List.getElem?_eq_some_iff.mp hz
        simp at h1 h2
        subst h2
        refine ⟨h1, fun w H2 ⟨e2, y⟩ => ?_⟩
        subst e2 y
        rw [Int.zero_add]
        exact ⟨F', Same.refl _, R', .int _⟩⟩
theorem itr_range2 {m n : Nat} (ha : Ev X a ρ (.int (m : Int)) ρ1) (hb : Ev X b ρ1 (.int (n : Int)) ρ2) (hm' : m ≤ 1000000000) (hn : n ≤ 1000000000) (hg : Gl X "range") (hm : X.mg "range" = none)
    (hs : starEach [a, b] X.env = [(false, eval a X.env), (false, eval b X.env)] := by rfl) (hs2 : starEach [b] X.env = [(false, eval b X.env)] := by rfl) :
    Itr' X tg (.Call (.Name "range" p) [a, b] [] pos) ρ ((List.range (n - m)).map fun (i : Nat) => D.int ((m + i : Nat) : Int)) ρ2 :=
  pi_imp (pi_range2 hg hm (evA_cons ha (evA_cons hb evA_nil hs2) (hs.trans (by rw [hs2]))) hs hs2) fun σ H R ⟨M, F, R0, k⟩ => ⟨M, F, R0, fun F1 H1 vs s1 R1 l1 => by
    cases l1 with
    | cons i1 l2 =>
      cases l2 with
      | cons i2 l3 =>
        cases l3
        cases i1
        cases i2
        refine ⟨_, _, rfl, ⟨by omega, by omega, by omega, by omega⟩, ?_⟩
        have en : ((n : Int) - (m : Int)).toNat = n - m := by omega
        rw [en]
        refine k _ M F1 H1 (Same.refl _) s1 R1 fun M' _ ρ' F' σ' H' s' R' i => ⟨fun hi => (by rw [List.length_map, List.length_range] at hi; exact hi : n - m ≤ i), fun x hx => ?_⟩
        rw [List.getElem?_map] at hx
        cases hz : (List.range (n - m))[i]? with
        | none => rw [hz] at hx; cases hx
        | some z =>
          rw [hz] at hx
          cases hx
          obtain ⟨h1, h2⟩ := List.getElem?_eq_some_iff.mp hz
          simp at h1 h2
          subst h2
          refine ⟨h1, fun w H2 ⟨e2, y⟩ => ?_⟩
          subst e2 y
          have ez : ((m + i : Nat) : Int) = (m : Int) + (i : Int) := by omega
          rw [← ez]
          exact ⟨F', Same.refl _, R', .int _⟩⟩
/-- the pairs of enumerate -/
def enumD (ds : List D) : List D := ds.zipIdx.map fun (p : D × Nat) => .tup [.int (p.2 : Int), p.1]
theorem enumD_get {ds : List D} {i : Nat} {x : D} (h : (enumD ds)[i]? = some x) : ∃ d, ds[i]? = some d ∧ x = .tup [.int (i : Int), d] := by
  unfold enumD at h
  rw [List.getElem?_map, List.getElem?_zipIdx] at h
  cases hd : ds[i]? with
  | none => rw [hd] at h; cases h
  | some d =>
    rw [hd] at h
    refine ⟨d, rfl, ?_⟩
    have q := (Option.some.inj h).symm
    simpa using q
theorem enumD_length (ds : List D) : (enumD ds).length = ds.length := by simp [enumD]
theorem itr_enumL {elts : List Expr} {kk : Nat} {tpos : Pos} (h : Ev X e ρ (.lst ds) ρ1) (hg : Gl X "enumerate") (hm : X.mg "enumerate" = none) (hs : starEach [e] X.env = [(false, eval e X.env)] := by rfl) :
    Itr' X (.Tuple elts kk tpos) (.Call (.Name "enumerate" p) [e] [] pos) ρ (enumD ds) ρ1 :=
  pi_imp (pi_enum hg hm (evA_cons h evA_nil hs) hs) fun σ H R ⟨M, F, R0, k⟩ => ⟨M, F, R0, fun F1 H1 vs s1 R1 l1 => by
    cases l1 with
    | cons i1 l2 =>
      cases l2
      cases i1 with
      | lst h1 l1 =>
        rename_i a vs
        refine ⟨a, vs, rfl, .inl (.inl (R1.z.le.lst h1)), k _ M F1 H1 (Same.refl _) s1 R1 fun M' _ ρ' F' σ' H' s' R' i => ⟨fun hi => ⟨vs, .inl (.inl (R'.z.le.lst (s' _ _ h1))), by rw [l1.length, ← enumD_length]; exact hi⟩, fun x hx => ?_⟩⟩
        obtain ⟨d, hd, rfl⟩ := enumD_get hx
        obtain ⟨v, hv, iv⟩ := l1.get hd
        have q : SqL X.K H' a vs := .inl (.inl (R'.z.le.lst (s' _ _ h1)))
        refine ⟨⟨vs, v, q, hv⟩, fun w H2 ⟨T, x, e1, hT, e2, y⟩ => ?_⟩
        subst e1 e2
        have ew := y vs q
        rw [hv] at ew
        cases ew
        have sm := same_upd (o := .tup [.int (i : Nat), v]) (R'.freeP hT)
        exact ⟨_, sm, R'.alloc hT, .tup upd_same (.cons (.int _) (.cons ((iv.mono s').mono sm) .nil))⟩⟩
theorem itr_enumT {elts : List Expr} {kk : Nat} {tpos : Pos} (h : Ev X e ρ (.tup ds) ρ1) (hg : Gl X "enumerate") (hm : X.mg "enumerate" = none) (hs : starEach [e] X.env = [(false, eval e X.env)] := by rfl) :
    Itr' X (.Tuple elts kk tpos) (.Call (.Name "enumerate" p) [e] [] pos) ρ (enumD ds) ρ1 :=
  pi_imp (pi_enumT hg hm (evA_cons h evA_nil hs) hs) fun σ H R ⟨M, F, R0, k⟩ => ⟨M, F, R0, fun F1 H1 vs s1 R1 l1 => by
    cases l1 with
    | cons i1 l2 =>
      cases l2
      cases i1 with
      | tup h1 l1 =>
        rename_i a vs
        refine ⟨a, vs, rfl, .inl (.inl (R1.z.le.tup h1)), k _ M F1 H1 (Same.refl _) s1 R1 fun M' _ ρ' F' σ' H' s' R' i => ⟨fun hi => ⟨vs, .inl (.inl (R'.z.le.tup (s' _ _ h1))), by rw [l1.length, ← enumD_length]; exact hi⟩, fun x hx => ?_⟩⟩
        obtain ⟨d, hd, rfl⟩ := enumD_get hx
        obtain ⟨v, hv, iv⟩ := l1.get hd
        have q : SqT X.K H' a vs := .inl (.inl (R'.z.le.tup (s' _ _ h1)))
        refine ⟨⟨vs, v, q, hv⟩, fun w H2 ⟨T, x, e1, hT, e2, y⟩ => ?_⟩
        subst e1 e2
        have ew := y vs q
        rw [hv] at ew
        cases ew
        have sm := same_upd (o := .tup [.int (i : Nat), v]) (R'.freeP hT)
        exact ⟨_, sm, R'.alloc hT, .tup upd_same (.cons (.int _) (.cons ((iv.mono s').mono sm) .nil))⟩⟩
def zipD (xs ys : List D) : List D := (xs.zip ys).map fun p => .tup [p.1, p.2]
theorem zipD_get {xs ys : List D} {i : Nat} {x : D} (h : (zipD xs ys)[i]? = some x) : ∃ a b, xs[i]? = some a ∧ ys[i]? = some b ∧ x = .tup [a, b] := by
  unfold zipD at h
  rw [List.getElem?_map] at h
  cases hz : (xs.zip ys)[i]? with
  | none => rw [hz] at h; cases h
  | some q =>
    rw [hz] at h
    obtain ⟨a, b⟩ := List.getElem?_zip_eq_some.mp hz
    exact ⟨q.1, q.2, a, b, (Option.some.inj h).symm⟩
theorem zipD_length (xs ys : List D) : (zipD xs ys).length = min xs.length ys.length := by simp [zipD]
theorem itr_zip {elts : List Expr} {kk : Nat} {tpos : Pos} {d1 d2 : D} (ha : Ev X a ρ d1 ρ1) (hb : Ev X b ρ1 d2 ρ2) (hd : (d1 = .lst xs ∧ d2 = .lst ys) ∨ (d1 = .tup xs ∧ d2 = .tup ys)) (hg : Gl X "zip") (hm : X.mg "zip" = none)
    (hs : starEach [a, b] X.env = (false, eval a X.env) :: starEach [b] X.env := by rfl) (hs2 : starEach [b] X.env = (false, eval b X.env) :: starEach [] X.env := by rfl) (hpl : (backTo pos (starEach [b] X.env)).any (·.1) = false := by rfl) :
    Itr' X (.Tuple elts kk tpos) (.Call (.Name "zip" p) [a, b] [] pos) ρ (zipD xs ys) ρ2 :=
  pi_imp (RZ.pi_zipA hg hm (evA_cons ha (evA_cons hb evA_nil hs2) hs) hs hpl) fun σ H R ⟨M, F, R0, k⟩ => ⟨M, F, R0, fun F1 H1 vs s1 R1 l1 => by
    cases l1 with
    | cons i1 l2 =>
      cases l2 with
      | cons i2 l3 =>
        cases l3
        rcases hd with ⟨rfl, rfl⟩ | ⟨rfl, rfl⟩
        · cases i1 with
          | lst h1 g1 =>
            cases i2 with
            | lst h2 g2 =>
              rename_i aa va bb vb
              refine ⟨aa, bb, va, vb, rfl, .inl ⟨.inl (.inl (R1.z.le.lst h1)), .inl (.inl (R1.z.le.lst h2)), k _ M F1 H1 (Same.refl _) s1 R1 fun M' _ ρ' F' σ' H' s' R' i => ?_⟩⟩
              have q1 : SqL X.K H' aa va := .inl (.inl (R'.z.le.lst (s' _ _ h1)))
              have q2 : SqL X.K H' bb vb := .inl (.inl (R'.z.le.lst (s' _ _ h2)))
              refine ⟨fun hi => ⟨va, vb, q1, q2, ?_⟩, fun x hx => ?_⟩
              · rw [zipD_length] at hi
                rw [g1.length, g2.length]
                omega
              · obtain ⟨d, d', hd, hd', rfl⟩ := zipD_get hx
                obtain ⟨v, hv, iv⟩ := g1.get hd
                obtain ⟨v', hv', iv'⟩ := g2.get hd'
                refine ⟨⟨va, vb, v, v', q1, q2, hv, hv'⟩, fun w H2 ⟨T, x, y, e1, hT, e2, y1, y2⟩ => ?_⟩
                subst e1 e2
                have ew := y1 va q1
                have ew' := y2 vb q2
                rw [hv] at ew
                rw [hv'] at ew'
                cases ew
                cases ew'
                have sm := same_upd (o := .tup [v, v']) (R'.freeP hT)
                exact ⟨_, sm, R'.alloc hT, .tup upd_same (.cons ((iv.mono s').mono sm) (.cons ((iv'.mono s').mono sm) .nil))⟩
        · cases i1 with
          | tup h1 g1 =>
            cases i2 with
            | tup h2 g2 =>
              rename_i aa va bb vb
              refine ⟨aa, bb, va, vb, rfl, .inr ⟨.inl (.inl (R1.z.le.tup h1)), .inl (.inl (R1.z.le.tup h2)), k _ M F1 H1 (Same.refl _) s1 R1 fun M' _ ρ' F' σ' H' s' R' i => ?_⟩⟩
              have q1 : SqT X.K H' aa va := .inl (.inl (R'.z.le.tup (s' _ _ h1)))
              have q2 : SqT X.K H' bb vb := .inl (.inl (R'.z.le.tup (s' _ _ h2)))
              refine ⟨fun hi => ⟨va, vb, q1, q2, ?_⟩, fun x hx => ?_⟩
              · rw [zipD_length] at hi
                rw [g1.length, g2.length]
                omega
              · obtain ⟨d, d', hd, hd', rfl⟩ := zipD_get hx
                obtain ⟨v, hv, iv⟩ := g1.get hd
                obtain ⟨v', hv', iv'⟩ := g2.get hd'
                refine ⟨⟨va, vb, v, v', q1, q2, hv, hv'⟩, fun w H2 ⟨T, x, y, e1, hT, e2, y1, y2⟩ => ?_⟩
                subst e1 e2
                have ew := y1 va q1
                have ew' := y2 vb q2
                rw [hv] at ew
                rw [hv'] at ew'
                cases ew
                cases ew'
                have sm := same_upd (o := .tup [v, v']) (R'.freeP hT)
                exact ⟨_, sm, R'.alloc hT, .tup upd_same (.cons ((iv.mono s').mono sm) (.cons ((iv'.mono s').mono sm) .nil))⟩⟩

/-! ### targets -/
def tTg (K : PySem.W.Frag) (ρ : List C) (x : D) (ρ' : List C) (is : List Nat) : TG := fun v σ H Q => ∃ M F, Rl K M ρ F σ H ∧ Is K F v x ∧ ∀ σ', Rl K M ρ' F σ' H → σ'.length = σ.length → (∀ j, j ∉ is → σ'[j]? = σ[j]?) → Q σ' H
def tTgs (K : PySem.W.Frag) (ρ : List C) (xs : List D) (ρ' : List C) (is : List Nat) : TGs := fun vs σ H Q => ∃ M F, Rl K M ρ F σ H ∧ IsL K F vs xs ∧ ∀ σ', Rl K M ρ' F σ' H → σ'.length = σ.length → (∀ j, j ∉ is → σ'[j]? = σ[j]?) → Q σ' H
abbrev Tg (X : Cx) (tg : Expr) (ρ : List C) (x : D) (ρ' : List C) (is : List Nat) : Prop := PG X tg (tTg X.K ρ x ρ' is)
abbrev Tgs (X : Cx) (ts : List Expr) (ρ : List C) (xs : List D) (ρ' : List C) (is : List Nat) : Prop := PGs X ts (tTgs X.K ρ xs ρ' is)
theorem pg_imp {t t' : TG} (h : PG X tg t) (i : ∀ v σ H Q, t' v σ H Q → t v σ H Q) : PG X tg t' := ⟨fun pins s σ H v u Q I r q => h.run pins s σ H v u Q I r (i v σ H Q q)⟩
theorem pgs_imp {t t' : TGs} (h : PGs X es t) (i : ∀ v σ H Q, t' v σ H Q → t v σ H Q) : PGs X es t' := ⟨fun pins s σ H v u Q I r q => h.run pins s σ H v u Q I r (i v σ H Q q)⟩
theorem tg_name (i : Nat) {x : Str} {d : D} (hN : X.N.Nodup) (hi : X.N[i]? = some x) (hx : Loc X.env.scope x) (hf : X.fn x = true ∨ X.env.scope.names.lookup x = some .local := by first | exact .inl rfl | exact .inr rfl | assumption) : Tg X (.Name x pos) ρ d (ρ.set i (.va d)) [i] :=
  pg_imp (pg_name hN hi hx hf) fun v σ H Q ⟨M, F, R, iv, k⟩ => k _ (R.set iv) (List.length_set ..) fun j hj => by
    rw [List.getElem?_set_ne (fun z => hj (by rw [z]; exact List.mem_singleton.mpr rfl))]
theorem tgs_nil : Tgs X [] ρ [] ρ [] := pgs_imp pgs_nil fun v σ H Q ⟨M, F, R, l, k⟩ => by
  cases l
  exact ⟨rfl, k σ R rfl fun _ _ => rfl⟩
theorem tgs_cons {x : D} {is js : List Nat} (h1 : Tg X e ρ x ρ1 is) (h2 : Tgs X es ρ1 xs ρ2 js) (hs : (assignEach (e :: es) X.env).map (·.2) = assign e X.env :: (assignEach es X.env).map (·.2) := by rfl) : Tgs X (e :: es) ρ (x :: xs) ρ2 (is ++ js) :=
  pgs_imp (pgs_cons h1 h2 hs) fun vs σ H Q ⟨M, F, R, l, k⟩ => by
    cases l with
    | cons iv l2 =>
      refine ⟨_, _, rfl, M, F, R, iv, fun σ1 R1 g1 n1 => ⟨M, F, R1, l2, fun σ2 R2 g2 n2 => k σ2 R2 (g2.trans g1) fun j hj => ?_⟩⟩
      rw [n2 j fun z => hj (List.mem_append_right _ z), n1 j fun z => hj (List.mem_append_left _ z)]
theorem tg_tup {k : Nat} {is : List Nat} (hc : X.calm = true) (h : Tgs X es ρ xs ρ1 is) (hl : xs.length = (assignEach es X.env).length := by rfl) (hst : (assignEach es X.env).findIdx? (·.1) = none := by rfl) : Tg X (.Tuple es k pos) ρ (.tup xs) ρ1 is :=
  pg_imp (pg_tup (n := xs.length) hc h hl.symm hst) fun v σ H Q ⟨M, F, R, iv, k⟩ => by
    cases iv with
    | tup h1 l1 => exact ⟨_, _, rfl, .inl (.inl (R.z.le.tup h1)), l1.length, M, F, R, l1, k⟩
end
end K8
set_option maxHeartbeats 1000000
/-! The layer: comprehensions, statements. -/
namespace K8
open PySem PySem.Spec PyProof.Rows L2

/-! ### slots forgotten and put back -/
section
variable {K : PySem.W.Frag} {M F F1 H H1 : Hp} {ρ ρ' ρ1 ρ2 : List C} {σ σ' : St} {p : Addr} {o o' : HO} {ds : List D}
theorem Rl.slots (R : Rl K M ρ F σ H) (hl : ρ'.length = σ'.length) (h : ∀ (j : Nat) c, ρ'[j]? = some c → c ≠ .un → ρ[j]? = some c ∧ σ'[j]? = σ[j]?) : Rl K M ρ' F σ' H := by
  obtain ⟨fp, h1, h2⟩ := R.ow
  have no : ∀ {c : C}, c.own = true → c ≠ .un := fun {c} q z => by subst z; cases q
  refine ⟨R.z, hl, fun j d e => ?_, fp, fun j c e q => ?_, fun i j ci cj hn e1 q1 e2 q2 => h2 i j ci cj hn (h i ci e1 (no q1)).1 q1 (h j cj e2 (no q2)).1 q2⟩
  · obtain ⟨a, b⟩ := h j _ e (fun z => by cases z)
    obtain ⟨v, hv, iv⟩ := R.va j d a
    exact ⟨v, by rw [b]; exact hv, iv⟩
  · obtain ⟨a, b⟩ := h j _ e (no q)
    obtain ⟨p, hp, r⟩ := h1 j c a q
    exact ⟨p, by rw [b]; exact hp, r⟩
def wipeR (ρ : List C) : List Nat → List C
  | [] => ρ
  | v :: vs => (wipeR ρ vs).set v .un
theorem wipeR_length (ρ : List C) : ∀ vs : List Nat, (wipeR ρ vs).length = ρ.length
  | [] => rfl
  | v :: vs => by rw [wipeR, List.length_set, wipeR_length]
theorem wipeR_get {c : C} {j : Nat} : ∀ {vs : List Nat}, (wipeR ρ vs)[j]? = some c → c = .un ∨ (j ∉ vs ∧ ρ[j]? = some c)
  | [], h => .inr ⟨by simp, h⟩
  | v :: vs, h => by
    rw [wipeR] at h
    by_cases hj : v = j
    · subst hj
      rw [List.getElem?_set] at h
      simp only [if_true] at h
      split at h
      · exact .inl (Option.some.inj h).symm
      · cases h
    · rw [List.getElem?_set_ne hj] at h
      rcases wipeR_get h with q | ⟨q1, q2⟩
      · exact .inl q
      · exact .inr ⟨by simp only [List.mem_cons, not_or]; exact ⟨fun e => hj e.symm, q1⟩, q2⟩
theorem Rl.wipe (R : Rl K M ρ F σ H) (vs : List Nat) : Rl K M (wipeR ρ vs) F (L2.wipe σ vs) H :=
  R.slots (by rw [wipeR_length, wipe_length]; exact R.len) fun j c e n => by
    rcases wipeR_get e with q | ⟨q1, q2⟩
    · exact absurd q n
    · exact ⟨q2, wipe_out q1⟩
theorem wipe_ext {vs : List Nat} (hl : σ.length = σ'.length) (h : ∀ j, j ∉ vs → σ[j]? = σ'[j]?) : L2.wipe σ vs = L2.wipe σ' vs := by
  apply List.ext_getElem?
  intro j
  by_cases hj : j ∈ vs
  · have key : ∀ (τ : St) (ws : List Nat), j ∈ ws → j < τ.length → (L2.wipe τ ws)[j]? = some none := fun τ ws hm hlt => by
      induction ws with
      | nil => cases hm
      | cons v vs ih =>
        unfold L2.wipe
        by_cases hv : v = j
        · subst hv
          rw [List.getElem?_set_self (by rw [wipe_length]; exact hlt)]
        · rw [List.getElem?_set_ne hv]
          rcases List.mem_cons.mp hm with e | hm
          · exact absurd e.symm hv
          · exact ih hm
    by_cases hlt : j < σ.length
    · rw [key σ vs hj hlt, key σ' vs hj (by omega)]
    · rw [List.getElem?_eq_none (by rw [wipe_length]; omega), List.getElem?_eq_none (by rw [wipe_length]; omega)]
  · rw [wipe_out hj, wipe_out hj]
    exact h j hj
/-- a new object given to the callers' part for a while -/
theorem Rl.giveM (R : Rl K M ρ F σ H) (hp : H p = none) (ht : ∀ xs, o ≠ .tup xs := by intro xs h; cases h) : Rl K (upd M p o) ρ F σ (upd H p o) := by
  obtain ⟨fp, h1, h2⟩ := R.ow
  have z := R.z.lay (o := o) hp ht
  refine ⟨⟨z.le, fun a u e => ?_, fun a u e => ?_, z.tp⟩, R.len, R.va, fp, fun j c e q => ?_, h2⟩
  · by_cases ha : a = p
    · subst ha
      rw [upd_same] at e ⊢
      exact e
    · rw [upd_ne ha] at e ⊢
      exact R.z.mh _ _ e
  · have ha : a ≠ p := fun x => by rw [x, R.freeP hp] at e; cases e
    rw [upd_ne ha]
    exact R.z.fm a u e
  · obtain ⟨q', a, b, f⟩ := h1 j c e q
    have hn : ∀ y ∈ fp j, y ≠ p := fun y hy x => (f y hy).2.2 (by rw [x]; exact hp)
    refine ⟨q', a, b.keep (Same.refl _) fun y hy => upd_ne (hn y hy), fun y hy => ?_⟩
    obtain ⟨g1, g2, g3⟩ := f y hy
    exact ⟨g1, by rw [upd_ne (hn y hy)]; exact g2, by rw [upd_ne (hn y hy)]; exact g3⟩
theorem Rl.wrM (R : Rl K (upd M p o) ρ F σ H) (hnf : ∀ x y, o ≠ .frz x (.dT y) := by intro x y h; cases h) (ht : ∀ xs, o' ≠ .tup xs := by intro xs h; cases h) : Rl K (upd M p o') ρ F σ (upd H p o') := by
  obtain ⟨fp, h1, h2⟩ := R.ow
  have hF : F p = none := by
    cases q : F p with
    | none => rfl
    | some u =>
      rcases R.z.fm p u q with z | ⟨x, y, z⟩
      · rw [upd_same] at z; cases z
      · rw [upd_same] at z; exact absurd (Option.some.inj z) (hnf x y)
  refine ⟨⟨fun a u e => ?_, fun a u e => ?_, fun a u e => ?_, R.z.tpu ht⟩, R.len, R.va, fp, fun j c e q => ?_, h2⟩
  · have ha : a ≠ p := fun x => by rw [x, hF] at e; cases e
    rw [upd_ne ha]
    exact R.z.le a u e
  · by_cases ha : a = p
    · subst ha
      rw [upd_same] at e ⊢
      exact e
    · rw [upd_ne ha] at e ⊢
      exact R.z.mh _ _ (by rw [upd_ne ha]; exact e)
  · have ha : a ≠ p := fun x => by rw [x, hF] at e; cases e
    have q := R.z.fm a u e
    rw [upd_ne ha] at q ⊢
    exact q
  · obtain ⟨q', a, b, f⟩ := h1 j c e q
    have hn : ∀ y ∈ fp j, y ≠ p := fun y hy x => by
      have g := (f y hy).2.1
      rw [x, upd_same] at g
      cases g
    refine ⟨q', a, b.keep (Same.refl _) fun y hy => upd_ne (hn y hy), fun y hy => ?_⟩
    obtain ⟨g1, g2, g3⟩ := f y hy
    rw [upd_ne (hn y hy)] at g2
    exact ⟨g1, by rw [upd_ne (hn y hy)]; exact g2, by rw [upd_ne (hn y hy)]; exact g3⟩
theorem Rl.lessM {M1 : Hp} (R : Rl K M1 ρ F σ H) (s : Same M M1) : Rl K M ρ F σ H := by
  have back : ∀ a, M1 a = none → M a = none := fun a e => by
    cases z : M a with
    | none => rfl
    | some w => rw [s a w z] at e; cases e
  obtain ⟨fp, h1, h2⟩ := R.ow
  refine ⟨⟨R.z.le, fun a u e => R.z.mh a u (s a u e), fun a u e => ?_, R.z.tp⟩, R.len, R.va, fp, fun j c e q => ?_, h2⟩
  · cases z : M a with
    | none => exact .inl rfl
    | some w =>
      rcases R.z.fm a u e with q | ⟨x, y, q⟩
      · rw [s a w z] at q
        cases q
      · rw [s a w z] at q
        cases q
        exact .inr ⟨x, y, rfl⟩
  · obtain ⟨p', a, b, f⟩ := h1 j c e q
    exact ⟨p', a, b, fun y hy => ⟨(f y hy).1, back y (f y hy).2.1, (f y hy).2.2⟩⟩
theorem Rl.takeM {xs : List V} (R : Rl K (upd M p (.lst xs)) ρ F σ H) (hM : M p = none) (hl : IsL K F xs ds) : Rl K M (ρ ++ [.ml ds]) F (σ ++ [some (.ref p)]) H := by
  obtain ⟨fp, h1, h2⟩ := R.ow
  have hF : F p = none := by
    cases q : F p with
    | none => rfl
    | some u =>
      rcases R.z.fm p u q with z | ⟨x, y, z⟩ <;> (rw [upd_same] at z; cases z)
  have hH : H p = some (.lst xs) := R.z.mh _ _ upd_same
  have nin : ∀ {j : Nat} {c : C}, ρ[j]? = some c → c.own = true → p ∉ fp j := fun {j c} e q hm => by
    obtain ⟨_, _, _, f⟩ := h1 j c e q
    have g := (f p hm).2.1
    rw [upd_same] at g
    cases g
  have key : ∀ {j : Nat} {x : C}, (ρ ++ [C.ml ds])[j]? = some x → (j < ρ.length ∧ ρ[j]? = some x) ∨ (j = ρ.length ∧ x = .ml ds) := fun {j x} e => by
    by_cases hj : j < ρ.length
    · rw [List.getElem?_append_left hj] at e
      exact .inl ⟨hj, e⟩
    · have hb := (List.getElem?_eq_some_iff.mp e).1
      simp only [List.length_append, List.length_cons, List.length_nil] at hb
      have ej : j = ρ.length := by omega
      subst ej
      simp at e
      exact .inr ⟨rfl, e.symm⟩
  have oldS : ∀ {j : Nat}, j < ρ.length → (σ ++ [some (V.ref p)])[j]? = σ[j]? := fun {j} e => List.getElem?_append_left (by rw [← R.len]; exact e)
  refine ⟨⟨R.z.le, fun a u e => R.z.mh _ _ (by rw [upd_ne (ne_of_none e hM)]; exact e), fun a u e => ?_, R.z.tp⟩, by simp [R.len], fun j d e => ?_, fun j => if j = ρ.length then [p] else fp j, fun j x e q => ?_, fun j k cj ck hne e1 o1 e2 o2 => ?_⟩
  · have ha : a ≠ p := fun x => by rw [x, hF] at e; cases e
    have q := R.z.fm a u e
    rw [upd_ne ha] at q
    exact q
  · rcases key e with ⟨hj, e'⟩ | ⟨_, x⟩
    · obtain ⟨v, a, b⟩ := R.va j d e'
      exact ⟨v, by rw [oldS hj]; exact a, b⟩
    · cases x
  · rcases key e with ⟨hj, e'⟩ | ⟨rfl, rfl⟩
    · obtain ⟨q', a, b, f⟩ := h1 j x e' q
      refine ⟨q', by rw [oldS hj]; exact a, ?_⟩
      have hn : j ≠ ρ.length := Nat.ne_of_lt hj
      simp only [if_neg hn]
      refine ⟨b, fun y hy => ?_⟩
      obtain ⟨g1, g2, g3⟩ := f y hy
      have hy' : y ≠ p := fun z => nin e' q (by rw [← z]; exact hy)
      rw [upd_ne hy'] at g2
      exact ⟨g1, g2, g3⟩
    · refine ⟨p, by rw [R.len]; simp, ?_⟩
      simp only [if_true]
      refine ⟨⟨rfl, xs, hH, hl⟩, fun y hy => ?_⟩
      rw [List.mem_singleton.mp hy]
      exact ⟨hF, hM, by rw [hH]; simp⟩
  · rcases key e1 with ⟨hj, e1'⟩ | ⟨rfl, x1⟩
    · have hn : j ≠ ρ.length := Nat.ne_of_lt hj
      rcases key e2 with ⟨hk, e2'⟩ | ⟨rfl, x2⟩
      · have hn2 : k ≠ ρ.length := Nat.ne_of_lt hk
        simp only [if_neg hn, if_neg hn2]
        exact h2 j k cj ck hne e1' o1 e2' o2
      · simp only [if_neg hn, if_true]
        intro y hy hm
        rw [List.mem_singleton.mp hm] at hy
        exact nin e1' o1 hy
    · rcases key e2 with ⟨hk, e2'⟩ | ⟨rfl, x2⟩
      · have hn2 : k ≠ ρ.length := Nat.ne_of_lt hk
        simp only [if_neg hn2, if_true]
        intro y hy hm
        rw [List.mem_singleton.mp hy] at hm
        exact nin e2' o2 hm
      · exact absurd rfl hne
theorem Rl.unwipe {vs : List Nat} (R : Rl K M ρ F (L2.wipe σ vs) H) {M1 : Hp} (R1 : Rl K M1 ρ1 F1 σ H1) (s : Same F1 F) (hl : ρ2.length = ρ1.length) (h : ∀ (j : Nat) c, ρ2[j]? = some c → c = .un ∨ (j ∉ vs ∧ ρ[j]? = some c) ∨ ∃ d, c = .va d ∧ ρ1[j]? = some c) : Rl K M ρ2 F σ H := by
  obtain ⟨fp, h1, h2⟩ := R.ow
  have pick : ∀ {j : Nat} {c : C}, ρ2[j]? = some c → c.own = true → j ∉ vs ∧ ρ[j]? = some c := fun {j c} e q => by
    rcases h j c e with z | z | ⟨d, z, _⟩
    · subst z; cases q
    · exact z
    · subst z; cases q
  refine ⟨R.z, hl.trans R1.len, fun j d e => ?_, fp, fun j c e q => ?_, fun i j ci cj hn e1 q1 e2 q2 => h2 i j ci cj hn (pick e1 q1).2 q1 (pick e2 q2).2 q2⟩
  · rcases h j _ e with z | ⟨z1, z2⟩ | ⟨d', z1, z2⟩
    · cases z
    · obtain ⟨v, a, b⟩ := R.va j d z2
      rw [wipe_out z1] at a
      exact ⟨v, a, b⟩
    · obtain ⟨v, a, b⟩ := R1.va j d z2
      exact ⟨v, a, b.mono s⟩
  · obtain ⟨z1, z2⟩ := pick e q
    obtain ⟨p, a, b⟩ := h1 j c z2 q
    rw [wipe_out z1] at a
    exact ⟨p, a, b⟩
end

/-! ### list comprehensions -/
/-- the contexts in which a comprehension's block runs -/
def Blk (X : Cx) (scope : Scope) (X' : Cx) : Prop := ∃ (s : Shared) (H : Hp) (C : Addr) (cl : List (Str × Addr)) (fp : List Addr), X' = X.blk s H scope (compEnvC scope cl C X.env) fp
abbrev EvTs (X : Cx) (ifs : List Expr) (ρ : List C) (k : Bool) (ρ' : List C) : Prop := PTs X ifs (tEvB X.K ρ k ρ')
section
variable {X : Cx} {tg e elt iter : Expr} {ifs : List Expr} {scope : Scope} {own : List (Str × Nat)} {pos : Pos} {ρ ρ1 ρ2 : List C} {xs : List D} {k : Bool}
theorem evTs_nil : EvTs X [] ρ true ρ := ⟨fun pins s σ H Q I ⟨M, F, R, q⟩ => pts_nil.run pins s σ H Q I (q F H (Same.refl _) R)⟩
theorem evTs_one (h : EvB X e ρ k ρ1) : EvTs X [e] ρ k ρ1 := pts_one h
def gBlk (X : Cx) (scope : Scope) (tg : Expr) : TG := fun v σ H Q => ∃ t, (∀ X', Blk X scope X' → PG X' tg t) ∧ t v σ H Q
def ttBlk (X : Cx) (scope : Scope) (ifs : List Expr) : TT := fun σ H Q => ∃ t, (∀ X', Blk X scope X' → PTs X' ifs t) ∧ t σ H Q
def teBlk (X : Cx) (scope : Scope) (elt : Expr) : TE := fun σ H Q => ∃ t, (∀ X', Blk X scope X' → PE X' elt t) ∧ t σ H Q
/-- what a comprehension's block does, turn by turn -/
structure LcOk (X : Cx) (scope : Scope) (tg elt : Expr) (ifs : List Expr) (vs : List Nat) (ρ1 : List C) (xs : List D) (rs : Nat → List C) (outs : Nat → List D) : Prop where
  r0 : Ge (wipeR ρ1 vs) (rs 0)
  o0 : outs 0 = []
  small : xs.length < sizeLine
  turn : ∀ (i : Nat) x, xs[i]? = some x → ∃ r1 is k r2, (∀ j ∈ is, j ∈ vs) ∧ (∀ X', Blk X scope X' → Tg X' tg (rs i) x r1 is) ∧ (∀ X', Blk X scope X' → EvTs X' ifs r1 k r2) ∧
    (k = true → ∃ d r3, (∀ X', Blk X scope X' → Ev X' elt r2 d r3) ∧ outs (i + 1) = outs i ++ [d] ∧ Ge (wipeR r3 vs) (rs (i + 1))) ∧ (k = false → outs (i + 1) = outs i ∧ Ge (wipeR r2 vs) (rs (i + 1)))
theorem blk_K {X' : Cx} (h : Blk X scope X') : X'.K = X.K := by
  obtain ⟨_, _, _, _, _, rfl⟩ := h
  rfl
theorem LcOk.lens {vs : List Nat} {rs : Nat → List C} {outs : Nat → List D} (L : LcOk X scope tg elt ifs vs ρ1 xs rs outs) : ∀ i, i ≤ xs.length → (outs i).length ≤ i
  | 0, _ => by rw [L.o0]; exact Nat.le_refl _
  | i + 1, h => by
    have ih := L.lens i (by omega)
    obtain ⟨r1, is, k, r2, _, _, _, a, b⟩ := L.turn i xs[i] (List.getElem?_eq_getElem (by omega))
    cases k with
    | true =>
      obtain ⟨d, r3, _, e, _⟩ := a rfl
      rw [e, List.length_append, List.length_singleton]
      omega
    | false =>
      rw [(b rfl).1]
      omega
theorem lc_read {rs : Nat → List C} {outs : Nat → List D} (L : LcOk X scope tg elt ifs (own.map (·.2)) ρ1 xs rs outs) (h2 : ρ2.length = ρ1.length) (h3 : ∀ (j : Nat) c, ρ2[j]? = some c → c = .un ∨ (j ∉ own.map (·.2) ∧ (rs xs.length)[j]? = some c) ∨ ∃ d, c = .va d ∧ ρ1[j]? = some c)
    {σ : St} {H : Hp} {Q : VK} (q : tEvN X.K ρ (.ml (outs xs.length)) ρ2 σ H Q) : tLc (tItr X.K ρ xs ρ1) (gBlk X scope tg) (ttBlk X scope ifs) (teBlk X scope elt) (own.map (·.2)) σ H Q := by
  obtain ⟨M, F, R, k⟩ := q
  refine ⟨M, F, R, fun J M1 F1 H1 sM s1 R1 yl => fun p hp => ?_⟩
  have hM : M1 p = none := by
    cases z : M1 p with
    | none => rfl
    | some w => rw [R1.z.mh _ _ z] at hp; cases hp
  generalize hvs : own.map (·.2) = vs at L h3 ⊢
  refine ⟨fun i m H' => m = xs.length - i ∧ i ≤ xs.length ∧ ∃ F' acc, Same F1 F' ∧ Rl X.K (upd M1 p (.lst acc)) (rs i) F' (L2.wipe σ vs) H' ∧ IsL X.K F' acc (outs i), ⟨xs.length, by simp, Nat.zero_le _, F1, [], Same.refl _, ((R1.giveM (o := .lst []) hp).wipe vs).weak L.r0, by rw [L.o0]; exact .nil⟩, ?_⟩
  rintro i m H' ⟨rfl, hi, F', acc, s', R', l'⟩
  have smM : ∀ acc : List V, Same M1 (upd M1 p (.lst acc)) := fun acc => same_upd hM
  by_cases hlt : i < xs.length
  · obtain ⟨go, step⟩ := (yl _ (smM acc) _ F' _ H' s' R' i).2 xs[i] (List.getElem?_eq_getElem hlt)
    refine .inr ⟨go, fun H'' => ∃ F' acc, Same F1 F' ∧ Rl X.K (upd M1 p (.lst acc)) (rs (i + 1)) F' (L2.wipe σ vs) H'' ∧ IsL X.K F' acc (outs (i + 1)), fun H'' q => ⟨xs.length - (i + 1), by omega, rfl, hlt, q⟩, fun v H2 y => ?_⟩
    obtain ⟨F2, s2, R2, iv⟩ := step v H2 y
    obtain ⟨r1, is, b, r2, his, hg, ht, ha, hb⟩ := L.turn i xs[i] (List.getElem?_eq_getElem hlt)
    refine ⟨tTg X.K (rs i) xs[i] r1 is, fun X' hX => by rw [← blk_K hX]; exact hg X' hX, _, F2, R2, iv, fun σ2 R3 g3 n3 => ⟨?_, ?_⟩⟩
    · have e1 : L2.wipe σ2 vs = L2.wipe (L2.wipe σ vs) vs := wipe_ext g3 fun j hj => n3 j fun z => hj (his j z)
      rw [e1]
      exact wipe_ext (by rw [wipe_length]) fun j hj => wipe_out hj
    · have e2 : L2.wipe σ2 vs = L2.wipe σ vs := by
        have e1 : L2.wipe σ2 vs = L2.wipe (L2.wipe σ vs) vs := wipe_ext g3 fun j hj => n3 j fun z => hj (his j z)
        rw [e1]
        exact wipe_ext (by rw [wipe_length]) fun j hj => wipe_out hj
      refine ⟨tEvB X.K r1 b r2, fun X' hX => by rw [← blk_K hX]; exact ht X' hX, _, F2, R3, fun F4 H4 s4 R4 => ?_⟩
      cases b with
      | false =>
        obtain ⟨eo, ge⟩ := hb rfl
        refine iteF ⟨F4, acc, (s'.trans s2).trans s4, ?_, by rw [eo]; exact (l'.mono s2).mono s4⟩
        rw [← e2]
        exact (R4.wipe vs).weak ge
      | true =>
        obtain ⟨d, r3, he, eo, ge⟩ := ha rfl
        refine iteT ⟨tEv X.K r2 d r3, fun X' hX => by rw [← blk_K hX]; exact he X' hX, _, F4, R4, fun F5 H5 v5 s5 R5 i5 => ⟨acc, R5.z.mh _ _ upd_same, ?_, F5, acc ++ [v5], ((s'.trans s2).trans s4).trans s5, ?_, ?_⟩⟩
        · rw [l'.length]
          have := L.lens i hi
          have := L.small
          omega
        · rw [← e2]
          exact ((R5.wrM (o' := .lst (acc ++ [v5]))).wipe vs).weak ge
        · rw [eo]
          exact (((l'.mono s2).mono s4).mono s5).append (.one i5)
  · have ei : i = xs.length := by omega
    subst ei
    refine .inl ⟨(yl _ (smM acc) _ F' _ H' s' R' _).1 (Nat.le_refl _), ?_⟩
    exact k F' H' p (s1.trans s') (((R'.unwipe R1 s' h2 h3).takeM hM l').lessM sM)
/-- [elt for tg in iter if ..] as a value: a new list -/
theorem evN_lc {rs : Nat → List C} {outs : Nat → List D} (hc : X.calm = true) (hN : X.N.Nodup) (hi : Itr' X tg iter ρ xs ρ1) (ok : BlkOk X.N X.env.scope scope own) (L : LcOk X scope tg elt ifs (own.map (·.2)) ρ1 xs rs outs)
    (h2 : ρ2.length = ρ1.length) (h3 : ∀ (j : Nat) c, ρ2[j]? = some c → c = .un ∨ (j ∉ own.map (·.2) ∧ (rs xs.length)[j]? = some c) ∨ ∃ d, c = .va d ∧ ρ1[j]? = some c)
    (hs : ∀ x, foldedSetIterable iter X.env x = pure x := by intro _; rfl) : EvN X (.ListComp elt [⟨tg, iter, ifs, 0⟩] scope pos) ρ (.ml (outs xs.length)) ρ2 :=
  pe_imp (pe_lc (g := gBlk X scope tg) (tt := ttBlk X scope ifs) (te := teBlk X scope elt) hc hN hi ok (fun s H C cl fp => ⟨fun pins s' σ H' v u Q I r ⟨t, ht, q⟩ => (ht _ ⟨s, H, C, cl, fp, rfl⟩).run pins s' σ H' v u Q I r q⟩)
    (fun s H C cl fp => ⟨fun pins s' σ H' Q I ⟨t, ht, q⟩ => (ht _ ⟨s, H, C, cl, fp, rfl⟩).run pins s' σ H' Q I q⟩) (fun s H C cl fp => ⟨fun pins s' σ H' Q I ⟨t, ht, q⟩ => (ht _ ⟨s, H, C, cl, fp, rfl⟩).run pins s' σ H' Q I q⟩) hs) fun σ H Q q => lc_read L h2 h3 q
/-- a block that changes nothing of the def's: f says what an item gives -/
theorem lcOk_pure {α : Type} {l : List α} {enc : α → D} {vs : List Nat} (ρt : α → List C) (b : α → Bool) (d : α → D) {is : List Nat} (his : ∀ j ∈ is, j ∈ vs) (hl : l.length < sizeLine)
    (hg : ∀ a ∈ l, ∀ X', Blk X scope X' → Tg X' tg (wipeR ρ1 vs) (enc a) (ρt a) is) (ht : ∀ a ∈ l, ∀ X', Blk X scope X' → EvTs X' ifs (ρt a) (b a) (ρt a))
    (he : ∀ a ∈ l, b a = true → ∀ X', Blk X scope X' → Ev X' elt (ρt a) (d a) (ρt a)) (hw : ∀ a ∈ l, Ge (wipeR (ρt a) vs) (wipeR ρ1 vs)) :
    LcOk X scope tg elt ifs vs ρ1 (l.map enc) (fun _ => wipeR ρ1 vs) (fun i => ((l.take i).filter b).map d) where
  r0 := Ge.refl _
  o0 := rfl
  small := by rw [List.length_map]; exact hl
  turn := fun i x hx => by
    rw [List.getElem?_map] at hx
    cases ha : l[i]? with
    | none => rw [ha] at hx; cases hx
    | some a =>
      rw [ha] at hx
      have ex : enc a = x := Option.some.inj hx
      subst ex
      have hm := List.mem_of_getElem? ha
      have tk : l.take (i + 1) = l.take i ++ [a] := by rw [List.take_succ, ha]; rfl
      refine ⟨ρt a, is, b a, ρt a, his, hg a hm, ht a hm, fun hb => ⟨d a, ρt a, he a hm hb, ?_, hw a hm⟩, fun hb => ⟨?_, hw a hm⟩⟩
      · rw [tk, List.filter_append, List.map_append]
        simp [List.filter, hb]
      · rw [tk, List.filter_append, List.map_append]
        simp [List.filter, hb]
theorem evN_lcP {α : Type} (l : List α) (enc : α → D) (ρt : α → List C) (b : α → Bool) (d : α → D) {is : List Nat} (hc : X.calm = true) (hN : X.N.Nodup) (hi : Itr' X tg iter ρ (l.map enc) ρ1) (ok : BlkOk X.N X.env.scope scope own) (his : ∀ j ∈ is, j ∈ own.map (·.2)) (hl : l.length < sizeLine)
    (hg : ∀ a ∈ l, ∀ X', Blk X scope X' → Tg X' tg (wipeR ρ1 (own.map (·.2))) (enc a) (ρt a) is) (ht : ∀ a ∈ l, ∀ X', Blk X scope X' → EvTs X' ifs (ρt a) (b a) (ρt a))
    (he : ∀ a ∈ l, b a = true → ∀ X', Blk X scope X' → Ev X' elt (ρt a) (d a) (ρt a)) (hw : ∀ a ∈ l, Ge (wipeR (ρt a) (own.map (·.2))) (wipeR ρ1 (own.map (·.2)))) (hv : ∀ j ∈ own.map (·.2), ∀ c, ρ1[j]? = some c → c.own = false)
    (hs : ∀ x, foldedSetIterable iter X.env x = pure x := by intro _; rfl) : EvN X (.ListComp elt [⟨tg, iter, ifs, 0⟩] scope pos) ρ (.ml ((l.filter b).map d)) ρ1 := by
  have L := lcOk_pure (X := X) (scope := scope) (tg := tg) (elt := elt) (ifs := ifs) ρt b d his hl hg ht he hw
  have h := evN_lc (ρ2 := ρ1) (pos := pos) hc hN hi ok L rfl (fun j c e => ?_) hs
  · have e : l.take (l.map enc).length = l := by rw [List.length_map]; exact List.take_length
    simp only [e] at h
    exact h
  · by_cases hj : j ∈ own.map (·.2)
    · have o := hv j hj c e
      cases c with
      | un => exact .inl rfl
      | va d => exact .inr (.inr ⟨d, rfl, e⟩)
      | _ => cases o
    · refine .inr (.inl ⟨hj, ?_⟩)
      have key : ∀ (ws : List Nat), j ∉ ws → (wipeR ρ1 ws)[j]? = ρ1[j]? := fun ws hws => by
        induction ws with
        | nil => rfl
        | cons v ws ih =>
          rw [wipeR, List.getElem?_set_ne (fun z => hws (by rw [z]; exact List.mem_cons_self)), ih fun z => hws (List.mem_cons_of_mem _ z)]
      rw [key _ hj]
      exact e
end
end K8
/-! The layer: statements, lists of one's own. -/
namespace K8
open PySem PySem.Spec PyProof.Rows L2

/-- how a statement ends -/
inductive Out where
  | nx (ρ : List C)
  | rt (d : D) (ρ : List C)
  | bk (ρ : List C)
  | ct (ρ : List C)
def OutE (K : PySem.W.Frag) (M F' : Hp) (σ' : St) (H' : Hp) (E : Ends) : Out → Prop
  | .nx ρ' => Rl K M ρ' F' σ' H' → E.nx σ' H'
  | .rt d ρ' => Rl K M ρ' F' σ' H' → ∀ v, Is K F' v d → E.rt v H'
  | .bk ρ' => Rl K M ρ' F' σ' H' → E.bk σ' H'
  | .ct ρ' => Rl K M ρ' F' σ' H' → E.ct σ' H'
def tRun (K : PySem.W.Frag) (ρ : List C) (P : Out → Prop) : TS := fun E σ H => ∃ M F, Rl K M ρ F σ H ∧ ∀ o, P o → ∀ F' σ' H', Same F F' → OutE K M F' σ' H' E o
abbrev Run (X : Cx) (st : Stmt) (ρ : List C) (P : Out → Prop) : Prop := PS X st (tRun X.K ρ P)
abbrev Runs (X : Cx) (sts : List Stmt) (ρ : List C) (P : Out → Prop) : Prop := PSs X sts (tRun X.K ρ P)
section
variable {X : Cx} {st : Stmt} {sts rest : List Stmt} {e c tg : Expr} {es : List Expr} {pos p : Pos} {ρ ρ1 ρ2 ρ' : List C} {d : D} {ds : List D} {k : Bool} {P P' : Out → Prop}
theorem ps_imp {t t' : TS} (h : PS X st t) (i : ∀ E σ H, t' E σ H → t E σ H) : PS X st t' := ⟨fun pins s σ H E I q => h.run pins s σ H E I (i E σ H q)⟩
theorem pss_imp {t t' : TS} (h : PSs X sts t) (i : ∀ E σ H, t' E σ H → t E σ H) : PSs X sts t' := ⟨fun pins s σ H E I q => h.run pins s σ H E I (i E σ H q)⟩
theorem run_mono (h : Run X st ρ P) (i : ∀ o, P o → P' o) : Run X st ρ P' := ps_imp h fun E σ H ⟨M, F, R, k⟩ => ⟨M, F, R, fun o q => k o (i o q)⟩
theorem runs_mono (h : Runs X sts ρ P) (i : ∀ o, P o → P' o) : Runs X sts ρ P' := pss_imp h fun E σ H ⟨M, F, R, k⟩ => ⟨M, F, R, fun o q => k o (i o q)⟩
theorem runs_weak (g : Ge ρ ρ') (h : Runs X sts ρ' P) : Runs X sts ρ P := pss_imp h fun E σ H ⟨M, F, R, k⟩ => ⟨M, F, R.weak g, k⟩
theorem runs_nil (h : P (.nx ρ)) : Runs X [] ρ P := pss_imp pss_nil fun E σ H ⟨M, F, R, k⟩ => k _ h F σ H (Same.refl _) R
/-- what is left behind a statement -/
def andThen (X : Cx) (rest : List Stmt) (P : Out → Prop) : Out → Prop
  | .nx ρ => Runs X rest ρ P
  | o => P o
theorem runs_cons (h : Run X st ρ (andThen X rest P)) : Runs X (st :: rest) ρ P := by
  refine pss_imp (pss_cons h (u := fun E σ H => ∃ ρ', Runs X rest ρ' P ∧ tRun X.K ρ' P E σ H) ⟨fun pins s σ H E I ⟨ρ', g, q⟩ => g.run pins s σ H E I q⟩) fun E σ H ⟨M, F, R, k⟩ => ⟨M, F, R, fun o q F' σ' H' s => ?_⟩
  cases o with
  | nx ρ' => exact fun R' => ⟨ρ', q, M, F', R', fun o2 q2 F2 σ2 H2 s2 => k o2 q2 F2 σ2 H2 (s.trans s2)⟩
  | rt d ρ' => exact k _ q F' σ' H' s
  | bk ρ' => exact k _ q F' σ' H' s
  | ct ρ' => exact k _ q F' σ' H' s
theorem runs_one (h : Run X st ρ P) : Runs X [st] ρ P := runs_cons (run_mono h fun o q => by
  cases o with
  | nx ρ' => exact runs_nil q
  | _ => exact q)
/-- a statement whose end is one -/
theorem runs_step (h : Run X st ρ (fun o => o = .nx ρ1)) (r : Runs X rest ρ1 P) : Runs X (st :: rest) ρ P := runs_cons (run_mono h fun o q => by
  subst q
  exact r)
theorem run_set (i : Nat) {x : Str} {pos' : Pos} (he : Ev X e ρ d ρ1) (hN : X.N.Nodup) (hi : X.N[i]? = some x) (hx : Loc X.env.scope x) (hs : swapsWith e (some (.Name x pos')) pos.line X.env = pure false := by rfl) (hf : X.fn x = true ∨ X.env.scope.names.lookup x = some .local := by first | exact .inl rfl | exact .inr rfl | assumption) :
    Run X (.Assign [.Name x pos'] e pos) ρ (fun o => o = .nx (ρ1.set i (.va d))) :=
  ps_imp (ps_set hN hi hx he hs hf) fun E σ H ⟨M, F, R, k⟩ => ⟨M, F, R, fun F' H' v s R' iv => k _ rfl F' _ H' s (R'.set iv)⟩
theorem run_setN (i : Nat) {x : Str} {pos' : Pos} {cc : C} (he : EvN X e ρ cc ρ1) (oc : cc.own = true) (hN : X.N.Nodup) (hi : X.N[i]? = some x) (hx : Loc X.env.scope x) (hs : swapsWith e (some (.Name x pos')) pos.line X.env = pure false := by rfl) (hf : X.fn x = true ∨ X.env.scope.names.lookup x = some .local := by first | exact .inl rfl | exact .inr rfl | assumption) :
    Run X (.Assign [.Name x pos'] e pos) ρ (fun o => o = .nx (ρ1.set i cc)) :=
  ps_imp (ps_set hN hi hx he hs hf) fun E σ H ⟨M, F, R, k⟩ => ⟨M, F, R, fun F' H' p s R' => k _ rfl F' _ H' s (R'.move oc)⟩
/-- tg = e, any target -/
theorem run_asg {is : List Nat} (he : Ev X e ρ d ρ1) (hg : Tg X tg ρ1 d ρ2 is) (hs : swapsWithSole [tg] e pos.line X.env = pure false := by rfl) (hw : swappedStores [tg] e X.env = pure none := by rfl) (h1 : (assignEach [tg] X.env).map (·.2) = [assign tg X.env] := by rfl) :
    Run X (.Assign [tg] e pos) ρ (fun o => o = .nx ρ2) :=
  ps_imp (ps_asg he hg hs hw h1) fun E σ H ⟨M, F, R, k⟩ => ⟨M, F, R, fun F' H' v s R' iv => ⟨M, F', R', iv, fun σ' R2 _ _ => k _ rfl F' σ' H' s R2⟩⟩
theorem Rl.moves2 {K : PySem.W.Frag} {M F H : Hp} {σ : St} {i j : Nat} {v w : V} {d1 d2 : D} (R : Rl K M ρ F σ H) (h1 : Is K F v d1) (h2 : Is K F w d2) : Rl K M ((ρ.set i (.va d1)).set j (.va d2)) F ((σ.set i (some v)).set j (some w)) H := (R.set h1).set h2
/-- a, b = x, y with local names -/
theorem run_par (i j : Nat) {x y : Str} {a b : Expr} {px py pt : Pos} {kt k2 pt2} {d1 d2 : D} (ha : EvA X [a, b] ρ [d1, d2] ρ1) (hc : X.calm = true) (hN : X.N.Nodup) (hi : X.N[i]? = some x) (hj : X.N[j]? = some y) (hij : i ≠ j)
    (hx : X.env.scope.names.lookup x = some .local) (hy : X.env.scope.names.lookup y = some .local)
    (hw : swappedStores [.Tuple [.Name x px, .Name y py] kt pt] (.Tuple [a, b] k2 pt2) X.env = pure (some [x, y])) (hs : swapsWithSole [.Tuple [.Name x px, .Name y py] kt pt] (.Tuple [a, b] k2 pt2) pos.line X.env = pure false := by rfl) :
    Run X (.Assign [.Tuple [.Name x px, .Name y py] kt pt] (.Tuple [a, b] k2 pt2) pos) ρ (fun o => o = .nx ((ρ1.set i (.va d1)).set j (.va d2))) :=
  ps_imp (ps_par hc hN hi hj hij hx hy ha hw hs) fun E σ H ⟨M, F, R, k⟩ => ⟨M, F, R, fun F' H' vs s R' l => by
    cases l with
    | cons i1 l =>
      cases l with
      | cons i2 l =>
        cases l
        exact ⟨_, _, rfl, k _ rfl F' _ H' s (R'.moves2 i1 i2)⟩⟩
theorem run_par3 (i j l : Nat) {x y z : Str} {a b c : Expr} {px py pz pt : Pos} {kt k2 pt2} {d1 d2 d3 : D} (ha : EvA X [a, b, c] ρ [d1, d2, d3] ρ1) (hc : X.calm = true) (hN : X.N.Nodup) (hi : X.N[i]? = some x) (hj : X.N[j]? = some y) (hl : X.N[l]? = some z) (hij : i ≠ j) (hil : i ≠ l) (hjl : j ≠ l)
    (hx : X.env.scope.names.lookup x = some .local) (hy : X.env.scope.names.lookup y = some .local) (hz : X.env.scope.names.lookup z = some .local)
    (hw : swappedStores [.Tuple [.Name x px, .Name y py, .Name z pz] kt pt] (.Tuple [a, b, c] k2 pt2) X.env = pure (some [x, y, z])) (hs : swapsWithSole [.Tuple [.Name x px, .Name y py, .Name z pz] kt pt] (.Tuple [a, b, c] k2 pt2) pos.line X.env = pure false := by rfl) :
    Run X (.Assign [.Tuple [.Name x px, .Name y py, .Name z pz] kt pt] (.Tuple [a, b, c] k2 pt2) pos) ρ (fun o => o = .nx (((ρ1.set i (.va d1)).set j (.va d2)).set l (.va d3))) :=
  ps_imp (ps_par3 hc hN hi hj hl hij hil hjl hx hy hz ha hw hs) fun E σ H ⟨M, F, R, k⟩ => ⟨M, F, R, fun F' H' vs s R' l => by
    cases l with
    | cons i1 l =>
      cases l with
      | cons i2 l =>
        cases l with
        | cons i3 l =>
          cases l
          exact ⟨_, _, _, rfl, k _ rfl F' _ H' s ((R'.moves2 i1 i2).set i3)⟩⟩
theorem run_expr (he : Ev X e ρ d ρ1) (hs : swapsWith e none pos.line X.env = pure false := by rfl) : Run X (.Expr e pos) ρ (fun o => o = .nx ρ1) :=
  ps_imp (ps_expr he hs) fun E σ H ⟨M, F, R, k⟩ => ⟨M, F, R, fun F' H' v s R' iv => k _ rfl F' σ H' s R'⟩
theorem run_ret (he : Ev X e ρ d ρ1) : Run X (.Return (some e) pos) ρ (fun o => o = .rt d ρ1) :=
  ps_imp (ps_ret he) fun E σ H ⟨M, F, R, k⟩ => ⟨M, F, R, fun F' H' v s R' iv => k _ rfl F' σ H' s R' v iv⟩
theorem run_break : Run X (.Break pos) ρ (fun o => o = .bk ρ) := ps_imp ps_break fun E σ H ⟨M, F, R, k⟩ => k _ rfl F σ H (Same.refl _) R
theorem run_if {a b : List Stmt} (hc : EvB X c ρ k ρ1) (ha : k = true → Runs X a ρ1 P) (hb : k = false → Runs X b ρ1 P) : Run X (.If c a b pos) ρ P := by
  refine ⟨fun pins s σ H E I ⟨M, F, R, q⟩ => ?_⟩
  refine wpAny_If (thn (hc.run pins s σ H (fun c H1 => c = k ∧ ∃ F', Same F F' ∧ Rl X.K M ρ1 F' σ H1) I ⟨M, F, R, fun F' H' s R' => ⟨rfl, F', s, R'⟩⟩) fun c s1 ⟨H1, I1, e1, F', s', R'⟩ => ?_)
  subst e1
  cases c with
  | true => exact (ha rfl).run pins s1 σ H1 E I1 ⟨M, F', R', fun o q2 F2 σ2 H2 s2 => q o q2 F2 σ2 H2 (s'.trans s2)⟩
  | false => exact (hb rfl).run pins s1 σ H1 E I1 ⟨M, F', R', fun o q2 F2 σ2 H2 s2 => q o q2 F2 σ2 H2 (s'.trans s2)⟩
theorem runs_ret (he : Ev X e ρ d ρ1) (h : P (.rt d ρ1)) : Runs X (.Return (some e) pos :: rest) ρ P := runs_cons (run_mono (run_ret he) fun o q => by
  subst q
  exact h)
theorem runs_break (h : P (.bk ρ)) : Runs X (.Break pos :: rest) ρ P := runs_cons (run_mono run_break fun o q => by
  subst q
  exact h)
theorem runs_if {a b : List Stmt} (hc : EvB X c ρ k ρ1) (ha : k = true → Runs X a ρ1 (andThen X rest P)) (hb : k = false → Runs X b ρ1 (andThen X rest P)) : Runs X (.If c a b pos :: rest) ρ P := runs_cons (run_if hc ha hb)
theorem runs_set (i : Nat) {x : Str} {pos' : Pos} (he : Ev X e ρ d ρ1) (hN : X.N.Nodup) (hi : X.N[i]? = some x) (hx : Loc X.env.scope x) (r : Runs X rest (ρ1.set i (.va d)) P) (hs : swapsWith e (some (.Name x pos')) pos.line X.env = pure false := by rfl) (hf : X.fn x = true ∨ X.env.scope.names.lookup x = some .local := by first | exact .inl rfl | exact .inr rfl | assumption) :
    Runs X (.Assign [.Name x pos'] e pos :: rest) ρ P := runs_step (run_set i he hN hi hx hs hf) r
theorem runs_setN (i : Nat) {x : Str} {pos' : Pos} {cc : C} (he : EvN X e ρ cc ρ1) (oc : cc.own = true) (hN : X.N.Nodup) (hi : X.N[i]? = some x) (hx : Loc X.env.scope x) (r : Runs X rest (ρ1.set i cc) P) (hs : swapsWith e (some (.Name x pos')) pos.line X.env = pure false := by rfl) (hf : X.fn x = true ∨ X.env.scope.names.lookup x = some .local := by first | exact .inl rfl | exact .inr rfl | assumption) :
    Runs X (.Assign [.Name x pos'] e pos :: rest) ρ P := runs_step (run_setN i he oc hN hi hx hs hf) r
/-- y = [..] on one line, y a local -/
theorem run_setLc (i : Nat) {y : Str} {py : Pos} {elt tg iter : Expr} {ifs : List Expr} {scope : Scope} {own : List (Str × Nat)} {pos spos : Pos} {xs : List D} {rs : Nat → List C} {outs : Nat → List D} (hc : X.calm = true) (hN : X.N.Nodup) (hy : X.N[i]? = some y) (hyl : X.env.scope.names.lookup y = some .local)
    (hsw : swapsWith (.ListComp elt [⟨tg, iter, ifs, 0⟩] scope pos) (some (.Name y py)) spos.line X.env = pure true) (hi : Itr' X tg iter ρ xs ρ1) (ok : BlkOk X.N X.env.scope scope own) (L : LcOk X scope tg elt ifs (own.map (·.2)) ρ1 xs rs outs)
    (h2 : ρ2.length = ρ1.length) (h3 : ∀ (j : Nat) c, ρ2[j]? = some c → c = .un ∨ (j ∉ own.map (·.2) ∧ (rs xs.length)[j]? = some c) ∨ ∃ d, c = .va d ∧ ρ1[j]? = some c)
    (hs : ∀ x, foldedSetIterable iter X.env x = pure x := by intro _; rfl) : Run X (.Assign [.Name y py] (.ListComp elt [⟨tg, iter, ifs, 0⟩] scope pos) spos) ρ (fun o => o = .nx (ρ2.set i (.ml (outs xs.length)))) :=
  ps_imp (ps_setLc (g := gBlk X scope tg) (tt := ttBlk X scope ifs) (te := teBlk X scope elt) hc hN hy hyl hsw hi ok (fun s H C cl fp => ⟨fun pins s' σ H' v u Q I r ⟨t, ht, q⟩ => (ht _ ⟨s, H, C, cl, fp, rfl⟩).run pins s' σ H' v u Q I r q⟩)
    (fun s H C cl fp => ⟨fun pins s' σ H' Q I ⟨t, ht, q⟩ => (ht _ ⟨s, H, C, cl, fp, rfl⟩).run pins s' σ H' Q I q⟩) (fun s H C cl fp => ⟨fun pins s' σ H' Q I ⟨t, ht, q⟩ => (ht _ ⟨s, H, C, cl, fp, rfl⟩).run pins s' σ H' Q I q⟩) hs)
    fun E σ H ⟨M, F, R, k⟩ => lc_read (Q := fun x H1 => E.nx (σ.set i (some x)) H1) L h2 h3 ⟨M, F, R, fun F' H' p s R' => k _ rfl F' _ H' s (R'.move rfl)⟩
theorem run_setLcP {α : Type} (i : Nat) {y : Str} {py : Pos} {elt tg iter : Expr} {ifs : List Expr} {scope : Scope} {own : List (Str × Nat)} {pos spos : Pos} (l : List α) (enc : α → D) (ρt : α → List C) (b : α → Bool) (f : α → D) {is : List Nat} (hc : X.calm = true) (hN : X.N.Nodup) (hy : X.N[i]? = some y) (hyl : X.env.scope.names.lookup y = some .local)
    (hsw : swapsWith (.ListComp elt [⟨tg, iter, ifs, 0⟩] scope pos) (some (.Name y py)) spos.line X.env = pure true) (hi : Itr' X tg iter ρ (l.map enc) ρ1) (ok : BlkOk X.N X.env.scope scope own) (his : ∀ j ∈ is, j ∈ own.map (·.2)) (hl : l.length < sizeLine)
    (hg : ∀ a ∈ l, ∀ X', Blk X scope X' → Tg X' tg (wipeR ρ1 (own.map (·.2))) (enc a) (ρt a) is) (ht : ∀ a ∈ l, ∀ X', Blk X scope X' → EvTs X' ifs (ρt a) (b a) (ρt a))
    (he : ∀ a ∈ l, b a = true → ∀ X', Blk X scope X' → Ev X' elt (ρt a) (f a) (ρt a)) (hw : ∀ a ∈ l, Ge (wipeR (ρt a) (own.map (·.2))) (wipeR ρ1 (own.map (·.2)))) (hv : ∀ j ∈ own.map (·.2), ∀ c, ρ1[j]? = some c → c.own = false)
    (hs : ∀ x, foldedSetIterable iter X.env x = pure x := by intro _; rfl) : Run X (.Assign [.Name y py] (.ListComp elt [⟨tg, iter, ifs, 0⟩] scope pos) spos) ρ (fun o => o = .nx (ρ1.set i (.ml ((l.filter b).map f)))) := by
  have L := lcOk_pure (X := X) (scope := scope) (tg := tg) (elt := elt) (ifs := ifs) ρt b f his hl hg ht he hw
  have h := run_setLc (ρ2 := ρ1) (pos := pos) (spos := spos) i hc hN hy hyl hsw hi ok L rfl (fun j c e => ?_) hs
  · have e : l.take (l.map enc).length = l := by rw [List.length_map]; exact List.take_length
    simp only [e] at h
    exact h
  · by_cases hj : j ∈ own.map (·.2)
    · have o := hv j hj c e
      cases c with
      | un => exact .inl rfl
      | va d => exact .inr (.inr ⟨d, rfl, e⟩)
      | _ => cases o
    · refine .inr (.inl ⟨hj, ?_⟩)
      have key : ∀ (ws : List Nat), j ∉ ws → (wipeR ρ1 ws)[j]? = ρ1[j]? := fun ws hws => by
        induction ws with
        | nil => rfl
        | cons v ws ih =>
          rw [wipeR, List.getElem?_set_ne (fun z => hws (by rw [z]; exact List.mem_cons_self)), ih fun z => hws (List.mem_cons_of_mem _ z)]
      rw [key _ hj]
      exact e
/-- the ends of a loop's turn -/
def loopP (I : List C → Prop) (P : Out → Prop) : Out → Prop
  | .nx ρ => I ρ
  | .ct ρ => I ρ
  | .bk ρ => P (.nx ρ)
  | .rt d ρ => P (.rt d ρ)
theorem run_for {α : Type} (l : List α) (enc : α → D) (Iv : List α → List C → Prop) {iter : Expr} {body : List Stmt} (hp : PassesOwn (model X.prog X.w) X.A X.env X.xe) (hc : X.calm = true) (hi : Itr' X tg iter ρ (l.map enc) ρ1) (h0 : Iv [] ρ1)
    (turn : ∀ pre a post ρ', l = pre ++ a :: post → Iv pre ρ' → ∃ ρ2 is, Tg X tg ρ' (enc a) ρ2 is ∧ Runs X body ρ2 (loopP (Iv (pre ++ [a])) P)) (done : ∀ ρ', Iv l ρ' → P (.nx ρ'))
    (hs : ∀ x, foldedSetIterable iter X.env x = pure x := by intro _; rfl) : Run X (.For tg iter body [] pos) ρ P := by
  refine ps_imp (ps_for (g := fun v σ H Q => ∃ t, PG X tg t ∧ t v σ H Q) (tb := fun E σ H => ∃ t, PSs X body t ∧ t E σ H) hp hc hi ⟨fun pins s σ H v u Q I r ⟨t, h, q⟩ => h.run pins s σ H v u Q I r q⟩ ⟨fun pins s σ H E I ⟨t, h, q⟩ => h.run pins s σ H E I q⟩ hs) fun E σ H ⟨M, F, R, k⟩ => ⟨M, F, R, fun J M1 F1 H1 sM s1 R1 yl => ?_⟩
  refine ⟨fun i m σ' H' => m = l.length - i ∧ i ≤ l.length ∧ ∃ ρ' F', Iv (l.take i) ρ' ∧ Same F1 F' ∧ Rl X.K M1 ρ' F' σ' H', ⟨l.length, by simp, Nat.zero_le _, ρ1, F1, by simpa using h0, Same.refl _, R1⟩, ?_⟩
  rintro i m σ' H' ⟨rfl, hi', ρ', F', iv, s', R'⟩
  have Y := yl M1 (Same.refl _) ρ' F' σ' H' s' R' i
  by_cases hlt : i < l.length
  · obtain ⟨go, step⟩ := Y.2 (enc l[i]) (by rw [List.getElem?_map, List.getElem?_eq_getElem hlt]; rfl)
    have tk : l.take (i + 1) = l.take i ++ [l[i]] := by rw [List.take_succ, List.getElem?_eq_getElem hlt]; rfl
    obtain ⟨ρ2, is, hg, hb⟩ := turn (l.take i) l[i] (l.drop (i + 1)) ρ' (by rw [List.getElem_cons_drop hlt, List.take_append_drop]) iv
    rw [← tk] at hb
    refine .inr ⟨go, fun σ2 H2 => ∃ ρ2 F2, Iv (l.take (i + 1)) ρ2 ∧ Same F1 F2 ∧ Rl X.K M1 ρ2 F2 σ2 H2, fun σ2 H2 q => ⟨l.length - (i + 1), by omega, rfl, hlt, q⟩, fun v H2 y => ?_⟩
    obtain ⟨F2, s2, R2, ivx⟩ := step v H2 y
    refine ⟨_, hg, M1, F2, R2, ivx, fun σ3 R3 _ _ => ⟨_, hb, M1, F2, R3, fun o q F4 σ4 H4 s4 => ?_⟩⟩
    cases o with
    | nx ρ4 => exact fun R4 => ⟨ρ4, F4, q, (s'.trans s2).trans s4, R4⟩
    | ct ρ4 => exact fun R4 => ⟨ρ4, F4, q, (s'.trans s2).trans s4, R4⟩
    | bk ρ4 => exact fun R4 => k _ q F4 σ4 H4 (((s1.trans s').trans s2).trans s4) (R4.lessM sM)
    | rt d ρ4 => exact fun R4 => k _ q F4 σ4 H4 (((s1.trans s').trans s2).trans s4) (R4.lessM sM)
  · have ei : i = l.length := by omega
    subst ei
    rw [List.take_length] at iv
    exact .inl ⟨Y.1 (by rw [List.length_map]; exact Nat.le_refl _), k _ (done ρ' iv) F' σ' H' (s1.trans s') (R'.lessM sM)⟩
theorem run_while {body : List Stmt} (Iv : Nat → List C → Prop) (hp : PassesOwn (model X.prog X.w) X.A X.env X.xe) {m0 : Nat} (h0 : Iv m0 ρ)
    (turn : ∀ m ρ', Iv m ρ' → ∃ k ρ2, EvB X c ρ' k ρ2 ∧ (k = true → Runs X body ρ2 (loopP (fun ρ3 => ∃ m', m' < m ∧ Iv m' ρ3) P)) ∧ (k = false → P (.nx ρ2))) : Run X (.While c body [] pos) ρ P := by
  refine ps_imp (ps_while (tc := fun σ H Q => ∃ t, PT X c t ∧ t σ H Q) (tb := fun E σ H => ∃ t, PSs X body t ∧ t E σ H) hp ⟨fun pins s σ H Q I ⟨t, h, q⟩ => h.run pins s σ H Q I q⟩ ⟨fun pins s σ H E I ⟨t, h, q⟩ => h.run pins s σ H E I q⟩) fun E σ H ⟨M, F, R, k⟩ => ?_
  refine ⟨fun m σ' H' => ∃ ρ' F', Iv m ρ' ∧ Same F F' ∧ Rl X.K M ρ' F' σ' H', ⟨m0, ρ, F, h0, Same.refl _, R⟩, ?_⟩
  rintro m σ' H' ⟨ρ', F', iv, s', R'⟩
  obtain ⟨b, ρ2, hc, ht, hf⟩ := turn m ρ' iv
  refine ⟨_, hc, M, F', R', fun F2 H2 s2 R2 => ?_⟩
  cases b with
  | false => exact iteF (k _ (hf rfl) F2 σ' H2 (s'.trans s2) R2)
  | true =>
    refine iteT ⟨fun σ3 H3 => ∃ m', m' < m ∧ ∃ ρ3 F3, Iv m' ρ3 ∧ Same F F3 ∧ Rl X.K M ρ3 F3 σ3 H3, fun σ3 H3 q => q, _, ht rfl, M, F2, R2, fun o q F4 σ4 H4 s4 => ?_⟩
    cases o with
    | nx ρ4 =>
      obtain ⟨m', hm, q⟩ := q
      exact fun R4 => ⟨m', hm, ρ4, F4, q, (s'.trans s2).trans s4, R4⟩
    | ct ρ4 =>
      obtain ⟨m', hm, q⟩ := q
      exact fun R4 => ⟨m', hm, ρ4, F4, q, (s'.trans s2).trans s4, R4⟩
    | bk ρ4 => exact k _ q F4 σ4 H4 ((s'.trans s2).trans s4)
    | rt d ρ4 => exact k _ q F4 σ4 H4 ((s'.trans s2).trans s4)
theorem runs_for {α : Type} (l : List α) (enc : α → D) (Iv : List α → List C → Prop) {iter : Expr} {body : List Stmt} (hp : PassesOwn (model X.prog X.w) X.A X.env X.xe) (hc : X.calm = true) (hi : Itr' X tg iter ρ (l.map enc) ρ1) (h0 : Iv [] ρ1)
    (turn : ∀ pre a post ρ', l = pre ++ a :: post → Iv pre ρ' → ∃ ρ2 is, Tg X tg ρ' (enc a) ρ2 is ∧ Runs X body ρ2 (loopP (Iv (pre ++ [a])) (andThen X rest P))) (done : ∀ ρ', Iv l ρ' → Runs X rest ρ' P)
    (hs : ∀ x, foldedSetIterable iter X.env x = pure x := by intro _; rfl) : Runs X (.For tg iter body [] pos :: rest) ρ P := runs_cons (run_for l enc Iv hp hc hi h0 turn done hs)
theorem runs_while {body : List Stmt} (Iv : Nat → List C → Prop) (hp : PassesOwn (model X.prog X.w) X.A X.env X.xe) {m0 : Nat} (h0 : Iv m0 ρ)
    (turn : ∀ m ρ', Iv m ρ' → ∃ k ρ2, EvB X c ρ' k ρ2 ∧ (k = true → Runs X body ρ2 (loopP (fun ρ3 => ∃ m', m' < m ∧ Iv m' ρ3) (andThen X rest P))) ∧ (k = false → Runs X rest ρ2 P)) : Runs X (.While c body [] pos :: rest) ρ P := runs_cons (run_while Iv hp h0 turn)

/-! ### lists of one's own -/
def C.asL : C → Option (List D)
  | .ml ds => some ds
  | .mr _ ds => some ds
  | _ => none
def C.toL (es : List D) : C → C
  | .ml _ => .ml es
  | .mr p _ => .mr p es
  | c => c
theorem Rl.asL {K : PySem.W.Frag} {M F H : Hp} {σ : St} {i : Nat} {cc : C} (R : Rl K M ρ F σ H) (hc : ρ[i]? = some cc) (hl : cc.asL = some ds) : ∃ p xs, σ[i]? = some (some (.ref p)) ∧ H p = some (.lst xs) ∧ IsL K F xs ds ∧ F p = none ∧ M p = none := by
  obtain ⟨fp, h1, _⟩ := R.ow
  cases cc with
  | ml es =>
    cases hl
    exact R.ml hc
  | mr q es =>
    cases hl
    obtain ⟨p, hs, ⟨hA, rfl, xs, h3, h4⟩, hf⟩ := h1 i _ hc rfl
    obtain ⟨f1, f2, _⟩ := hf _ (by rw [hA]; exact List.mem_singleton.mpr rfl)
    exact ⟨_, xs, hs, h3, h4, f1, f2⟩
  | _ => cases hl
/-- a slot's own list written -/
theorem Rl.wrL {K : PySem.W.Frag} {M F H : Hp} {σ : St} {i : Nat} {cc : C} {q : Addr} {ys : List V} {es : List D} (R : Rl K M ρ F σ H) (hc : ρ[i]? = some cc) (hl : cc.asL = some ds) (hs : σ[i]? = some (some (.ref q))) (hy : IsL K F ys es) : Rl K M (ρ.set i (cc.toL es)) F σ (upd H q (.lst ys)) := by
  obtain ⟨fp, h1, h2⟩ := R.ow
  have oc : cc.own = true := by cases cc <;> first | rfl | cases hl
  obtain ⟨q', hs', oa, hf⟩ := h1 i cc hc oc
  rw [hs] at hs'
  cases hs'
  have hA : fp i = [q] := by
    cases cc with
    | ml ds => exact oa.1
    | mr p ds => exact oa.1
    | _ => cases hl
  obtain ⟨f1, f2, f3⟩ := hf q (by rw [hA]; exact List.mem_singleton.mpr rfl)
  have hil : i < ρ.length := (List.getElem?_eq_some_iff.mp hc).1
  have oc' : (cc.toL es).own = true := by cases cc <;> first | rfl | cases hl
  have key : ∀ {j : Nat} {x : C}, (ρ.set i (cc.toL es))[j]? = some x → (j = i ∧ x = cc.toL es) ∨ (j ≠ i ∧ ρ[j]? = some x) := fun {j x} e => by
    by_cases hj : i = j
    · subst hj
      rw [List.getElem?_set_self hil] at e
      exact .inl ⟨rfl, (Option.some.inj e).symm⟩
    · rw [List.getElem?_set_ne hj] at e
      exact .inr ⟨fun x => hj x.symm, e⟩
  refine ⟨⟨fun a u e => ?_, fun a u e => ?_, R.z.fm, R.z.tpu⟩, by rw [List.length_set]; exact R.len, fun j d' e => ?_, fp, fun j x e o' => ?_, fun j k cj ck hne e1 o1 e2 o2 => ?_⟩
  · have ha : a ≠ q := fun x => by rw [x, f1] at e; cases e
    rw [upd_ne ha]
    exact R.z.le a u e
  · rw [upd_ne (ne_of_none e f2)]
    exact R.z.mh _ _ e
  · rcases key e with ⟨_, x⟩ | ⟨_, e'⟩
    · rw [← x] at oc'
      cases oc'
    · exact R.va j d' e'
  · rcases key e with ⟨rfl, x⟩ | ⟨hj, e'⟩
    · subst x
      refine ⟨q, hs, ?_, fun y hy' => ?_⟩
      · cases cc with
        | ml ds => exact ⟨hA, ys, upd_same, hy⟩
        | mr p ds => exact ⟨hA, oa.2.1, ys, upd_same, hy⟩
        | _ => cases hl
      · rw [hA] at hy'
        rw [List.mem_singleton.mp hy']
        exact ⟨f1, f2, by rw [upd_same]; simp⟩
    · obtain ⟨w, a, b, c'⟩ := h1 j x e' o'
      have hn : ∀ y ∈ fp j, y ≠ q := fun y hy' z => h2 j i x cc hj e' o' hc oc y hy' (by rw [z, hA]; exact List.mem_singleton.mpr rfl)
      refine ⟨w, a, b.keep (Same.refl _) fun y hy' => upd_ne (hn y hy'), fun y hy' => ?_⟩
      obtain ⟨g1, g2, g3⟩ := c' y hy'
      exact ⟨g1, g2, by rw [upd_ne (hn y hy')]; exact g3⟩
  · rcases key e1 with ⟨rfl, _⟩ | ⟨n1, e1'⟩
    · rcases key e2 with ⟨rfl, _⟩ | ⟨n2, e2'⟩
      · exact absurd rfl hne
      · exact h2 _ k cc ck hne hc oc e2' o2
    · rcases key e2 with ⟨rfl, _⟩ | ⟨n2, e2'⟩
      · exact h2 j _ cj cc hne e1' o1 hc oc
      · exact h2 j k cj ck hne e1' o1 e2' o2
/-- xs[k] of an own list -/
theorem ev_ixO (i : Nat) {x : Str} {b : Expr} {px : Pos} {cc : C} {n : Int} (hN : X.N[i]? = some x) (hv : Vis X.env.scope x) (hb : Ev X b ρ (.int n) ρ1) (h1 : ρ1[i]? = some cc) (hl : cc.asL = some ds) (hi : ∃ c0, ρ[i]? = some c0 ∧ c0.asL ≠ none) (ha : atI ds n = some d)
    (hs : PlainIx b := by exact fun _ _ => rfl) (hd : (x == ("__debug__" : Str)) = false := by decide) (hcd : (x == ("__classdict__" : Str)) = false := by decide) : Ev X (.Subscript (.Name x px) b pos) ρ d ρ1 :=
  pe_imp (pe_ix ix_list (pe_var hN hv hd hcd) hb hs) fun σ H Q ⟨M, F, R, q⟩ => by
    obtain ⟨c0, e0, l0⟩ := hi
    cases hh : c0.asL with
    | none => exact absurd hh l0
    | some ds0 =>
      obtain ⟨p, xs, hs', _⟩ := R.asL e0 hh
      refine ⟨_, hs', M, F, R, fun F' H' v s R' iv => ?_⟩
      cases iv
      obtain ⟨p', xs', hs2, hp, hl', _⟩ := R'.asL h1 hl
      rw [hs'] at hs2
      cases hs2
      obtain ⟨v, ev, iv⟩ := atI_map hl' ha
      exact ⟨p, xs', _, v, rfl, rfl, .inl (.inl hp), ev, q F' H' v s R' iv⟩
theorem ev_lenO (i : Nat) {x : Str} {p' px : Pos} {cc : C} (hN : X.N[i]? = some x) (hv : Vis X.env.scope x) (h1 : ρ[i]? = some cc) (hl : cc.asL = some ds) (hg : Gl X "len") (hm : X.mg "len" = none)
    (he : starEach [Expr.Name x px] X.env = (false, eval (Expr.Name x px) X.env) :: starEach [] X.env := by rfl) (hd : (x == ("__debug__" : Str)) = false := by decide) (hcd : (x == ("__classdict__" : Str)) = false := by decide) : Ev X (.Call (.Name "len" p') [.Name x px] [] pos) ρ (.int (ds.length : Int)) ρ :=
  pe_imp (pe_callB call_len_seq hg hm boot_len (pa_cons (pe_var hN hv hd hcd) pa_nil he) (he := he)) fun σ H Q ⟨M, F, R, q⟩ => by
    obtain ⟨p, xs, hs, hp, l', _⟩ := R.asL h1 hl
    refine ⟨_, hs, p, xs, rfl, .inl (.inl (.inl hp)), ?_⟩
    rw [l'.length]
    exact q F H _ (Same.refl _) R (.int _)
/-- xs != [] (xs an own list) -/
theorem ev_neNilO (i : Nat) {x : Str} {px pn : Pos} {cc : C} {kk n : Nat} (hr : Room kk X.A) (hN : X.N[i]? = some x) (hv : Vis X.env.scope x) (h1 : ρ[i]? = some cc) (hl : cc.asL = some ds) (hok : ∀ y ∈ ds, D.okn n y) (hn : n + 1 ≤ 64 := by decide) (hd : (x == ("__debug__" : Str)) = false := by decide) (hcd : (x == ("__classdict__" : Str)) = false := by decide) :
    EvB X (.Compare (.Name x px) [.NotEq] [.List [] pn] pos) ρ (!ds.isEmpty) ρ := by
  refine pt_imp (pt_cmpR (op_neD hr.units) (pe_var hN hv hd hcd) (pe_lst pa_nil) (nomark _)) fun σ H Q ⟨M, F, R, q⟩ => ?_
  obtain ⟨p, xs, hs, hp, l', _⟩ := R.asL h1 hl
  refine ⟨_, hs, by show 0 ≤ sizeLine; decide, fun p' hp' => ?_⟩
  have hne : p ≠ p' := ne_of_none hp hp'
  have R2 := R.alloc (o := .lst []) hp'
  obtain ⟨p2, xs2, hs2, hp2, l2, _⟩ := R2.asL h1 hl
  rw [hs] at hs2
  cases hs2
  have sh := py_shaped (n := n + 1) (d := .lst ds) hok hn
  have e1 : (!PyData.eqv (D.lst ds).py (.list [])) = !ds.isEmpty := by
    cases ds with
    | nil => simp [D.py, D.pyL, PyData.eqv, PyData.eqvAll]
    | cons a r => simp [D.py, D.pyL, PyData.eqv, PyData.eqvAll]
  refine ⟨(D.lst ds).py, .list [], ?_, .lst (.inl (.inl upd_same)) .nil, sh, by decide, ?_⟩
  · rw [D.py]
    exact .lst (.inl (.inl hp2)) (dpL_of R2.z.le n hok l2)
  · rw [e1]
    exact ⟨_, rfl, q _ _ (same_upd (R.freeP hp')) R2⟩
/-- xs.append(e) -/
theorem run_app (i : Nat) {x : Str} {px ap : Pos} {cc c0 : C} (hN : X.N[i]? = some x) (hv : Vis X.env.scope x) (he : Ev X e ρ d ρ1) (h0 : ρ[i]? = some c0) (hl0 : c0.asL ≠ none) (h1 : ρ1[i]? = some cc) (hl : cc.asL = some ds) (hz : ds.length < sizeLine)
    (hbase : attributeBase (.Name x px) "append" X.env (eval (.Name x px) X.env) = eval (.Name x px) X.env := by rfl)
    (hfew : ((backTo p (starEach [e] X.env)).all (fun x => !x.1) && (backToKw p (keywordEach [] X.env)).all (fun x => x.1.isSome) && decide ([e].length + ([] : List Keyword).length + (if ([] : List Keyword).isEmpty then 0 else 1) < 30)) = true := by rfl)
    (hline : (ap.endLine == p.line) = true := by rfl) (hs : starEach [e] X.env = (false, eval e X.env) :: starEach [] X.env := by rfl) (hplain : (backTo p (starEach [] X.env)).any (·.1) = false := by rfl)
    (hw : swapsWith (.Call (.Attribute (.Name x px) "append" ap) [e] [] p) none pos.line X.env = pure false := by rfl) (hd : (x == ("__debug__" : Str)) = false := by decide) (hcd : (x == ("__classdict__" : Str)) = false := by decide) :
    Run X (.Expr (.Call (.Attribute (.Name x px) "append" ap) [e] [] p) pos) ρ (fun o => o = .nx (ρ1.set i (cc.toL (ds ++ [d])))) :=
  ps_imp (ps_expr (pe_bm PySem.F.plainAttrs_list PySem.F.slot_list_append PySem.F.type_list_append mt_append (pe_var hN hv hd hcd) (pa_cons he pa_nil hs) hbase hfew hline hs hplain) hw) fun E σ H ⟨M, F, R, k⟩ => by
    cases hh : c0.asL with
    | none => exact absurd hh hl0
    | some ds0 =>
      obtain ⟨q, xs, hq, hp, _, _⟩ := R.asL h0 hh
      refine ⟨_, hq, .inl ⟨rfl, _, .inl (.inl hp)⟩, M, F, R, fun F' H' v s R' iv => ?_⟩
      obtain ⟨q', xs', hq', hp', l', _⟩ := R'.asL h1 hl
      rw [hq] at hq'
      cases hq'
      exact ⟨q, xs', v, rfl, rfl, hp', by rw [l'.length]; exact hz, k _ rfl F' σ _ s (R'.wrL h1 hl hq (l'.append (.one iv)))⟩
/-- xs.pop() -/
theorem run_pop (i : Nat) {x : Str} {px ap : Pos} {cc : C} (hN : X.N[i]? = some x) (hv : Vis X.env.scope x) (h1 : ρ[i]? = some cc) (hl : cc.asL = some ds) (hne : ds ≠ [])
    (hbase : attributeBase (.Name x px) "pop" X.env (eval (.Name x px) X.env) = eval (.Name x px) X.env := by rfl) (hline : (ap.endLine == p.line) = true := by rfl)
    (hw : swapsWith (.Call (.Attribute (.Name x px) "pop" ap) [] [] p) none pos.line X.env = pure false := by rfl) (hd : (x == ("__debug__" : Str)) = false := by decide) (hcd : (x == ("__classdict__" : Str)) = false := by decide) :
    Run X (.Expr (.Call (.Attribute (.Name x px) "pop" ap) [] [] p) pos) ρ (fun o => o = .nx (ρ.set i (cc.toL ds.dropLast))) :=
  ps_imp (ps_expr (pe_bm0 PySem.F.plainAttrs_list PySem.F.slot_list_pop PySem.F.type_list_pop mt_pop (pe_var hN hv hd hcd) hbase hline) hw) fun E σ H ⟨M, F, R, k⟩ => by
    obtain ⟨q, xs, hq, hp, l', _⟩ := R.asL h1 hl
    have hx : xs ≠ [] := fun z => hne (by
      subst z
      cases l'
      rfl)
    have hlt : xs.length - 1 < xs.length := by
      cases xs with
      | nil => exact absurd rfl hx
      | cons a r => simp
    exact ⟨_, hq, .inl ⟨rfl, _, .inl (.inl hp)⟩, q, xs, xs[xs.length - 1], rfl, rfl, hp, List.getElem?_eq_getElem hlt, k _ rfl F σ _ (Same.refl _) (R.wrL h1 hl hq l'.dropLast)⟩
/-- xs[k] = e -/
theorem run_setIx (i : Nat) {x : Str} {b : Expr} {px sp : Pos} {cc c0 c1 : C} {n : Int} {j : Nat} (hN : X.N[i]? = some x) (hv : Vis X.env.scope x) (he : Ev X e ρ d ρ1) (hb : Ev X b ρ1 (.int n) ρ2) (h1 : ρ1[i]? = some c1) (hl1 : c1.asL ≠ none) (h2 : ρ2[i]? = some cc) (hl : cc.asL = some ds) (hj : ixN ds.length n = some j)
    (hs : swapsWithSole [.Subscript (.Name x px) b sp] e pos.line X.env = pure false := by rfl) (hw : swappedStores [.Subscript (.Name x px) b sp] e X.env = pure none := by rfl) (h3 : (assignEach [.Subscript (.Name x px) b sp] X.env).map (·.2) = [assign (.Subscript (.Name x px) b sp) X.env] := by rfl)
    (ha : ∀ v, assign (.Subscript (.Name x px) b sp) X.env v = (do
      let ov ← holding [v] (eval (.Name x px) X.env)
      let iv ← holding [v, ov] (eval b X.env)
      standAt sp
      holding [v, ov, iv] (setItem ov iv v)
      release [v, ov, iv] []) := by intro _; rfl) (hd : (x == ("__debug__" : Str)) = false := by decide) (hcd : (x == ("__classdict__" : Str)) = false := by decide) :
    Run X (.Assign [.Subscript (.Name x px) b sp] e pos) ρ (fun o => o = .nx (ρ2.set i (cc.toL (ds.set j d)))) :=
  ps_imp (ps_asg he (pg_sub (pe_var hN hv hd hcd) hb set_list ha) hs hw h3) fun E σ H ⟨M, F, R, k⟩ => ⟨M, F, R, fun F1 H1 v s1 R1 iv => by
    cases hh : c1.asL with
    | none => exact absurd hh hl1
    | some ds1 =>
      obtain ⟨q, xs, hq, _⟩ := R1.asL h1 hh
      refine ⟨_, hq, M, F1, R1, fun F2 H2 w s2 R2 iw => ?_⟩
      cases iw
      obtain ⟨q', xs', hq', hp', l', _⟩ := R2.asL h2 hl
      rw [hq] at hq'
      cases hq'
      exact ⟨q, xs', n, j, rfl, rfl, hp', by rw [l'.length]; exact hj, k _ rfl F2 σ _ (s1.trans s2) (R2.wrL h2 hl hq (l'.set (iv.mono s2) j))⟩⟩
end
end K8
/-! The layer: defs and their calls. -/
namespace K8
open PySem PySem.Spec PyProof.Rows L2

abbrev FnT (K : PySem.W.Frag) (x : Str) (st : Stmt) (f : Addr) (fd : FuncData) : Prop := FunD K x x (defArgs st) (defBody st) (defScope st) [] [] f fd
/-- the module's name x stands for the def st -/
def DefAt (K : PySem.W.Frag) (mg : Str → Option Value) (x : Str) (st : Stmt) : Prop := ∃ f fd, mg x = some (.ref f) ∧ FnT K x st f fd
/-- .. which keeps the promise sp -/
def DefOk (P : Program) (w : World) (K : PySem.W.Frag) (mg : Str → Option Value) (base : Heap) (x : Str) (k : Nat) (ps : List Str) (sp : Sp) : Prop := ∃ f fd, mg x = some (.ref f) ∧ PySem.W.keepIn K (.ref f) = true ∧ Binds K fd ps [] ∧ FnOk P w K mg base CX0 k f fd ps sp
/-- from data to data -/
def spD (K : PySem.W.Frag) (R : List D → D → Prop) : Sp := fun vs H Q _ => ∃ M F ds d, R ds d ∧ Rl0 M F H ∧ IsL K F vs ds ∧ ∀ F' H' v, Same F F' → Rl0 M F' H' → Is K F' v d → Q v H'
/-- the first argument is a list that the def changes -/
def spM (K : PySem.W.Frag) (R : List D → List D → D → List D → Prop) : Sp := fun vs H Q _ => ∃ M F p xs ws ds0 ds d ds1, vs = .ref p :: ws ∧ R ds0 ds d ds1 ∧ Rl0 M F H ∧ H p = some (.lst xs) ∧ IsL K F xs ds0 ∧ F p = none ∧ M p = none ∧ IsL K F ws ds ∧
  ∀ F' H' v xs', Same F F' → Rl0 M F' H' → F' p = none → H' p = some (.lst xs') → IsL K F' xs' ds1 → Is K F' v d → Q v H'
/-- the slots at a def's entry -/
def slots0 (ds : List D) (n : Nat) : List C := ds.map C.va ++ List.replicate (n - ds.length) .un
abbrev Bx (P : Program) (w : World) (K : PySem.W.Frag) (mg : Str → Option Value) (base : Heap) (N : List Str) (x : Str) (sc : Scope) (f : Addr) (cdv : Value) (A : Around) (outer : List Env) (s : Shared) (H : Hp) (E : XK) : Cx := (cxOf CX0 P w K mg base N x sc f cdv A outer s H E).nox
section
variable {P : Program} {w : World} {K : PySem.W.Frag} {mg : Str → Option Value} {base : Heap} {M F H : Hp}
theorem start_va {vs : List V} {ds : List D} (N : List Str) (hl : vs.length ≤ N.length) (z : Rl0 M F H) (l : IsL K F vs ds) : Rl K M (slots0 ds N.length) F (L2.start N vs) H := by
  have e := l.length
  refine ⟨z, by unfold slots0 L2.start; rw [List.length_append, List.length_append, List.length_map, List.length_map, List.length_replicate, List.length_replicate]; omega, fun i d h => ?_, fun _ => [], fun i c h o => ?_, fun i j ci cj _ h o => ?_⟩
  · unfold slots0 at h
    by_cases hi : i < ds.length
    · rw [List.getElem?_append_left (by rw [List.length_map]; exact hi), List.getElem?_map] at h
      cases hd : ds[i]? with
      | none => rw [hd] at h; cases h
      | some d' =>
        rw [hd] at h
        cases h
        obtain ⟨v, hv, iv⟩ := l.get hd
        refine ⟨v, ?_, iv⟩
        unfold L2.start
        rw [List.getElem?_append_left (by rw [List.length_map]; omega), List.getElem?_map, hv]
        rfl
    · rw [List.getElem?_append_right (by rw [List.length_map]; omega)] at h
      have := List.mem_of_getElem? h
      rw [List.mem_replicate] at this
      cases this.2
  · unfold slots0 at h
    rcases List.mem_append.mp (List.mem_of_getElem? h) with q | q
    · obtain ⟨d, _, rfl⟩ := List.mem_map.mp q
      cases o
    · rw [(List.mem_replicate.mp q).2] at o
      cases o
  · unfold slots0 at h
    rcases List.mem_append.mp (List.mem_of_getElem? h) with q | q
    · obtain ⟨d, _, rfl⟩ := List.mem_map.mp q
      cases o
    · rw [(List.mem_replicate.mp q).2] at o
      cases o
/-- a def keeps its promise, by its body -/
theorem fn_ok {x : Str} {st : Stmt} {N ps : List Str} {k : Nat} {R : List D → D → Prop} (A : DefAt K mg x st) (S : FnScope N ps (defScope st)) (hN : ps.length ≤ N.length)
    (hb : ∀ (kV doc pm : Value) (an : Option Addr) (cdv ct : Value) (us : List Value), us.length = ps.length → bindArgs (PySem.W.fnOf x x (defArgs st) (defBody st) (defScope st) .none kV doc pm an cdv ct) ⟨us, []⟩ = pure (ps.zip us))
    (hR : ∀ ds d, R ds d → ds.length = ps.length)
    (body : ∀ (f : Addr) (cdv : Value) (A : Around) (outer : List Env) (s : Shared) (H : Hp) (E : XK), Room k (A.deeper (envOfC x (defScope st) s.heap.objs.size f cdv)) → ∀ ds d, R ds d →
      Runs (Bx P w K mg base N x (defScope st) f cdv A outer s H E) (defBody st) (slots0 ds N.length) (fun o => (∃ ρ, o = .rt d ρ) ∨ d = .non ∧ ∃ ρ, o = .nx ρ)) : DefOk P w K mg base x (k + 1) ps (spD K R) := by
  obtain ⟨f, fd, gm, F⟩ := A
  refine ⟨f, fd, gm, F.kp, F.bindsN hb, F.ok S (fun vs H Q E h => ?_) fun cdv A outer s H vs Q E hr h => ?_⟩
  · obtain ⟨M, F, ds, d, r, z, l, _⟩ := h
    rw [l.length]
    exact hR ds d r
  · obtain ⟨M, F, ds, d, r, z, l, q⟩ := h
    refine ⟨_, (body f cdv A outer s H E hr ds d r).nox, M, F, start_va N (by rw [l.length, hR ds d r]; exact hN) z l, fun o ho F' σ' H' s' => ?_⟩
    rcases ho with ⟨ρ, rfl⟩ | ⟨rfl, ρ, rfl⟩
    · exact fun R' v iv => q F' H' v s' R'.z iv
    · exact fun R' => q F' H' _ s' R'.z .non
theorem start_mr {p : Addr} {xs ws : List V} {ds0 ds : List D} (N : List Str) (hl : (V.ref p :: ws).length ≤ N.length) (z : Rl0 M F H) (hp : H p = some (.lst xs)) (l0 : IsL K F xs ds0) (f : F p = none) (m : M p = none) (l : IsL K F ws ds) :
    Rl K M (.mr p ds0 :: slots0 ds (N.length - 1)) F (L2.start N (.ref p :: ws)) H := by
  have e := l.length
  have hl' : ws.length + 1 ≤ N.length := by simpa using hl
  have tail : L2.start N (.ref p :: ws) = some (.ref p) :: (ws.map some ++ List.replicate ((N.length - 1) - ws.length) none) := by
    unfold L2.start
    rw [List.map_cons, List.cons_append, List.length_cons]
    have q : N.length - (ws.length + 1) = N.length - 1 - ws.length := by omega
    rw [q]
  rw [tail]
  have no : ∀ (i : Nat) c, (slots0 ds (N.length - 1))[i]? = some c → c.own = false := fun i c h => by
    unfold slots0 at h
    rcases List.mem_append.mp (List.mem_of_getElem? h) with q | q
    · obtain ⟨d, _, rfl⟩ := List.mem_map.mp q
      rfl
    · rw [(List.mem_replicate.mp q).2]
      rfl
  refine ⟨z, ?_, fun i d h => ?_, fun _ => [p], fun i c h o => ?_, fun i j ci cj hn h o h' o' => ?_⟩
  · unfold slots0
    simp only [List.length_cons, List.length_append, List.length_map, List.length_replicate]
    omega
  · cases i with
    | zero =>
      have : C.mr p ds0 = .va d := by simpa using h
      cases this
    | succ i =>
      have h : (slots0 ds (N.length - 1))[i]? = some (.va d) := by simpa using h
      unfold slots0 at h
      by_cases hi : i < ds.length
      · rw [List.getElem?_append_left (by rw [List.length_map]; exact hi), List.getElem?_map] at h
        cases hd : ds[i]? with
        | none => rw [hd] at h; cases h
        | some d' =>
          rw [hd] at h
          cases h
          obtain ⟨v, hv, iv⟩ := l.get hd
          refine ⟨v, ?_, iv⟩
          rw [List.getElem?_cons_succ, List.getElem?_append_left (by rw [List.length_map]; omega), List.getElem?_map, hv]
          rfl
      · rw [List.getElem?_append_right (by rw [List.length_map]; omega)] at h
        have := List.mem_of_getElem? h
        rw [List.mem_replicate] at this
        cases this.2
  · cases i with
    | zero =>
      have ec : C.mr p ds0 = c := by simpa using h
      subst ec
      refine ⟨p, rfl, ⟨rfl, rfl, xs, hp, l0⟩, fun a ha => ?_⟩
      rw [List.mem_singleton.mp ha]
      exact ⟨f, m, by rw [hp]; simp⟩
    | succ i =>
      have q := no i c (by simpa using h)
      rw [o] at q
      cases q
  · cases i with
    | zero =>
      cases j with
      | zero => exact absurd rfl hn
      | succ j =>
        have q := no j cj (by simpa using h')
        rw [o'] at q
        cases q
    | succ i =>
      have q := no i ci (by simpa using h)
      rw [o] at q
      cases q
/-- a def that changes its first argument, a list -/
theorem fn_okM {x : Str} {st : Stmt} {N ps : List Str} {k : Nat} {R : List D → List D → D → List D → Prop} (A : DefAt K mg x st) (S : FnScope N ps (defScope st)) (hN : ps.length ≤ N.length)
    (hb : ∀ (kV doc pm : Value) (an : Option Addr) (cdv ct : Value) (us : List Value), us.length = ps.length → bindArgs (PySem.W.fnOf x x (defArgs st) (defBody st) (defScope st) .none kV doc pm an cdv ct) ⟨us, []⟩ = pure (ps.zip us))
    (hR : ∀ ds0 ds d ds1, R ds0 ds d ds1 → ds.length + 1 = ps.length)
    (body : ∀ (f : Addr) (cdv : Value) (A : Around) (outer : List Env) (s : Shared) (H : Hp) (E : XK), Room k (A.deeper (envOfC x (defScope st) s.heap.objs.size f cdv)) → ∀ p ds0 ds d ds1, R ds0 ds d ds1 →
      Runs (Bx P w K mg base N x (defScope st) f cdv A outer s H E) (defBody st) (.mr p ds0 :: slots0 ds (N.length - 1)) (fun o => ∃ ρ, ρ[0]? = some (.mr p ds1) ∧ o = .rt d ρ)) : DefOk P w K mg base x (k + 1) ps (spM K R) := by
  obtain ⟨f, fd, gm, F⟩ := A
  refine ⟨f, fd, gm, F.kp, F.bindsN hb, F.ok S (fun vs H Q E h => ?_) fun cdv A outer s H vs Q E hr h => ?_⟩
  · obtain ⟨M, F, p, xs, ws, ds0, ds, d, ds1, rfl, r, z, hp, l0, f1, m1, l, _⟩ := h
    rw [List.length_cons, l.length]
    exact hR _ _ _ _ r
  · obtain ⟨M, F, p, xs, ws, ds0, ds, d, ds1, rfl, r, z, hp, l0, f1, m1, l, q⟩ := h
    refine ⟨_, (body f cdv A outer s H E hr p ds0 ds d ds1 r).nox, M, F, start_mr N (by rw [List.length_cons, l.length, hR _ _ _ _ r]; exact hN) z hp l0 f1 m1 l, fun o ho F' σ' H' s' => ?_⟩
    obtain ⟨ρ, hρ, rfl⟩ := ho
    intro R' v iv
    obtain ⟨fp, h1, _⟩ := R'.ow
    obtain ⟨p', _, ⟨hA, e, xs', h3, h4⟩, hf⟩ := h1 0 _ hρ rfl
    subst e
    obtain ⟨g1, _, _⟩ := hf _ (by rw [hA]; exact List.mem_singleton.mpr rfl)
    exact q F' H' v xs' s' R'.z g1 h3 h4 iv
end

section
variable {X : Cx} {e : Expr} {es : List Expr} {pos p : Pos} {ρ ρ1 : List C} {d : D} {ds : List D} {k : Nat} {x : Str} {ps : List Str}
/-- the callers' part within a call: one's own objects too -/
noncomputable def ownM (M H : Hp) (A : Addr → Prop) : Hp := fun a => open Classical in if A a then H a else M a
theorem Rl.toCall {K : PySem.W.Frag} {M F H : Hp} {σ : St} (R : Rl K M ρ F σ H) : ∃ M', Rl0 M' F H ∧ ∀ F' H', Same F F' → Rl0 M' F' H' → Rl K M ρ F' σ H' := by
  obtain ⟨fp, h1, h2⟩ := R.ow
  let A : Addr → Prop := fun a => ∃ (i : Nat) (c : C), ρ[i]? = some c ∧ c.own = true ∧ a ∈ fp i
  have inA : ∀ {a}, A a → F a = none ∧ M a = none ∧ H a ≠ none := fun {a} ⟨i, c, e, o, ha⟩ => (h1 i c e o).elim fun p q => q.2.2 a ha
  refine ⟨ownM M H A, ⟨R.z.le, fun a u e => ?_, fun a u e => ?_, R.z.tp⟩, fun F' H' s z => ⟨⟨z.le, fun a u e => ?_, fun a u e => ?_, z.tp⟩, R.len, fun i d e => ?_, fp, fun i c e o => ?_, h2⟩⟩
  · unfold ownM at e
    split at e
    · exact e
    · exact R.z.mh _ _ e
  · unfold ownM
    split
    · rename_i ha
      rw [(inA ha).1] at e
      cases e
    · exact R.z.fm a u e
  · refine z.mh _ _ ?_
    unfold ownM
    split
    · rename_i ha
      rw [(inA ha).2.1] at e
      cases e
    · exact e
  · have q := z.fm a u e
    unfold ownM at q
    split at q
    · rename_i ha
      exact .inl (inA ha).2.1
    · exact q
  · obtain ⟨v, a, b⟩ := R.va i d e
    exact ⟨v, a, b.mono s⟩
  · obtain ⟨p, a, b, f⟩ := h1 i c e o
    have hh : ∀ y ∈ fp i, H' y = H y ∧ F' y = none := fun y hy => by
      have ay : A y := ⟨i, c, e, o, hy⟩
      have g3 := (inA ay).2.2
      cases q : H y with
      | none => exact absurd q g3
      | some u =>
        have m : ownM M H A y = some u := by
          unfold ownM
          rw [if_pos ay]
          exact q
        refine ⟨z.mh _ _ m, ?_⟩
        cases r : F' y with
        | none => rfl
        | some t =>
          rcases z.fm y t r with m' | ⟨x1, y1, m'⟩
          · rw [m'] at m
            cases m
          · rw [m'] at m
            cases m
            exact absurd q (b.nf y hy x1 y1)
    refine ⟨p, a, b.keep s fun y hy => (hh y hy).1, fun y hy => ?_⟩
    obtain ⟨g1, g2, g3⟩ := f y hy
    exact ⟨(hh y hy).2, g2, by rw [(hh y hy).1]; exact g3⟩
theorem ev_call {R : List D → D → Prop} (G : DefOk X.prog X.w X.K X.mg X.base x k ps (spD X.K R)) (hr : Room k X.A) (hg : Gl X x) (ha : EvA X (e :: es) ρ ds ρ1) (h : R ds d) (hdb : (x == ("__debug__" : Str)) = false := by decide)
    (he : starEach (e :: es) X.env = (false, eval e X.env) :: starEach es X.env := by rfl) (hpl : (backTo pos (starEach es X.env)).any (·.1) = false := by rfl) : Ev X (.Call (.Name x p) (e :: es) [] pos) ρ d ρ1 := by
  obtain ⟨f, fd, gm, kp, b, F⟩ := G
  refine pe_imp (pe_call F hr hg gm kp b .nil (E := E0) pass0 ha hdb he hpl) fun σ H Q ⟨M, F, R, q⟩ => ⟨M, F, R, fun F1 H1 vs s1 R1 l => ?_⟩
  obtain ⟨M', z, back⟩ := R1.toCall
  exact ⟨M', F1, ds, d, h, z, by rw [List.append_nil]; exact l, fun F2 H2 v s2 z2 iv => q F2 H2 v (s1.trans s2) (back F2 H2 s2 z2) iv⟩
/-- one's own list given to a def that changes it -/
theorem ev_callM {R : List D → List D → D → List D → Prop} {y : Str} {py : Pos} {i : Nat} {r : Addr} {ds0 ds1 : List D} (G : DefOk X.prog X.w X.K X.mg X.base x k ps (spM X.K R)) (hr : Room k X.A) (hg : Gl X x) (hN : X.N[i]? = some y) (hv : Vis X.env.scope y) (ha : EvA X es ρ ds ρ) (h0 : ρ[i]? = some (.mr r ds0)) (h : R ds0 ds d ds1)
    (hdb : (x == ("__debug__" : Str)) = false := by decide) (he : starEach (Expr.Name y py :: es) X.env = (false, eval (Expr.Name y py) X.env) :: starEach es X.env := by rfl) (hpl : (backTo pos (starEach es X.env)).any (·.1) = false := by rfl) (hd : (y == ("__debug__" : Str)) = false := by decide) (hcd : (y == ("__classdict__" : Str)) = false := by decide) :
    Ev X (.Call (.Name x p) (.Name y py :: es) [] pos) ρ d (ρ.set i (.mr r ds1)) := by
  obtain ⟨f, fd, gm, kp, b, F⟩ := G
  refine pe_imp (pe_call F hr hg gm kp b .nil (E := E0) pass0 (pa_cons (pe_var hN hv hd hcd) ha he) hdb he hpl) fun σ H Q ⟨M, F, R, q⟩ => ?_
  obtain ⟨p, xs, hs, hp, l0, f1, m1⟩ := R.asL h0 rfl
  refine ⟨_, hs, M, F, R, fun F1 H1 vs s1 R1 l => ?_⟩
  obtain ⟨p', xs1, hs1, hp1, l1, f2, m2⟩ := R1.asL h0 rfl
  rw [hs] at hs1
  cases hs1
  have pr : p = r := by
    obtain ⟨fp, g1, _⟩ := R1.ow
    obtain ⟨p2, hs2, ⟨_, e2, _⟩, _⟩ := g1 i _ h0 rfl
    rw [hs] at hs2
    cases hs2
    exact e2.symm
  subst pr
  have R2 : Rl X.K M (ρ.set i .un) F1 σ H1 := R1.weak ⟨by rw [List.length_set], fun j c e => by
    by_cases hj : i = j
    · subst hj
      rw [List.getElem?_set] at e
      simp only [if_true] at e
      split at e
      · exact .inl (Option.some.inj e).symm
      · cases e
    · rw [List.getElem?_set_ne hj] at e
      exact .inr e⟩
  obtain ⟨fp, g1, g2⟩ := R1.ow
  obtain ⟨p2, hs2, ⟨hA, _, _⟩, hf⟩ := g1 i _ h0 rfl
  have apart : ∀ (j : Nat) c, j ≠ i → ρ[j]? = some c → c.own = true → p ∉ fp j := fun j c hj e o hm => g2 j i c _ hj e o h0 rfl p hm (by
    rw [hs] at hs2
    cases hs2
    rw [hA]
    exact List.mem_singleton.mpr rfl)
  let A : Addr → Prop := fun a => ∃ (j : Nat) (c : C), j ≠ i ∧ ρ[j]? = some c ∧ c.own = true ∧ a ∈ fp j
  have inA : ∀ {a}, A a → F1 a = none ∧ M a = none ∧ H1 a ≠ none := fun {a} ⟨j, c, _, e, o, ha⟩ => (g1 j c e o).elim fun p q => q.2.2 a ha
  have pA : ¬ A p := fun ⟨j, c, hj, e, o, hm⟩ => apart j c hj e o hm
  refine ⟨ownM M H1 A, F1, p, xs1, vs, ds0, ds, d, ds1, by rw [List.append_nil], h, ⟨R1.z.le, fun a u e => ?_, fun a u e => ?_, R1.z.tp⟩, hp1, l1, f2, ?_, l, fun F2 H2 v xs2 s2 z f3 h3 l3 iv => ?_⟩
  · unfold ownM at e
    split at e
    · exact e
    · exact R1.z.mh _ _ e
  · unfold ownM
    split
    · rename_i ha
      rw [(inA ha).1] at e
      cases e
    · exact R1.z.fm a u e
  · unfold ownM
    rw [if_neg pA]
    exact m2
  · refine q F2 H2 v (s1.trans s2) ⟨⟨z.le, fun a u e => ?_, fun a u e => ?_, z.tp⟩, by rw [List.length_set]; exact R1.len, fun j d' e => ?_, fp, fun j c e o => ?_, fun j k cj ck hne e1 o1 e2 o2 => ?_⟩ iv
    · refine z.mh _ _ ?_
      unfold ownM
      split
      · rename_i ha
        rw [(inA ha).2.1] at e
        cases e
      · exact e
    · have q := z.fm a u e
      unfold ownM at q
      split at q
      · rename_i ha
        exact .inl (inA ha).2.1
      · exact q
    · by_cases hj : i = j
      · subst hj
        rw [List.getElem?_set] at e
        simp only [if_true] at e
        split at e
        · cases e
        · cases e
      · rw [List.getElem?_set_ne hj] at e
        obtain ⟨v, a, b⟩ := R1.va j d' e
        exact ⟨v, a, b.mono s2⟩
    · by_cases hj : i = j
      · subst hj
        rw [List.getElem?_set] at e
        simp only [if_true] at e
        split at e
        · cases e
          rw [hs] at hs2
          cases hs2
          refine ⟨_, hs, ⟨hA, rfl, xs2, h3, l3⟩, fun y hy => ?_⟩
          rw [hA] at hy
          rw [List.mem_singleton.mp hy]
          exact ⟨f3, m2, by rw [h3]; simp⟩
        · cases e
      · rw [List.getElem?_set_ne hj] at e
        obtain ⟨p', a, b, f⟩ := g1 j c e o
        have hh : ∀ y ∈ fp j, H2 y = H1 y ∧ F2 y = none := fun y hy => by
          have ay : A y := ⟨j, c, fun z => hj z.symm, e, o, hy⟩
          have g3 := (inA ay).2.2
          cases q : H1 y with
          | none => exact absurd q g3
          | some u =>
            have m : ownM M H1 A y = some u := by
              unfold ownM
              rw [if_pos ay]
              exact q
            refine ⟨z.mh _ _ m, ?_⟩
            cases r : F2 y with
            | none => rfl
            | some t =>
              rcases z.fm y t r with m' | ⟨x1, y1, m'⟩
              · rw [m'] at m
                cases m
              · rw [m'] at m
                cases m
                exact absurd q (b.nf y hy x1 y1)
        refine ⟨p', a, b.keep s2 fun y hy => (hh y hy).1, fun y hy => ?_⟩
        obtain ⟨k1, k2, k3⟩ := f y hy
        exact ⟨(hh y hy).2, k2, by rw [(hh y hy).1]; exact k3⟩
    · have old : ∀ {j : Nat} {c : C}, (ρ.set i (.mr p ds1))[j]? = some c → c.own = true → ∃ c', ρ[j]? = some c' ∧ c'.own = true := fun {j c} e o => by
        by_cases hj : i = j
        · subst hj
          exact ⟨_, h0, rfl⟩
        · rw [List.getElem?_set_ne hj] at e
          exact ⟨c, e, o⟩
      obtain ⟨c1, e1', o1'⟩ := old e1 o1
      obtain ⟨c2, e2', o2'⟩ := old e2 o2
      exact g2 j k c1 c2 hne e1' o1' e2' o2'
end
end K8
/-! The layer: dicts, isinstance. -/
namespace K8
open PySem PySem.Spec PyProof.Rows L2

def dgetD (ks : List (List Int)) (ds : List D) (w : List Int) : Option D := ((ks.zip ds).find? fun p => decide (p.1 = w)).map (·.2)
def dputK (ks : List (List Int)) (w : List Int) : List (List Int) := if w ∈ ks then ks else ks ++ [w]
def dputV (ks : List (List Int)) (ds : List D) (w : List Int) (d : D) : List D := if w ∈ ks then (ks.zip ds).map (fun p => if p.1 = w then d else p.2) else ds ++ [d]
theorem inl_inj {a b : List Int} (e : a.map (Sum.inl : Int → Key) = b.map Sum.inl) : a = b := by
  induction a generalizing b with
  | nil => cases b with
    | nil => rfl
    | cons => simp at e
  | cons x a ih =>
    cases b with
    | nil => simp at e
    | cons y b =>
      simp only [List.map_cons, List.cons.injEq] at e
      rw [ih e.2, Sum.inl.inj e.1]
section
variable {K : PySem.W.Frag} {F : Hp}
theorem dget_val : ∀ {kvs : List (List Key × V)} {ks : List (List Int)} {ds : List D} (w : List Int), kvs.map (·.1) = ks.map (·.map Sum.inl) → IsL K F (kvs.map (·.2)) ds →
    (∀ d, dgetD ks ds w = some d → ∃ v, valV kvs (w.map Sum.inl) = some v ∧ Is K F v d) ∧ (dgetD ks ds w = none → valV kvs (w.map Sum.inl) = none)
  | [], [], _, w, _, .nil => ⟨fun d h => (by cases h), fun _ => rfl⟩
  | [], _ :: _, _, _, e, _ => by simp at e
  | _ :: _, [], _, _, e, _ => by simp at e
  | kv :: kvs, k :: ks, _, w, e, .cons h l => by
    simp only [List.map_cons, List.cons.injEq] at e
    obtain ⟨e1, e2⟩ := e
    rename_i d0 ds
    obtain ⟨i1, i2⟩ := dget_val w e2 l
    unfold dgetD at i1 i2 ⊢
    rw [List.zip_cons_cons, List.find?_cons]
    by_cases hk : k = w
    · subst hk
      rw [decide_eq_true rfl]
      refine ⟨fun d hd => ?_, fun hd => (by cases hd)⟩
      cases hd
      exact ⟨kv.2, valV_pos e1, h⟩
    · rw [decide_eq_false hk]
      have hne : ¬ kv.1 = w.map Sum.inl := fun z => hk (inl_inj (e1.symm.trans z))
      rw [valV_neg hne]
      exact ⟨i1, i2⟩
theorem key_mem {kvs : List (List Key × V)} {ks : List (List Int)} (w : List Int) (e : kvs.map (·.1) = ks.map (·.map Sum.inl)) : (kvs.any fun kv => decide (kv.1 = w.map Sum.inl)) = decide (w ∈ ks) := by
  have h : (kvs.any fun kv => decide (kv.1 = w.map Sum.inl)) = ((kvs.map (·.1)).any fun k => decide (k = w.map Sum.inl)) := by rw [List.any_map]; rfl
  rw [h, e, List.any_map]
  by_cases hw : w ∈ ks
  · rw [decide_eq_true hw, List.any_eq_true]
    exact ⟨w, hw, by simp⟩
  · rw [decide_eq_false hw, List.any_eq_false]
    intro k hk
    simp only [Function.comp_apply, decide_eq_true_eq]
    intro z
    rw [inl_inj z] at hk
    exact hw hk
theorem isSome_mem {kvs : List (List Key × V)} {ks : List (List Int)} (w : List Int) (e : kvs.map (·.1) = ks.map (·.map Sum.inl)) : (valV kvs (w.map Sum.inl)).isSome = decide (w ∈ ks) := by
  rw [← valV_any]
  exact key_mem w e
theorem dput_keys {kvs : List (List Key × V)} {ks : List (List Int)} (w : List Int) (v : V) (e : kvs.map (·.1) = ks.map (·.map Sum.inl)) : (putK kvs (w.map Sum.inl) v).map (·.1) = (dputK ks w).map (·.map Sum.inl) := by
  unfold putK dputK
  rw [key_mem w e]
  by_cases hw : w ∈ ks
  · rw [decide_eq_true hw, if_pos rfl, if_pos hw, ← e, List.map_map]
    apply List.map_congr_left
    intro kv _
    simp only [Function.comp_apply]
    split
    · rename_i z; exact z.symm ▸ rfl
    · rfl
  · rw [decide_eq_false hw, if_neg hw]
    simp [e]
theorem dput_vals : ∀ {kvs : List (List Key × V)} {ks : List (List Int)} {ds : List D} (w : List Int) {v : V} {d : D}, kvs.map (·.1) = ks.map (·.map Sum.inl) → IsL K F (kvs.map (·.2)) ds → Is K F v d → IsL K F ((putK kvs (w.map Sum.inl) v).map (·.2)) (dputV ks ds w d) := by
  intro kvs ks ds w v d e l iv
  unfold putK dputV
  rw [key_mem w e]
  by_cases hw : w ∈ ks
  · rw [decide_eq_true hw, if_pos rfl, if_pos hw]
    clear hw
    induction kvs generalizing ks ds with
    | nil =>
      cases ks with
      | nil => exact .nil
      | cons => simp at e
    | cons kv kvs ih =>
      cases ks with
      | nil => simp at e
      | cons k ks =>
        simp only [List.map_cons, List.cons.injEq] at e
        obtain ⟨e1, e2⟩ := e
        cases l with
        | cons h l =>
          rw [List.zip_cons_cons, List.map_cons, List.map_cons, List.map_cons]
          refine .cons ?_ (ih e2 l)
          by_cases hk : k = w
          · subst hk
            rw [if_pos e1]
            simpa using iv
          · have hne : ¬ kv.1 = w.map Sum.inl := fun z => hk (inl_inj (e1.symm.trans z))
            rw [if_neg hne]
            simpa [hk] using h
  · rw [decide_eq_false hw, if_neg hw]
    simp only [Bool.false_eq_true, if_false, List.map_append, List.map_cons, List.map_nil]
    exact l.append (.one iv)
end
theorem map_kV (w : List Int) : (w.map (Sum.inl : Int → Key)).map kV = w.map V.int := by rw [List.map_map]; rfl
theorem Is.key {K : PySem.W.Frag} {F : Hp} {v : V} {w : List Int} (h : Is K F v (.tup (w.map D.int))) : ∃ b, v = .ref b ∧ F b = some (.tup ((w.map (Sum.inl : Int → Key)).map kV)) := by
  cases h with
  | tup h1 l =>
    have e := l.ints
    subst e
    exact ⟨_, rfl, by rw [map_kV]; exact h1⟩
section
variable {X : Cx} {e b : Expr} {pos p : Pos} {ρ ρ1 ρ2 : List C} {d : D} {ds : List D} {ks : List (List Int)} {w : List Int} {k : Nat} {i : Nat} {x : Str} {px : Pos} {c0 : C}
/-- k in d, d an own dict -/
theorem evB_inO (i : Nat) (hr : Room k X.A) (hN : X.N[i]? = some x) (hv : Vis X.env.scope x) (he : Ev X e ρ (.tup (w.map D.int)) ρ1) (h1 : ρ1[i]? = some (.md ks ds)) (hd : (x == ("__debug__" : Str)) = false := by decide) (hcd : (x == ("__classdict__" : Str)) = false := by decide)
    (hb : behindInMarks .In (.Name x px) = false := by rfl) : EvB X (.Compare e [.In] [.Name x px] pos) ρ (decide (w ∈ ks)) ρ1 :=
  pt_imp (pt_cmp (pc_din (hu_of hr) he (pe_var hN hv hd hcd)) hb) fun σ H Q ⟨M, F, R, q⟩ => ⟨M, F, R, fun F1 H1 v s1 R1 iv => by
    obtain ⟨pd, kvs, hs, hp, e1, l, _⟩ := R1.md h1
    obtain ⟨bk, rfl, hb'⟩ := iv.key
    refine ⟨_, hs, pd, _, rfl, .t hp (R1.z.le.tup hb'), _, rfl, ?_⟩
    rw [isSome_mem w e1]
    exact q F1 H1 s1 R1⟩
theorem evB_ninO (i : Nat) (hr : Room k X.A) (hN : X.N[i]? = some x) (hv : Vis X.env.scope x) (he : Ev X e ρ (.tup (w.map D.int)) ρ1) (h1 : ρ1[i]? = some (.md ks ds)) (hd : (x == ("__debug__" : Str)) = false := by decide) (hcd : (x == ("__classdict__" : Str)) = false := by decide)
    (hb : behindInMarks .NotIn (.Name x px) = false := by rfl) : EvB X (.Compare e [.NotIn] [.Name x px] pos) ρ (!decide (w ∈ ks)) ρ1 :=
  pt_imp (pt_cmp (pc_dnotin (hu_of hr) he (pe_var hN hv hd hcd)) hb) fun σ H Q ⟨M, F, R, q⟩ => ⟨M, F, R, fun F1 H1 v s1 R1 iv => by
    obtain ⟨pd, kvs, hs, hp, e1, l, _⟩ := R1.md h1
    obtain ⟨bk, rfl, hb'⟩ := iv.key
    refine ⟨_, hs, pd, _, rfl, .t hp (R1.z.le.tup hb'), _, rfl, ?_⟩
    rw [isSome_mem w e1]
    exact q F1 H1 s1 R1⟩
theorem isSome_get {K : PySem.W.Frag} {F : Hp} : True := trivial
/-- d[k], d an own dict -/
theorem ev_getO (i : Nat) (hr : Room k X.A) (hN : X.N[i]? = some x) (hv : Vis X.env.scope x) (he : Ev X e ρ (.tup (w.map D.int)) ρ1) (h0 : ρ[i]? = some (.md ks ds)) (h1 : ρ1[i]? = some (.md ks ds)) (hg : dgetD ks ds w = some d) (hs' : NoSl e := by exact fun _ _ => rfl) (hd : (x == ("__debug__" : Str)) = false := by decide) (hcd : (x == ("__classdict__" : Str)) = false := by decide) :
    Ev X (.Subscript (.Name x px) e pos) ρ d ρ1 :=
  pe_imp (pe_dget (hu_of hr) (pe_var hN hv hd hcd) he hs') fun σ H Q ⟨M, F, R, q⟩ => by
    obtain ⟨pd0, kvs0, hs0, _⟩ := R.md h0
    refine ⟨_, hs0, M, F, R, fun F1 H1 v s1 R1 iv => ?_⟩
    obtain ⟨pd, kvs, hs, hp, e1, l, _⟩ := R1.md h1
    rw [hs0] at hs
    cases hs
    obtain ⟨bk, rfl, hb'⟩ := iv.key
    obtain ⟨u, ev, iu⟩ := (dget_val w e1 l).1 d hg
    refine ⟨_, u, rfl, ?_, q F1 H1 u s1 R1 iu⟩
    rw [← ev]
    exact .t hp (R1.z.le.tup hb')
/-- k in d, d[k], d frozen -/
theorem dget_rd {H : Hp} {a b : Addr} {kvs : List (List Key × V)} {k : List Key} (e : Rd H a (.dT kvs)) (eb : H b = some (.tup (k.map kV))) : DGet H a (.ref b) (valV kvs k) := .inr ⟨kvs, k, b, e, rfl, eb, rfl⟩
theorem evB_in (hr : Room k X.A) (he : Ev X e ρ (.tup (w.map D.int)) ρ1) (hb : Ev X b ρ1 (.dic ks ds) ρ2) (hb' : behindInMarks .In b = false := by rfl) : EvB X (.Compare e [.In] [b] pos) ρ (decide (w ∈ ks)) ρ2 :=
  pt_imp (pt_cmp (pc_din (hu_of hr) he hb) hb') fun σ H Q ⟨M, F, R, q⟩ => ⟨M, F, R, fun F1 H1 v s1 R1 iv => ⟨M, F1, R1, fun F2 H2 u s2 R2 iu => by
    obtain ⟨bk, rfl, hb'⟩ := (iv.mono s2).key
    cases iu with
    | dic g1 g2 g3 =>
      refine ⟨_, _, rfl, dget_rd (R2.z.le.dT g1) (R2.z.le.tup hb'), _, rfl, ?_⟩
      rw [isSome_mem w g2]
      exact q F2 H2 (s1.trans s2) R2⟩⟩
theorem evB_nin (hr : Room k X.A) (he : Ev X e ρ (.tup (w.map D.int)) ρ1) (hb : Ev X b ρ1 (.dic ks ds) ρ2) (hb' : behindInMarks .NotIn b = false := by rfl) : EvB X (.Compare e [.NotIn] [b] pos) ρ (!decide (w ∈ ks)) ρ2 :=
  pt_imp (pt_cmp (pc_dnotin (hu_of hr) he hb) hb') fun σ H Q ⟨M, F, R, q⟩ => ⟨M, F, R, fun F1 H1 v s1 R1 iv => ⟨M, F1, R1, fun F2 H2 u s2 R2 iu => by
    obtain ⟨bk, rfl, hb'⟩ := (iv.mono s2).key
    cases iu with
    | dic g1 g2 g3 =>
      refine ⟨_, _, rfl, dget_rd (R2.z.le.dT g1) (R2.z.le.tup hb'), _, rfl, ?_⟩
      rw [isSome_mem w g2]
      exact q F2 H2 (s1.trans s2) R2⟩⟩
theorem ev_get (hr : Room k X.A) (hb : Ev X b ρ (.dic ks ds) ρ1) (he : Ev X e ρ1 (.tup (w.map D.int)) ρ2) (hg : dgetD ks ds w = some d) (hs' : NoSl e := by exact fun _ _ => rfl) : Ev X (.Subscript b e pos) ρ d ρ2 :=
  pe_imp (pe_dget (hu_of hr) hb he hs') fun σ H Q ⟨M, F, R, q⟩ => ⟨M, F, R, fun F1 H1 v s1 R1 iv => ⟨M, F1, R1, fun F2 H2 u s2 R2 iu => by
    obtain ⟨bk, rfl, hb'⟩ := iu.key
    cases iv.mono s2 with
    | dic g1 g2 g3 =>
      obtain ⟨u, ev, iu⟩ := (dget_val w g2 g3).1 d hg
      refine ⟨_, u, rfl, ?_, q F2 H2 u (s1.trans s2) R2 iu⟩
      rw [← ev]
      exact dget_rd (R2.z.le.dT g1) (R2.z.le.tup hb')⟩⟩
/-- one object of one's own, by what stands at its address: laid, written -/
theorem Rl.ownO {K : PySem.W.Frag} {M F H : Hp} {σ : St} {q : Addr} {o : HO} {c : C} (R : Rl K M ρ F σ H) (hp : H q = none) (oc : c.own = true) (hc : OwnAt K F (upd H q o) c q [q]) (ht : ∀ xs, o ≠ .tup xs := by intro xs h; cases h) : Rl K M (ρ ++ [c]) F (σ ++ [some (.ref q)]) (upd H q o) := by
  have R1 : Rl K (upd M q o) ρ F σ (upd H q o) := R.giveM hp ht
  obtain ⟨fp, h1, h2⟩ := R1.ow
  have hM : M q = none := by
    cases z : M q with
    | none => rfl
    | some w => rw [R.z.mh _ _ z] at hp; cases hp
  have nin : ∀ {j : Nat} {c : C}, ρ[j]? = some c → c.own = true → q ∉ fp j := fun {j c} e q' hm => by
    obtain ⟨_, _, _, f⟩ := h1 j c e q'
    have g := (f q hm).2.1
    rw [upd_same] at g
    cases g
  have key : ∀ {j : Nat} {x : C}, (ρ ++ [c])[j]? = some x → (j < ρ.length ∧ ρ[j]? = some x) ∨ (j = ρ.length ∧ x = c) := fun {j x} e => by
    by_cases hj : j < ρ.length
    · rw [List.getElem?_append_left hj] at e
      exact .inl ⟨hj, e⟩
    · have hb := (List.getElem?_eq_some_iff.mp e).1
      simp only [List.length_append, List.length_cons, List.length_nil] at hb
      have ej : j = ρ.length := by omega
      subst ej
      simp at e
      exact .inr ⟨rfl, e.symm⟩
  have oldS : ∀ {j : Nat}, j < ρ.length → (σ ++ [some (V.ref q)])[j]? = σ[j]? := fun {j} e => List.getElem?_append_left (by rw [← R.len]; exact e)
  refine ⟨R.z.lay hp ht, by simp [R.len], fun j d e => ?_, fun j => if j = ρ.length then [q] else fp j, fun j x e o' => ?_, fun j k cj ck hne e1 o1 e2 o2 => ?_⟩
  · rcases key e with ⟨hj, e'⟩ | ⟨_, x⟩
    · obtain ⟨v, a, b⟩ := R.va j d e'
      exact ⟨v, by rw [oldS hj]; exact a, b⟩
    · rw [← x] at oc
      cases oc
  · rcases key e with ⟨hj, e'⟩ | ⟨rfl, rfl⟩
    · obtain ⟨q', a, b, f⟩ := h1 j x e' o'
      refine ⟨q', by rw [oldS hj]; exact a, ?_⟩
      have hn : j ≠ ρ.length := Nat.ne_of_lt hj
      simp only [if_neg hn]
      refine ⟨b, fun y hy => ?_⟩
      obtain ⟨g1, g2, g3⟩ := f y hy
      have hy' : y ≠ q := fun z => nin e' o' (by rw [← z]; exact hy)
      rw [upd_ne hy'] at g2
      exact ⟨g1, g2, g3⟩
    · refine ⟨q, by rw [R.len]; simp, ?_⟩
      simp only [if_true]
      refine ⟨hc, fun y hy => ?_⟩
      rw [List.mem_singleton.mp hy]
      exact ⟨R.freeP hp, hM, by rw [upd_same]; simp⟩
  · rcases key e1 with ⟨hj, e1'⟩ | ⟨rfl, x1⟩
    · have hn : j ≠ ρ.length := Nat.ne_of_lt hj
      rcases key e2 with ⟨hk, e2'⟩ | ⟨rfl, x2⟩
      · have hn2 : k ≠ ρ.length := Nat.ne_of_lt hk
        simp only [if_neg hn, if_neg hn2]
        exact h2 j k cj ck hne e1' o1 e2' o2
      · simp only [if_neg hn, if_true]
        intro y hy hm
        rw [List.mem_singleton.mp hm] at hy
        exact nin e1' o1 hy
    · rcases key e2 with ⟨hk, e2'⟩ | ⟨rfl, x2⟩
      · have hn2 : k ≠ ρ.length := Nat.ne_of_lt hk
        simp only [if_neg hn2, if_true]
        intro y hy hm
        rw [List.mem_singleton.mp hy] at hm
        exact nin e2' o2 hm
      · exact absurd rfl hne
theorem Rl.wrO {K : PySem.W.Frag} {M F H : Hp} {σ : St} {i : Nat} {c c' : C} {q : Addr} {o : HO} (R : Rl K M ρ F σ H) (hc : ρ[i]? = some c) (oc : c.own = true) (oc' : c'.own = true) (hs : σ[i]? = some (some (.ref q))) (h1 : ∀ A, OwnAt K F H c q A → A = [q]) (hn : OwnAt K F (upd H q o) c' q [q]) (ht : ∀ xs, o ≠ .tup xs := by intro xs h; cases h) :
    Rl K M (ρ.set i c') F σ (upd H q o) := by
  obtain ⟨fp, g1, h2⟩ := R.ow
  obtain ⟨q', hs', oa, hf⟩ := g1 i c hc oc
  rw [hs] at hs'
  cases hs'
  have hA : fp i = [q] := h1 _ oa
  obtain ⟨f1, f2, f3⟩ := hf q (by rw [hA]; exact List.mem_singleton.mpr rfl)
  have hil : i < ρ.length := (List.getElem?_eq_some_iff.mp hc).1
  have key : ∀ {j : Nat} {x : C}, (ρ.set i c')[j]? = some x → (j = i ∧ x = c') ∨ (j ≠ i ∧ ρ[j]? = some x) := fun {j x} e => by
    by_cases hj : i = j
    · subst hj
      rw [List.getElem?_set_self hil] at e
      exact .inl ⟨rfl, (Option.some.inj e).symm⟩
    · rw [List.getElem?_set_ne hj] at e
      exact .inr ⟨fun x => hj x.symm, e⟩
  refine ⟨⟨fun a u e => ?_, fun a u e => ?_, R.z.fm, R.z.tpu ht⟩, by rw [List.length_set]; exact R.len, fun j d' e => ?_, fp, fun j x e o' => ?_, fun j k cj ck hne e1 o1 e2 o2 => ?_⟩
  · have ha : a ≠ q := fun x => by rw [x, f1] at e; cases e
    rw [upd_ne ha]
    exact R.z.le a u e
  · rw [upd_ne (ne_of_none e f2)]
    exact R.z.mh _ _ e
  · rcases key e with ⟨_, x⟩ | ⟨_, e'⟩
    · rw [← x] at oc'
      cases oc'
    · exact R.va j d' e'
  · rcases key e with ⟨rfl, x⟩ | ⟨hj, e'⟩
    · subst x
      refine ⟨q, hs, by rw [hA]; exact hn, fun y hy' => ?_⟩
      rw [hA] at hy'
      rw [List.mem_singleton.mp hy']
      exact ⟨f1, f2, by rw [upd_same]; simp⟩
    · obtain ⟨w, a, b, c2⟩ := g1 j x e' o'
      have hn : ∀ y ∈ fp j, y ≠ q := fun y hy' z => h2 j i x c hj e' o' hc oc y hy' (by rw [z, hA]; exact List.mem_singleton.mpr rfl)
      refine ⟨w, a, b.keep (Same.refl _) fun y hy' => upd_ne (hn y hy'), fun y hy' => ?_⟩
      obtain ⟨k1, k2, k3⟩ := c2 y hy'
      exact ⟨k1, k2, by rw [upd_ne (hn y hy')]; exact k3⟩
  · rcases key e1 with ⟨rfl, _⟩ | ⟨n1, e1'⟩
    · rcases key e2 with ⟨rfl, _⟩ | ⟨n2, e2'⟩
      · exact absurd rfl hne
      · exact h2 _ k c ck hne hc oc e2' o2
    · rcases key e2 with ⟨rfl, _⟩ | ⟨n2, e2'⟩
      · exact h2 j _ cj c hne e1' o1 hc oc
      · exact h2 j k cj ck hne e1' o1 e2' o2
theorem evN_dict : EvN X (.Dict [] [] pos) ρ (.md [] []) ρ :=
  pe_imp pe_dnewT fun σ H Q ⟨M, F, R, q⟩ => fun p hp => q F _ p (Same.refl _) (R.ownO (c := .md [] []) hp rfl ⟨rfl, [], upd_same, rfl, .nil⟩)
/-- d[k] = v, d an own dict -/
theorem run_put (i : Nat) {sp : Pos} {ρ3 : List C} {ks1 : List (List Int)} {ds1 : List D} (hr : Room k X.A) (hN : X.N[i]? = some x) (hv : Vis X.env.scope x) (hb : Ev X b ρ d ρ1) (he : Ev X e ρ1 (.tup (w.map D.int)) ρ2) (h0 : ρ1[i]? = some (.md ks1 ds1)) (h1 : ρ2[i]? = some (.md ks ds)) (hz : ks.length < sizeLine)
    (hs' : swapsWith b (some (.Subscript (.Name x px) e sp)) pos.line X.env = pure false := by rfl) (hd : (x == ("__debug__" : Str)) = false := by decide) (hcd : (x == ("__classdict__" : Str)) = false := by decide) :
    Run X (.Assign [.Subscript (.Name x px) e sp] b pos) ρ (fun o => o = .nx (ρ2.set i (.md (dputK ks w) (dputV ks ds w d)))) :=
  ps_imp (ps_dput (hu_of hr) (pe_var hN hv hd hcd) he hb hs') fun E σ H ⟨M, F, R, k⟩ => ⟨M, F, R, fun F1 H1 v s1 R1 iv => by
    obtain ⟨pd0, kvs0, hs0, _⟩ := R1.md h0
    refine ⟨_, hs0, M, F1, R1, fun F2 H2 u s2 R2 iu => ?_⟩
    obtain ⟨pd, kvs, hs, hp, e1, l, _⟩ := R2.md h1
    rw [hs0] at hs
    cases hs
    obtain ⟨bk, rfl, hb'⟩ := iu.key
    have hlen : kvs.length = ks.length := by
      have := congrArg List.length e1
      simpa using this
    refine ⟨_, _, rfl, .t hp (R2.z.le.tup hb') (by rw [hlen]; exact hz), k _ rfl F2 σ _ (s1.trans s2) (R2.wrO h1 rfl rfl hs0 (fun A oa => oa.1) ⟨rfl, _, upd_same, dput_keys w v e1, dput_vals w e1 l (iv.mono s2)⟩)⟩⟩

/-! ### isinstance -/
/-- what isinstance says of data -/
def tyD : D → Option String
  | .int _ => some "int"
  | .bl _ => some "bool"
  | .str _ => some "str"
  | .non => some "NoneType"
  | .tup _ => some "tuple"
  | .lst _ => some "list"
  | _ => none
theorem Is.tyX {K : PySem.W.Frag} {F H : Hp} {v : V} {t : String} (h : Is K F v d) (l : Le F H) (ht : tyD d = some t) : TyX K H v (.type t) := by
  cases h with
  | non => cases ht; exact .base (by constructor)
  | bl b => cases ht; exact .base (by constructor)
  | int b => cases ht; exact .base (by constructor)
  | str b => cases ht; exact .base (by constructor)
  | tup h1 l1 => cases ht; exact .base (.tup (l.tup h1))
  | lst h1 l1 => cases ht; exact .base (.lst (l.lst h1))
  | _ => cases ht
theorem ev_isi {e2 : Expr} {t T : String} {r : Bool} (he : Ev X e ρ d ρ1) (h2 : Ev X e2 ρ1 (.ty T) ρ2) (ht : tyD d = some t) (hk : kitB t T = some r) (hg : Gl X "isinstance") (hm : X.mg "isinstance" = none)
    (hs : starEach [e, e2] X.env = (false, eval e X.env) :: starEach [e2] X.env := by rfl) (hs2 : starEach [e2] X.env = (false, eval e2 X.env) :: starEach [] X.env := by rfl) (hpl : (backTo pos (starEach [e2] X.env)).any (·.1) = false := by rfl) : Ev X (.Call (.Name "isinstance" p) [e, e2] [] pos) ρ (.bl r) ρ2 := by
  refine ev_callB (ds := [d, .ty T]) call_isi (fun M ρ F σ H vs Q R l k => ?_) hg hm (by decide +kernel) (evA_cons he (evA_cons h2 evA_nil hs2) hs) (he := hs) (hpl := hpl)
  cases l with
  | cons i1 l =>
    cases l with
    | cons i2 l =>
      cases l
      cases i2
      exact ⟨_, _, _, _, r, rfl, .ty T, i1.tyX R.z.le ht, kit_ty hk, k F H _ (Same.refl _) R (.bl _)⟩
/-- isinstance(x, (T1, T2)) -/
theorem ev_isi2 {e2 : Expr} {t T1 T2 : String} {r1 r2 : Bool} (he : Ev X e ρ d ρ1) (h2 : Ev X e2 ρ1 (.tup [.ty T1, .ty T2]) ρ2) (ht : tyD d = some t) (hk1 : kitB t T1 = some r1) (hk2 : kitB t T2 = some r2) (hg : Gl X "isinstance") (hm : X.mg "isinstance" = none)
    (hs : starEach [e, e2] X.env = (false, eval e X.env) :: starEach [e2] X.env := by rfl) (hs2 : starEach [e2] X.env = (false, eval e2 X.env) :: starEach [] X.env := by rfl) (hpl : (backTo pos (starEach [e2] X.env)).any (·.1) = false := by rfl) : Ev X (.Call (.Name "isinstance" p) [e, e2] [] pos) ρ (.bl (r1 || r2)) ρ2 := by
  refine ev_callB (ds := [d, .tup [.ty T1, .ty T2]]) call_isiT (fun M ρ F σ H vs Q R l k => ?_) hg hm (by decide +kernel) (evA_cons he (evA_cons h2 evA_nil hs2) hs) (he := hs) (hpl := hpl)
  cases l with
  | cons i1 l =>
    cases l with
    | cons i2 l =>
      cases l
      cases i2 with
      | tup a lt =>
        cases lt with
        | cons t1 lt =>
          cases lt with
          | cons t2 lt =>
            cases lt
            cases t1
            cases t2
            refine ⟨_, _, _, _, [.type T1, .type T2], r1 || r2, rfl, R.z.le.tup a, .cons (.ty T1) (.cons (.ty T2) .nil), i1.tyX R.z.le ht, ?_, k F H _ (Same.refl _) R (.bl _)⟩
            refine kitAny_cons (kit_ty hk1) (fun z => ?_) fun z => by rw [z]; rfl
            subst z
            exact kitAny_cons (kit_ty hk2) (fun z => by subst z; exact kitAny_nil) fun z => by subst z; rfl
end
end K8
/-! The program's defs by their places in the text. -/
namespace K8
open PySem PySem.Spec PyProof.Rows L2
def top (i : Nat) : Stmt := PySem.Challenge.pw_scatterbooks_k08_whole_one_rest_for_long.main.body.getD i (.Pass ⟨0, 0, 0, 0⟩)
abbrev s_is_in : Stmt := top 7
abbrev s_gcd : Stmt := top 8
abbrev s_reduced : Stmt := top 9
abbrev s_plus : Stmt := top 10
abbrev s_minus : Stmt := top 11
abbrev s_times : Stmt := top 12
abbrev s_over : Stmt := top 13
abbrev s_less : Stmt := top 14
abbrev s_whole : Stmt := top 15
abbrev s_is_row : Stmt := top 20
abbrev s_is_rule : Stmt := top 21
abbrev s_need_book : Stmt := top 22
abbrev s_need_word : Stmt := top 23
abbrev s_longest_rule : Stmt := top 24
abbrev s_spots_of : Stmt := top 25
abbrev s_steps_in : Stmt := top 26
abbrev s_falls : Stmt := top 27
abbrev s_changes : Stmt := top 28
abbrev s_first_tableau : Stmt := top 30
abbrev s_taken_off : Stmt := top 31
abbrev s_turned : Stmt := top 32
abbrev s_leaving : Stmt := top 33
abbrev s_solve : Stmt := top 34
abbrev s_opposites : Stmt := top 37
abbrev s_weights_of : Stmt := top 38
abbrev s_place_at : Stmt := top 39
abbrev s_at_hand : Stmt := top 40
abbrev s_spread_of : Stmt := top 41
abbrev s_closing : Stmt := top 42
abbrev s_sums_of : Stmt := top 43
abbrev s_level : Stmt := top 44
abbrev s_turn_of : Stmt := top 45
abbrev s_climb : Stmt := top 46
abbrev s_ends_in : Stmt := top 47
abbrev s_ends : Stmt := top 48
abbrev s_need_ending : Stmt := top 50
abbrev s_all_words : Stmt := top 51
abbrev s_rests_of : Stmt := top 52
abbrev s_clash_in : Stmt := top 53
abbrev s_clash : Stmt := top 54
abbrev s_has_one_rest : Stmt := top 55
abbrev s_need_one_rest : Stmt := top 56
abbrev s_rested : Stmt := top 59
abbrev s_rest : Stmt := top 60
abbrev s__law_taken : Stmt := top 62
abbrev s__law_pick : Stmt := top 63
abbrev s__law_order : Stmt := top 64
abbrev s__law_calm : Stmt := top 65
abbrev s__law_letters : Stmt := top 66
abbrev s__law_book : Stmt := top 67
abbrev s__law_last_ones : Stmt := top 68
abbrev s__law_steps : Stmt := top 69
abbrev s__law_walk : Stmt := top 70
abbrev s__law_layers : Stmt := top 71
abbrev s__law_alike : Stmt := top 72
abbrev s_law : Stmt := top 73
end K8
/-! Tools: comprehensions with one or two names, encodings of plain things as data. -/
namespace K8
open PySem PySem.Spec PyProof.Rows L2
section
variable {X : Cx} {e a b elt iter : Expr} {ifs : List Expr} {pos p p2 p3 : Pos} {ρ ρ1 ρ2 ρ3 : List C} {d : D} {ds : List D} {scope : Scope} {k : Bool}
theorem ev_v (i : Nat) {x : Str} (h : ρ[i]? = some (.va d)) (hN : X.N[i]? = some x := by rfl) (hv : Vis X.env.scope x := by first | exact .inl rfl | exact .inr (.inl rfl) | exact .inr (.inr rfl)) (hd : (x == ("__debug__" : Str)) = false := by decide) (hcd : (x == ("__classdict__" : Str)) = false := by decide) : Ev X (.Name x pos) ρ d ρ :=
  ev_var i hN hv h hd hcd
theorem ev_vF (i : Nat) {x : Str} (h : ρ[i]? = some (.ml ds)) (hN : X.N[i]? = some x := by rfl) (hv : Vis X.env.scope x := by first | exact .inl rfl | exact .inr (.inl rfl) | exact .inr (.inr rfl)) (hd : (x == ("__debug__" : Str)) = false := by decide) (hcd : (x == ("__classdict__" : Str)) = false := by decide) : Ev X (.Name x pos) ρ (.lst ds) (ρ.set i (.va (.lst ds))) :=
  ev_varF i hN hv h hd hcd
theorem evB_isNone {j : Nat} {p' : Pos} (ha : Ev X a ρ d ρ1) : EvB X (.Compare a [.Is] [.Constant .none j p'] pos) ρ d.isNon ρ1 :=
  pt_imp (pt_cmp (pc_isN ha) rfl) fun σ H Q ⟨M, F, R, q⟩ => ⟨M, F, R, fun F' H' v s R' i => by
    have q' := q F' H' s R'
    rw [← i.isNon] at q'
    exact ⟨_, rfl, q'⟩⟩
theorem evB_notNone {j : Nat} {p' : Pos} (ha : Ev X a ρ d ρ1) : EvB X (.Compare a [.IsNot] [.Constant .none j p'] pos) ρ (!d.isNon) ρ1 :=
  pt_imp (pt_cmp (pc_notN ha) rfl) fun σ H Q ⟨M, F, R, q⟩ => ⟨M, F, R, fun F' H' v s R' i => by
    have q' := q F' H' s R'
    rw [← i.isNon] at q'
    exact ⟨_, rfl, q'⟩⟩
theorem evB_chain {e : Expr} {op op' : CmpOp} {d1 d2 d3 : D} {k1 k2 : Bool} (ha : Ev X a ρ d1 ρ1) (hb : Ev X b ρ1 d2 ρ2) (hc : Ev X e ρ2 d3 ρ2) (h1 : Cop X op d1 d2 k1) (h2 : Cop X op' d2 d3 k2)
    (hm : lastMarks [op, op'] [b, e] = false := by with_unfolding_all rfl) : EvB X (.Compare a [op, op'] [b, e] pos) ρ (k1 && k2) ρ2 := by
  obtain ⟨r1, ho1, hd1⟩ := h1
  obtain ⟨r2, ho2, hd2⟩ := h2
  refine pt_imp (pt_chain ho1 ho2 ha hb hc hm) fun σ H Q ⟨M, F, R, q⟩ => ⟨M, F, R, fun F1 H1 x s1 R1 i1 => ⟨M, F1, R1, fun F2 H2 y s2 R2 i2 => ?_⟩⟩
  refine hd1 M ρ2 F2 σ H2 x y _ R2 (i1.mono s2) i2 fun F3 H3 v s3 R3 i3 => ?_
  cases i3
  refine ⟨_, rfl, ?_⟩
  cases k1 with
  | false => exact ⟨_, rfl, q F3 H3 ((s1.trans s2).trans s3) R3⟩
  | true =>
    refine ⟨M, F3, R3, fun F4 H4 z s4 R4 i4 => ?_⟩
    exact hd2 M ρ2 F4 σ H4 y z _ R4 ((i2.mono s3).mono s4) i4 fun F5 H5 w s5 R5 i5 => by
      cases i5
      exact ⟨_, rfl, q F5 H5 ((((s1.trans s2).trans s3).trans s4).trans s5) R5⟩
theorem wipe1 {j : Nat} {c : C} (ρ : List C) : wipeR (ρ.set j c) [j] = wipeR ρ [j] := by simp [wipeR]
theorem wipe2 {i j : Nat} {c c' : C} (ρ : List C) : wipeR ((ρ.set i c).set j c') [i, j] = wipeR ρ [i, j] := by
  show ((((ρ.set i c).set j c').set j .un).set i .un) = ((ρ.set j .un).set i .un)
  rw [List.set_set]
  by_cases h : i = j
  · subst h
    simp
  · rw [List.set_comm c C.un h, List.set_set]
theorem ftrue {α : Type} (l : List α) : l.filter (fun _ => true) = l := List.filter_eq_self.mpr fun _ _ => rfl
/-- a comprehension over one name -/
theorem evN_lc1 {α : Type} (l : List α) (enc : α → D) (b : α → Bool) (f : α → D) (j : Nat) {x : Str} {px : Pos} (hc : X.calm = true) (hN : X.N.Nodup) (hi : Itr' X (.Name x px) iter ρ (l.map enc) ρ1) (ok : BlkOk X.N X.env.scope scope [(x, j)]) (hl : l.length < sizeLine)
    (hj : X.N[j]? = some x) (hx : scope.names.lookup x = some .local)
    (ht : ∀ a ∈ l, ∀ X', Blk X scope X' → EvTs X' ifs (ρ1.set j (.va (enc a))) (b a) (ρ1.set j (.va (enc a))))
    (he : ∀ a ∈ l, b a = true → ∀ X', Blk X scope X' → Ev X' elt (ρ1.set j (.va (enc a))) (f a) (ρ1.set j (.va (enc a)))) (hv : ∀ c, ρ1[j]? = some c → c.own = false)
    (hs : ∀ x, foldedSetIterable iter X.env x = pure x := by intro _; rfl) : EvN X (.ListComp elt [⟨.Name x px, iter, ifs, 0⟩] scope pos) ρ (.ml ((l.filter b).map f)) ρ1 := by
  refine evN_lcP (own := [(x, j)]) l enc (fun a => ρ1.set j (.va (enc a))) b f (is := [j]) hc hN hi ok (by simp) hl (fun a _ X' hX => ?_) ht he (fun a _ => ?_) ?_ hs
  · obtain ⟨s0, H0, C0, cl0, fp0, rfl⟩ := hX
    have t := tg_name (X := X.blk s0 H0 scope (compEnvC scope cl0 C0 X.env) fp0) (pos := px) (ρ := wipeR ρ1 [j]) (d := enc a) j hN hj (.inl (lookup_relabel_local hx)) (.inr (lookup_relabel_local hx))
    simp only [wipeR, List.set_set] at t
    exact t
  · show Ge (wipeR (ρ1.set j _) [j]) (wipeR ρ1 [j])
    rw [wipe1]
    exact .refl _
  · intro i hi c hc
    simp at hi
    subst hi
    exact hv c hc
theorem evN_map1 {α : Type} (l : List α) (enc : α → D) (f : α → D) (j : Nat) {x : Str} {px : Pos} (hc : X.calm = true) (hN : X.N.Nodup) (hi : Itr' X (.Name x px) iter ρ (l.map enc) ρ1) (ok : BlkOk X.N X.env.scope scope [(x, j)]) (hl : l.length < sizeLine)
    (hj : X.N[j]? = some x) (hx : scope.names.lookup x = some .local)
    (he : ∀ a ∈ l, ∀ X', Blk X scope X' → Ev X' elt (ρ1.set j (.va (enc a))) (f a) (ρ1.set j (.va (enc a)))) (hv : ∀ c, ρ1[j]? = some c → c.own = false)
    (hs : ∀ x, foldedSetIterable iter X.env x = pure x := by intro _; rfl) : EvN X (.ListComp elt [⟨.Name x px, iter, [], 0⟩] scope pos) ρ (.ml (l.map f)) ρ1 := by
  have h := evN_lc1 (pos := pos) (ifs := []) l enc (fun _ => true) f j hc hN hi ok hl hj hx (fun a _ X' _ => evTs_nil) (fun a ha _ => he a ha) hv hs
  rw [ftrue] at h
  exact h
/-- a comprehension over two names -/
theorem evN_lc2 {α : Type} (l : List α) (e1 e2 : α → D) (b : α → Bool) (f : α → D) (i j : Nat) {x y : Str} {px py pt : Pos} {kt : Nat} (hc : X.calm = true) (hN : X.N.Nodup) (hi : Itr' X (.Tuple [.Name x px, .Name y py] kt pt) iter ρ (l.map fun a => .tup [e1 a, e2 a]) ρ1) (ok : BlkOk X.N X.env.scope scope [(x, i), (y, j)]) (hl : l.length < sizeLine)
    (hxi : X.N[i]? = some x) (hyj : X.N[j]? = some y) (hx : scope.names.lookup x = some .local) (hy : scope.names.lookup y = some .local)
    (ht : ∀ a ∈ l, ∀ X', Blk X scope X' → EvTs X' ifs ((ρ1.set i (.va (e1 a))).set j (.va (e2 a))) (b a) ((ρ1.set i (.va (e1 a))).set j (.va (e2 a))))
    (he : ∀ a ∈ l, b a = true → ∀ X', Blk X scope X' → Ev X' elt ((ρ1.set i (.va (e1 a))).set j (.va (e2 a))) (f a) ((ρ1.set i (.va (e1 a))).set j (.va (e2 a)))) (hij : i ≠ j) (hv : ∀ c, ρ1[i]? = some c → c.own = false) (hv2 : ∀ c, ρ1[j]? = some c → c.own = false)
    (hs : ∀ x, foldedSetIterable iter X.env x = pure x := by intro _; rfl) : EvN X (.ListComp elt [⟨.Tuple [.Name x px, .Name y py] kt pt, iter, ifs, 0⟩] scope pos) ρ (.ml ((l.filter b).map f)) ρ1 := by
  refine evN_lcP (own := [(x, i), (y, j)]) l (fun a => .tup [e1 a, e2 a]) (fun a => (ρ1.set i (.va (e1 a))).set j (.va (e2 a))) b f (is := [i] ++ ([j] ++ [])) hc hN hi ok (by simp) hl (fun a _ X' hX => ?_) ht he (fun a _ => ?_) ?_ hs
  · obtain ⟨s0, H0, C0, cl0, fp0, rfl⟩ := hX
    have t1 := tg_name (X := X.blk s0 H0 scope (compEnvC scope cl0 C0 X.env) fp0) (pos := px) (ρ := wipeR ρ1 [i, j]) (d := e1 a) i hN hxi (.inl (lookup_relabel_local hx)) (.inr (lookup_relabel_local hx))
    have t2 := tg_name (X := X.blk s0 H0 scope (compEnvC scope cl0 C0 X.env) fp0) (pos := py) (ρ := (wipeR ρ1 [i, j]).set i (.va (e1 a))) (d := e2 a) j hN hyj (.inl (lookup_relabel_local hy)) (.inr (lookup_relabel_local hy))
    have t := tg_tup (X := X.blk s0 H0 scope (compEnvC scope cl0 C0 X.env) fp0) (k := kt) (pos := pt) hc (tgs_cons t1 (tgs_cons t2 tgs_nil))
    have z : ((wipeR ρ1 [i, j]).set i (.va (e1 a))).set j (.va (e2 a)) = (ρ1.set i (.va (e1 a))).set j (.va (e2 a)) := by
      show (((ρ1.set j .un).set i .un).set i (C.va (e1 a))).set j (.va (e2 a)) = _
      rw [List.set_set, List.set_comm C.un _ (Ne.symm hij), List.set_set]
    rw [z] at t
    exact t
  · show Ge (wipeR ((ρ1.set i _).set j _) [i, j]) (wipeR ρ1 [i, j])
    rw [wipe2]
    exact .refl _
  · intro n hn c hc
    simp at hn
    rcases hn with rfl | rfl
    · exact hv c hc
    · exact hv2 c hc
theorem evN_map2 {α : Type} (l : List α) (e1 e2 : α → D) (f : α → D) (i j : Nat) {x y : Str} {px py pt : Pos} {kt : Nat} (hc : X.calm = true) (hN : X.N.Nodup) (hi : Itr' X (.Tuple [.Name x px, .Name y py] kt pt) iter ρ (l.map fun a => .tup [e1 a, e2 a]) ρ1) (ok : BlkOk X.N X.env.scope scope [(x, i), (y, j)]) (hl : l.length < sizeLine)
    (hxi : X.N[i]? = some x) (hyj : X.N[j]? = some y) (hx : scope.names.lookup x = some .local) (hy : scope.names.lookup y = some .local)
    (he : ∀ a ∈ l, ∀ X', Blk X scope X' → Ev X' elt ((ρ1.set i (.va (e1 a))).set j (.va (e2 a))) (f a) ((ρ1.set i (.va (e1 a))).set j (.va (e2 a)))) (hij : i ≠ j) (hv : ∀ c, ρ1[i]? = some c → c.own = false) (hv2 : ∀ c, ρ1[j]? = some c → c.own = false)
    (hs : ∀ x, foldedSetIterable iter X.env x = pure x := by intro _; rfl) : EvN X (.ListComp elt [⟨.Tuple [.Name x px, .Name y py] kt pt, iter, [], 0⟩] scope pos) ρ (.ml (l.map f)) ρ1 := by
  have h := evN_lc2 (pos := pos) (ifs := []) l e1 e2 (fun _ => true) f i j hc hN hi ok hl hxi hyj hx hy (fun a _ X' _ => evTs_nil) (fun a ha _ => he a ha) hij hv hv2 hs
  rw [ftrue] at h
  exact h

/-- y = [a comprehension over one name] -/
theorem run_lc1 {α : Type} (n : Nat) {y : Str} {py spos : Pos} (l : List α) (enc : α → D) (b : α → Bool) (f : α → D) (j : Nat) {x : Str} {px : Pos} (hc : X.calm = true) (hN : X.N.Nodup) (hy : X.N[n]? = some y) (hyl : X.env.scope.names.lookup y = some .local)
    (hsw : swapsWith (.ListComp elt [⟨.Name x px, iter, ifs, 0⟩] scope pos) (some (.Name y py)) spos.line X.env = pure true) (hi : Itr' X (.Name x px) iter ρ (l.map enc) ρ1) (ok : BlkOk X.N X.env.scope scope [(x, j)]) (hl : l.length < sizeLine)
    (hj : X.N[j]? = some x) (hx : scope.names.lookup x = some .local)
    (ht : ∀ a ∈ l, ∀ X', Blk X scope X' → EvTs X' ifs (ρ1.set j (.va (enc a))) (b a) (ρ1.set j (.va (enc a))))
    (he : ∀ a ∈ l, b a = true → ∀ X', Blk X scope X' → Ev X' elt (ρ1.set j (.va (enc a))) (f a) (ρ1.set j (.va (enc a)))) (hv : ∀ c, ρ1[j]? = some c → c.own = false)
    (hs : ∀ x, foldedSetIterable iter X.env x = pure x := by intro _; rfl) : Run X (.Assign [.Name y py] (.ListComp elt [⟨.Name x px, iter, ifs, 0⟩] scope pos) spos) ρ (fun o => o = .nx (ρ1.set n (.ml ((l.filter b).map f)))) := by
  refine run_setLcP (own := [(x, j)]) n l enc (fun a => ρ1.set j (.va (enc a))) b f (is := [j]) hc hN hy hyl hsw hi ok (by simp) hl (fun a _ X' hX => ?_) ht he (fun a _ => ?_) ?_ hs
  · obtain ⟨s0, H0, C0, cl0, fp0, rfl⟩ := hX
    have t := tg_name (X := X.blk s0 H0 scope (compEnvC scope cl0 C0 X.env) fp0) (pos := px) (ρ := wipeR ρ1 [j]) (d := enc a) j hN hj (.inl (lookup_relabel_local hx)) (.inr (lookup_relabel_local hx))
    simp only [wipeR, List.set_set] at t
    exact t
  · show Ge (wipeR (ρ1.set j _) [j]) (wipeR ρ1 [j])
    rw [wipe1]
    exact .refl _
  · intro i hi c hc
    simp at hi
    subst hi
    exact hv c hc
theorem run_map1 {α : Type} (n : Nat) {y : Str} {py spos : Pos} (l : List α) (enc : α → D) (f : α → D) (j : Nat) {x : Str} {px : Pos} (hc : X.calm = true) (hN : X.N.Nodup) (hy : X.N[n]? = some y) (hyl : X.env.scope.names.lookup y = some .local)
    (hsw : swapsWith (.ListComp elt [⟨.Name x px, iter, [], 0⟩] scope pos) (some (.Name y py)) spos.line X.env = pure true) (hi : Itr' X (.Name x px) iter ρ (l.map enc) ρ1) (ok : BlkOk X.N X.env.scope scope [(x, j)]) (hl : l.length < sizeLine)
    (hj : X.N[j]? = some x) (hx : scope.names.lookup x = some .local)
    (he : ∀ a ∈ l, ∀ X', Blk X scope X' → Ev X' elt (ρ1.set j (.va (enc a))) (f a) (ρ1.set j (.va (enc a)))) (hv : ∀ c, ρ1[j]? = some c → c.own = false)
    (hs : ∀ x, foldedSetIterable iter X.env x = pure x := by intro _; rfl) : Run X (.Assign [.Name y py] (.ListComp elt [⟨.Name x px, iter, [], 0⟩] scope pos) spos) ρ (fun o => o = .nx (ρ1.set n (.ml (l.map f)))) := by
  have h := run_lc1 (pos := pos) (py := py) (spos := spos) (ifs := []) n l enc (fun _ => true) f j hc hN hy hyl hsw hi ok hl hj hx (fun a _ X' _ => evTs_nil) (fun a ha _ => he a ha) hv hs
  rw [ftrue] at h
  exact h
/-- y = [a comprehension over two names] -/
theorem run_lc2 {α : Type} (n : Nat) {z : Str} {pz spos : Pos} (l : List α) (e1 e2 : α → D) (b : α → Bool) (f : α → D) (i j : Nat) {x y : Str} {px py pt : Pos} {kt : Nat} (hc : X.calm = true) (hN : X.N.Nodup) (hz : X.N[n]? = some z) (hzl : X.env.scope.names.lookup z = some .local)
    (hsw : swapsWith (.ListComp elt [⟨.Tuple [.Name x px, .Name y py] kt pt, iter, ifs, 0⟩] scope pos) (some (.Name z pz)) spos.line X.env = pure true) (hi : Itr' X (.Tuple [.Name x px, .Name y py] kt pt) iter ρ (l.map fun a => .tup [e1 a, e2 a]) ρ1) (ok : BlkOk X.N X.env.scope scope [(x, i), (y, j)]) (hl : l.length < sizeLine)
    (hxi : X.N[i]? = some x) (hyj : X.N[j]? = some y) (hx : scope.names.lookup x = some .local) (hy : scope.names.lookup y = some .local)
    (ht : ∀ a ∈ l, ∀ X', Blk X scope X' → EvTs X' ifs ((ρ1.set i (.va (e1 a))).set j (.va (e2 a))) (b a) ((ρ1.set i (.va (e1 a))).set j (.va (e2 a))))
    (he : ∀ a ∈ l, b a = true → ∀ X', Blk X scope X' → Ev X' elt ((ρ1.set i (.va (e1 a))).set j (.va (e2 a))) (f a) ((ρ1.set i (.va (e1 a))).set j (.va (e2 a)))) (hij : i ≠ j) (hv : ∀ c, ρ1[i]? = some c → c.own = false) (hv2 : ∀ c, ρ1[j]? = some c → c.own = false)
    (hs : ∀ x, foldedSetIterable iter X.env x = pure x := by intro _; rfl) : Run X (.Assign [.Name z pz] (.ListComp elt [⟨.Tuple [.Name x px, .Name y py] kt pt, iter, ifs, 0⟩] scope pos) spos) ρ (fun o => o = .nx (ρ1.set n (.ml ((l.filter b).map f)))) := by
  refine run_setLcP (own := [(x, i), (y, j)]) n l (fun a => .tup [e1 a, e2 a]) (fun a => (ρ1.set i (.va (e1 a))).set j (.va (e2 a))) b f (is := [i] ++ ([j] ++ [])) hc hN hz hzl hsw hi ok (by simp) hl (fun a _ X' hX => ?_) ht he (fun a _ => ?_) ?_ hs
  · obtain ⟨s0, H0, C0, cl0, fp0, rfl⟩ := hX
    have t1 := tg_name (X := X.blk s0 H0 scope (compEnvC scope cl0 C0 X.env) fp0) (pos := px) (ρ := wipeR ρ1 [i, j]) (d := e1 a) i hN hxi (.inl (lookup_relabel_local hx)) (.inr (lookup_relabel_local hx))
    have t2 := tg_name (X := X.blk s0 H0 scope (compEnvC scope cl0 C0 X.env) fp0) (pos := py) (ρ := (wipeR ρ1 [i, j]).set i (.va (e1 a))) (d := e2 a) j hN hyj (.inl (lookup_relabel_local hy)) (.inr (lookup_relabel_local hy))
    have t := tg_tup (X := X.blk s0 H0 scope (compEnvC scope cl0 C0 X.env) fp0) (k := kt) (pos := pt) hc (tgs_cons t1 (tgs_cons t2 tgs_nil))
    have z : ((wipeR ρ1 [i, j]).set i (.va (e1 a))).set j (.va (e2 a)) = (ρ1.set i (.va (e1 a))).set j (.va (e2 a)) := by
      show (((ρ1.set j .un).set i .un).set i (C.va (e1 a))).set j (.va (e2 a)) = _
      rw [List.set_set, List.set_comm C.un _ (Ne.symm hij), List.set_set]
    rw [z] at t
    exact t
  · show Ge (wipeR ((ρ1.set i _).set j _) [i, j]) (wipeR ρ1 [i, j])
    rw [wipe2]
    exact .refl _
  · intro n hn c hc
    simp at hn
    rcases hn with rfl | rfl
    · exact hv c hc
    · exact hv2 c hc
theorem run_map2 {α : Type} (n : Nat) {z : Str} {pz spos : Pos} (l : List α) (e1 e2 : α → D) (f : α → D) (i j : Nat) {x y : Str} {px py pt : Pos} {kt : Nat} (hc : X.calm = true) (hN : X.N.Nodup) (hz : X.N[n]? = some z) (hzl : X.env.scope.names.lookup z = some .local)
    (hsw : swapsWith (.ListComp elt [⟨.Tuple [.Name x px, .Name y py] kt pt, iter, [], 0⟩] scope pos) (some (.Name z pz)) spos.line X.env = pure true) (hi : Itr' X (.Tuple [.Name x px, .Name y py] kt pt) iter ρ (l.map fun a => .tup [e1 a, e2 a]) ρ1) (ok : BlkOk X.N X.env.scope scope [(x, i), (y, j)]) (hl : l.length < sizeLine)
    (hxi : X.N[i]? = some x) (hyj : X.N[j]? = some y) (hx : scope.names.lookup x = some .local) (hy : scope.names.lookup y = some .local)
    (he : ∀ a ∈ l, ∀ X', Blk X scope X' → Ev X' elt ((ρ1.set i (.va (e1 a))).set j (.va (e2 a))) (f a) ((ρ1.set i (.va (e1 a))).set j (.va (e2 a)))) (hij : i ≠ j) (hv : ∀ c, ρ1[i]? = some c → c.own = false) (hv2 : ∀ c, ρ1[j]? = some c → c.own = false)
    (hs : ∀ x, foldedSetIterable iter X.env x = pure x := by intro _; rfl) : Run X (.Assign [.Name z pz] (.ListComp elt [⟨.Tuple [.Name x px, .Name y py] kt pt, iter, [], 0⟩] scope pos) spos) ρ (fun o => o = .nx (ρ1.set n (.ml (l.map f)))) := by
  have h := run_lc2 (pos := pos) (pz := pz) (spos := spos) (ifs := []) n l e1 e2 (fun _ => true) f i j hc hN hz hzl hsw hi ok hl hxi hyj hx hy (fun a _ X' _ => evTs_nil) (fun a ha _ => he a ha) hij hv hv2 hs
  rw [ftrue] at h
  exact h
end
/-- plain things as data -/
def nD (n : Nat) : D := .int (n : Int)
def rq (q : Rat) : D := .tup [.int q.num, .int (q.den : Int)]
def wd (w : List Nat) : D := .tup (w.map nD)
theorem okn_nD {n k : Nat} : D.okn k (nD n) := okn_int
theorem okn_rq {q : Rat} {k : Nat} : D.okn (k + 1) (rq q) := by
  intro x hx
  simp at hx
  rcases hx with rfl | rfl <;> exact okn_int
theorem okn_wd {w : List Nat} {k : Nat} : D.okn (k + 1) (wd w) := by
  intro x hx
  obtain ⟨n, _, rfl⟩ := List.mem_map.mp hx
  exact okn_int
theorem okn_tup {k : Nat} {ds : List D} (h : ∀ x ∈ ds, D.okn k x) : D.okn (k + 1) (.tup ds) := h
theorem okn_lst {k : Nat} {ds : List D} (h : ∀ x ∈ ds, D.okn k x) : D.okn (k + 1) (.lst ds) := h
theorem okn_map {α : Type} {k : Nat} {l : List α} {enc : α → D} (h : ∀ a, D.okn k (enc a)) : ∀ x ∈ l.map enc, D.okn k x := by
  intro x hx
  obtain ⟨a, _, rfl⟩ := List.mem_map.mp hx
  exact h a
theorem okn_tup2 {k : Nat} {a b : D} (ha : D.okn k a) (hb : D.okn k b) : D.okn (k + 1) (.tup [a, b]) := by
  intro x hx
  simp at hx
  rcases hx with rfl | rfl
  · exact ha
  · exact hb
theorem nD_inj {a b : Nat} (h : nD a = nD b) : a = b := by
  unfold nD at h
  injection h with h
  exact_mod_cast h
theorem map_nD_inj : ∀ {a b : List Nat}, a.map nD = b.map nD → a = b := by
  intro a b h
  exact (List.map_inj_right (fun x y e => nD_inj e)).mp h
theorem wd_inj {a b : List Nat} (h : wd a = wd b) : a = b := by
  unfold wd at h
  injection h with h
  exact map_nD_inj h
theorem rq_inj {a b : Rat} (h : rq a = rq b) : a = b := by
  unfold rq at h
  injection h with h
  simp at h
  exact Rat.ext h.1 (by exact_mod_cast h.2)
theorem wd_key (w : List Nat) : wd w = .tup ((w.map (fun n : Nat => (n : Int))).map D.int) := by
  unfold wd nD
  rw [List.map_map]
  rfl
theorem beq_nil (ds : List D) (n : Nat) (h : ∀ x ∈ ds, D.okn n x) : (D.lst ds).beq (.lst []) = ds.isEmpty := by
  have e := eqv_iff (n + 1) (.lst ds) (.lst []) h (fun x hx => by cases hx)
  cases ds with
  | nil => simpa [D.beq] using e
  | cons x xs =>
    rw [Bool.eq_iff_iff]
    show PyData.eqv _ _ = true ↔ _
    rw [e]
    simp
theorem beq_nilT (ds : List D) (n : Nat) (h : ∀ x ∈ ds, D.okn n x) : (D.tup ds).beq (.tup []) = ds.isEmpty := by
  have e := eqv_iff (n + 1) (.tup ds) (.tup []) h (fun x hx => by cases hx)
  cases ds with
  | nil => simpa [D.beq] using e
  | cons x xs =>
    rw [Bool.eq_iff_iff]
    show PyData.eqv _ _ = true ↔ _
    rw [e]
    simp
theorem rt_eq {d d' : D} {ρ : List C} (h : d = d') : (∃ ρ', Out.rt d ρ = Out.rt d' ρ') ∨ d' = .non ∧ ∃ ρ', Out.rt d ρ = .nx ρ' := .inl ⟨ρ, by rw [h]⟩
theorem lst_inj {a b : List D} (h : D.lst a = .lst b) : a = b := by injection h
theorem tup_inj {a b : List D} (h : D.tup a = .tup b) : a = b := by injection h
end K8
/-! a, b = x, y with objects of one's own. -/
namespace K8
open PySem PySem.Spec PyProof.Rows L2
def C.sgl : C → Bool
  | .ml _ => true
  | .md _ _ => true
  | .mo _ _ => true
  | _ => false
section
variable {K : PySem.W.Frag} {M F F1 H H1 : Hp} {ρ ρ' ρ1 ρ2 : List C} {σ σ' : St} {p : Addr} {o o' : HO} {ds : List D} {c : C}
theorem C.sgl.own (h : c.sgl = true) : c.own = true := by cases c <;> first | rfl | cases h
theorem C.sgl.addr {A : List Addr} (h : c.sgl = true) (oa : OwnAt K F H c p A) : A = [p] := by
  cases c <;> first | exact oa.1 | cases h
theorem Rl.takeC (R : Rl K (upd M p o) ρ F σ H) (hM : M p = none) (oc : c.own = true) (hc : OwnAt K F H c p [p]) : Rl K M (ρ ++ [c]) F (σ ++ [some (.ref p)]) H := by
  obtain ⟨fp, h1, h2⟩ := R.ow
  have hH : H p = some o := R.z.mh _ _ upd_same
  have hF : F p = none := by
    cases q : F p with
    | none => rfl
    | some u =>
      rcases R.z.fm p u q with z | ⟨x, y, z⟩
      · rw [upd_same] at z
        cases z
      · rw [upd_same] at z
        rw [Option.some.inj z] at hH
        exact absurd hH (hc.nf p (by simp) x y)
  have nin : ∀ {j : Nat} {c : C}, ρ[j]? = some c → c.own = true → p ∉ fp j := fun {j c} e q hm => by
    obtain ⟨_, _, _, f⟩ := h1 j c e q
    have g := (f p hm).2.1
    rw [upd_same] at g
    cases g
  have key : ∀ {j : Nat} {x : C}, (ρ ++ [c])[j]? = some x → (j < ρ.length ∧ ρ[j]? = some x) ∨ (j = ρ.length ∧ x = c) := fun {j x} e => by
    by_cases hj : j < ρ.length
    · rw [List.getElem?_append_left hj] at e
      exact .inl ⟨hj, e⟩
    · have hb := (List.getElem?_eq_some_iff.mp e).1
      simp only [List.length_append, List.length_cons, List.length_nil] at hb
      have ej : j = ρ.length := by omega
      subst ej
      simp at e
      exact .inr ⟨rfl, e.symm⟩
  have oldS : ∀ {j : Nat}, j < ρ.length → (σ ++ [some (V.ref p)])[j]? = σ[j]? := fun {j} e => List.getElem?_append_left (by rw [← R.len]; exact e)
  refine ⟨⟨R.z.le, fun a u e => R.z.mh _ _ (by rw [upd_ne (ne_of_none e hM)]; exact e), fun a u e => ?_, R.z.tp⟩, by simp [R.len], fun j d e => ?_, fun j => if j = ρ.length then [p] else fp j, fun j x e q => ?_, fun j k cj ck hne e1 o1 e2 o2 => ?_⟩
  · have ha : a ≠ p := fun x => by rw [x, hF] at e; cases e
    have q := R.z.fm a u e
    rw [upd_ne ha] at q
    exact q
  · rcases key e with ⟨hj, e'⟩ | ⟨_, x⟩
    · obtain ⟨v, a, b⟩ := R.va j d e'
      exact ⟨v, by rw [oldS hj]; exact a, b⟩
    · rw [← x] at oc
      cases oc
  · rcases key e with ⟨hj, e'⟩ | ⟨rfl, rfl⟩
    · obtain ⟨q', a, b, f⟩ := h1 j x e' q
      refine ⟨q', by rw [oldS hj]; exact a, ?_⟩
      have hn : j ≠ ρ.length := Nat.ne_of_lt hj
      simp only [if_neg hn]
      refine ⟨b, fun y hy => ?_⟩
      obtain ⟨g1, g2, g3⟩ := f y hy
      have hy' : y ≠ p := fun z => nin e' q (by rw [← z]; exact hy)
      rw [upd_ne hy'] at g2
      exact ⟨g1, g2, g3⟩
    · refine ⟨p, by rw [R.len]; simp, ?_⟩
      simp only [if_true]
      refine ⟨hc, fun y hy => ?_⟩
      rw [List.mem_singleton.mp hy]
      exact ⟨hF, hM, by rw [hH]; simp⟩
  · rcases key e1 with ⟨hj, e1'⟩ | ⟨rfl, x1⟩
    · have hn : j ≠ ρ.length := Nat.ne_of_lt hj
      rcases key e2 with ⟨hk, e2'⟩ | ⟨rfl, x2⟩
      · simp only [if_neg hn, if_neg (Nat.ne_of_lt hk)]
        exact h2 j k cj ck hne e1' o1 e2' o2
      · simp only [if_neg hn, if_pos rfl]
        intro y hy hy'
        rw [List.mem_singleton.mp hy'] at hy
        exact nin e1' o1 hy
    · rcases key e2 with ⟨hk, e2'⟩ | ⟨rfl, x2⟩
      · simp only [if_pos rfl, if_neg (Nat.ne_of_lt hk)]
        intro y hy hy'
        rw [List.mem_singleton.mp hy] at hy'
        exact nin e2' o2 hy'
      · exact absurd rfl hne
theorem Rl.lastO (R : Rl K M (ρ ++ [c]) F (σ ++ [some (.ref p)]) H) (oc : c.sgl = true) : OwnAt K F H c p [p] ∧ F p = none ∧ M p = none ∧ ∃ o, H p = some o := by
  obtain ⟨fp, h1, h2⟩ := R.ow
  have hl : ρ.length = σ.length := by
    have e := R.len
    simp only [List.length_append, List.length_cons, List.length_nil] at e
    omega
  obtain ⟨q, a, b, f⟩ := h1 ρ.length c (by simp) (C.sgl.own oc)
  rw [hl] at a
  simp at a
  subst a
  have e := C.sgl.addr oc b
  rw [e] at b f
  obtain ⟨f1, f2, f3⟩ := f p (by simp)
  refine ⟨b, f1, f2, ?_⟩
  cases z : H p with
  | none => exact absurd z f3
  | some o => exact ⟨o, rfl⟩
/-- the newest object, put by -/
theorem Rl.park (R : Rl K M (ρ ++ [c]) F (σ ++ [some (.ref p)]) H) (oc : c.sgl = true) (ho : H p = some o) : Rl K (upd M p o) ρ F σ H := by
  obtain ⟨b, hF, hM, _⟩ := R.lastO oc
  obtain ⟨fp, h1, h2⟩ := R.ow
  have hl : ρ.length = σ.length := by
    have e := R.len
    simp only [List.length_append, List.length_cons, List.length_nil] at e
    omega
  have old : ∀ {j : Nat} {x : C}, ρ[j]? = some x → (ρ ++ [c])[j]? = some x := fun {j x} e => by
    rw [List.getElem?_append_left (List.getElem?_eq_some_iff.mp e).1]
    exact e
  have oldS : ∀ {j : Nat}, j < ρ.length → (σ ++ [some (V.ref p)])[j]? = σ[j]? := fun {j} e => List.getElem?_append_left (by omega)
  have inl : p ∈ fp ρ.length := by
    obtain ⟨q, a, b', f⟩ := h1 ρ.length c (by simp) (C.sgl.own oc)
    rw [hl] at a
    simp at a
    subst a
    rw [C.sgl.addr oc b']
    simp
  refine ⟨⟨R.z.le, fun a u e => ?_, fun a u e => ?_, R.z.tp⟩, hl, fun j d e => ?_, fp, fun j x e q => ?_, fun j k cj ck hne e1 o1 e2 o2 => h2 j k cj ck hne (old e1) o1 (old e2) o2⟩
  · by_cases ha : a = p
    · subst ha
      rw [upd_same] at e
      rw [ho]
      exact e
    · rw [upd_ne ha] at e
      exact R.z.mh _ _ e
  · have ha : a ≠ p := fun x => by rw [x, hF] at e; cases e
    rw [upd_ne ha]
    exact R.z.fm a u e
  · obtain ⟨v, a, b⟩ := R.va j d (old e)
    rw [oldS (List.getElem?_eq_some_iff.mp e).1] at a
    exact ⟨v, a, b⟩
  · obtain ⟨q', a, b, f⟩ := h1 j x (old e) q
    rw [oldS (List.getElem?_eq_some_iff.mp e).1] at a
    refine ⟨q', a, b, fun y hy => ?_⟩
    obtain ⟨g1, g2, g3⟩ := f y hy
    have hn : ρ.length ≠ j := fun z => by
      have := (List.getElem?_eq_some_iff.mp e).1
      omega
    have hy' : y ≠ p := fun z => h2 ρ.length j c x hn (by simp) (C.sgl.own oc) (old e) q p inl (by rw [← z]; exact hy)
    exact ⟨g1, by rw [upd_ne hy']; exact g2, g3⟩
/-- a datum as the newest -/
theorem Rl.push {v : V} {d : D} (R : Rl K M ρ F σ H) (i : Is K F v d) : Rl K M (ρ ++ [.va d]) F (σ ++ [some v]) H := by
  obtain ⟨fp, h1, h2⟩ := R.ow
  have key : ∀ {j : Nat} {x : C}, (ρ ++ [C.va d])[j]? = some x → (j < ρ.length ∧ ρ[j]? = some x) ∨ (j = ρ.length ∧ x = .va d) := fun {j x} e => by
    by_cases hj : j < ρ.length
    · rw [List.getElem?_append_left hj] at e
      exact .inl ⟨hj, e⟩
    · have hb := (List.getElem?_eq_some_iff.mp e).1
      simp only [List.length_append, List.length_cons, List.length_nil] at hb
      have ej : j = ρ.length := by omega
      subst ej
      simp at e
      exact .inr ⟨rfl, e.symm⟩
  have oldS : ∀ {j : Nat}, j < ρ.length → (σ ++ [some v])[j]? = σ[j]? := fun {j} e => List.getElem?_append_left (by rw [← R.len]; exact e)
  have own' : ∀ {j : Nat} {x : C}, (ρ ++ [C.va d])[j]? = some x → x.own = true → ρ[j]? = some x := fun {j x} e o => by
    rcases key e with ⟨_, e'⟩ | ⟨_, z⟩
    · exact e'
    · rw [z] at o
      cases o
  refine ⟨R.z, by simp [R.len], fun j e q => ?_, fp, fun j x e q => ?_, fun j k cj ck hne e1 o1 e2 o2 => h2 j k cj ck hne (own' e1 o1) o1 (own' e2 o2) o2⟩
  · rcases key q with ⟨hj, e'⟩ | ⟨rfl, x⟩
    · obtain ⟨v', a, b⟩ := R.va j e e'
      exact ⟨v', by rw [oldS hj]; exact a, b⟩
    · cases x
      exact ⟨v, by rw [R.len]; simp, i⟩
  · have e' := own' e q
    obtain ⟨q', a, b, f⟩ := h1 j x e' q
    exact ⟨q', by rw [oldS (List.getElem?_eq_some_iff.mp e').1]; exact a, b, f⟩
def C.fit (c : C) : Prop := c.own = true ∨ ∃ d, c = .va d
/-- the newest into a slot -/
theorem Rl.moveC {i : Nat} {v : V} (R : Rl K M (ρ ++ [c]) F (σ ++ [some v]) H) (fc : c.fit) : Rl K M (ρ.set i c) F (σ.set i (some v)) H := by
  have hl : ρ.length = σ.length := by
    have e := R.len
    simp only [List.length_append, List.length_cons, List.length_nil] at e
    omega
  rcases fc with oc | ⟨d, rfl⟩
  · obtain ⟨fp, h1, h2⟩ := R.ow
    obtain ⟨q, a, b, f⟩ := h1 ρ.length c (by simp) oc
    rw [hl] at a
    simp at a
    subst a
    exact R.move oc
  · obtain ⟨w, a, b⟩ := R.va ρ.length d (by simp)
    rw [hl] at a
    simp at a
    subst a
    exact R.drop.set b
end
section
variable {X : Cx} {a b : Expr} {pos : Pos} {ρ ρ1 ρ2 : List C} {xs : List D}
theorem ev_eq {d d' : D} (h : Ev X a ρ d ρ1) (z : d = d') : Ev X a ρ d' ρ1 := z ▸ h
theorem evN_eq {c c' : C} (h : EvN X a ρ c ρ1) (z : c = c') : EvN X a ρ c' ρ1 := z ▸ h
theorem ev_ifexpP {t : Expr} {k : Bool} {d : D} (ht : EvB X t ρ k ρ) (ha : k = true → Ev X a ρ d ρ) (hb : k = false → Ev X b ρ d ρ) : Ev X (.IfExp t a b pos) ρ d ρ := ev_ifexp ht ha hb
/-- a new list of one's own, xs n times -/
theorem evN_rep {n : Nat} (ha : Ev X a ρ (.lst xs) ρ1) (hb : Ev X b ρ1 (.int (n : Int)) ρ2) (h : xs.length * n ≤ sizeLine) (hn : n ≤ 1000000) : EvN X (.BinOp a .Mult b pos) ρ (.ml (List.replicate n xs).flatten) ρ2 :=
  pe_imp (pe_op op_rep ha hb) fun σ H Q ⟨M, F, R, q⟩ => ⟨M, F, R, fun F1 H1 x s1 R1 i1 => ⟨M, F1, R1, fun F2 H2 y s2 R2 i2 => by
    cases i1 with
    | lst h1 l1 =>
      cases i2
      refine ⟨_, _, _, rfl, rfl, R2.z.le.lst (s2 _ _ h1), by omega, by omega, by rw [l1.length, Int.toNat_natCast]; exact h, fun p hp => ?_⟩
      rw [Int.toNat_natCast]
      exact q F2 _ p (s1.trans s2) (R2.own hp ((l1.mono s2).rep n))⟩⟩
end
def tEvP (K : PySem.W.Frag) (ρ : List C) (cs : List C) (ρ' : List C) : TA := fun σ H Q => ∃ M F, Rl K M ρ F σ H ∧ ∀ F' H' vs, Same F F' → vs.length = cs.length → Rl K M (ρ' ++ cs.reverse) F' (σ ++ vs.reverse.map some) H' → Q vs H'
abbrev EvP (X : Cx) (es : List Expr) (ρ : List C) (cs : List C) (ρ' : List C) : Prop := PA X es (tEvP X.K ρ cs ρ')
section
variable {X : Cx} {e a b : Expr} {es : List Expr} {pos : Pos} {ρ ρ1 ρ2 : List C} {d : D} {c c1 c2 c3 : C} {cs : List C}
theorem evP_nil : EvP X [] ρ [] ρ := pa_imp pa_nil fun σ H Q ⟨M, F, R, q⟩ => q F H [] (Same.refl _) rfl (by simpa using R)
theorem evP_cons (ha : Ev X e ρ d ρ1) (hr : EvP X es ρ1 cs ρ2) (hs : starEach (e :: es) X.env = (false, eval e X.env) :: starEach es X.env := by rfl) : EvP X (e :: es) ρ (.va d :: cs) ρ2 :=
  pa_imp (pa_cons ha hr hs) fun σ H Q ⟨M, F, R, q⟩ => ⟨M, F, R, fun F1 H1 x s1 R1 i1 => ⟨M, F1, R1, fun F2 H2 xs s2 hl R2 => q F2 H2 (x :: xs) (s1.trans s2) (by simp [hl]) (by
    have := R2.push (i1.mono s2)
    simpa [List.append_assoc] using this)⟩⟩
theorem evP_consN (ha : EvN X e ρ c ρ1) (hr : EvP X es ρ1 cs ρ2) (sc : c.sgl = true := by rfl) (hs : starEach (e :: es) X.env = (false, eval e X.env) :: starEach es X.env := by rfl) : EvP X (e :: es) ρ (c :: cs) ρ2 :=
  pa_imp (pa_cons ha hr hs) fun σ H Q ⟨M, F, R, q⟩ => ⟨M, F, R, fun F1 H1 p s1 R1 => by
    obtain ⟨oa, f1, m1, o, ho⟩ := R1.lastO sc
    refine ⟨upd M p o, F1, R1.park sc ho, fun F2 H2 xs s2 hl R2 => ?_⟩
    have ho2 : H2 p = some o := R2.z.mh _ _ upd_same
    have keep : OwnAt X.K F2 H2 c p [p] := oa.keep s2 fun y hy => by
      rw [List.mem_singleton.mp hy, ho, ho2]
    exact q F2 H2 (.ref p :: xs) (s1.trans s2) (by simp [hl]) (by
      have := R2.takeC m1 (C.sgl.own sc) keep
      simpa [List.append_assoc] using this)⟩
/-- a, b = .. with local names -/
theorem run_parC (i j : Nat) {x y : Str} {px py pt : Pos} {kt k2 pt2} (ha : EvP X [a, b] ρ [c1, c2] ρ1) (hc : X.calm = true) (hN : X.N.Nodup) (hi : X.N[i]? = some x) (hj : X.N[j]? = some y) (hij : i ≠ j)
    (hx : X.env.scope.names.lookup x = some .local) (hy : X.env.scope.names.lookup y = some .local) (f1 : c1.fit) (f2 : c2.fit) (hlt : i < ρ1.length)
    (hw : swappedStores [.Tuple [.Name x px, .Name y py] kt pt] (.Tuple [a, b] k2 pt2) X.env = pure (some [x, y])) (hs : swapsWithSole [.Tuple [.Name x px, .Name y py] kt pt] (.Tuple [a, b] k2 pt2) pos.line X.env = pure false := by rfl) :
    Run X (.Assign [.Tuple [.Name x px, .Name y py] kt pt] (.Tuple [a, b] k2 pt2) pos) ρ (fun o => o = .nx ((ρ1.set i c1).set j c2)) :=
  ps_imp (ps_par hc hN hi hj hij hx hy ha hw hs) fun E σ H ⟨M, F, R, k⟩ => ⟨M, F, R, fun F' H' vs s hl R' => by
    match vs, hl with
    | [v, w], _ =>
      refine ⟨v, w, rfl, k _ rfl F' _ H' s ?_⟩
      have hlen := R'.len
      have R1 : Rl X.K M ((ρ1 ++ [c2]) ++ [c1]) F' ((σ ++ [some w]) ++ [some v]) H' := by simpa [List.append_assoc] using R'
      simp at hlen
      have R2 := R1.moveC (i := i) f1
      rw [List.set_append_left _ _ hlt, List.set_append_left _ _ (by omega)] at R2
      exact R2.moveC f2⟩
theorem run_parC3 (i j l : Nat) {x y z : Str} {a b e : Expr} {px py pz pt : Pos} {kt k2 pt2} (ha : EvP X [a, b, e] ρ [c1, c2, c3] ρ1) (hc : X.calm = true) (hN : X.N.Nodup) (hi : X.N[i]? = some x) (hj : X.N[j]? = some y) (hl : X.N[l]? = some z) (hij : i ≠ j) (hil : i ≠ l) (hjl : j ≠ l)
    (hx : X.env.scope.names.lookup x = some .local) (hy : X.env.scope.names.lookup y = some .local) (hz : X.env.scope.names.lookup z = some .local) (f1 : c1.fit) (f2 : c2.fit) (f3 : c3.fit) (hlt : i < ρ1.length) (hlt2 : j < ρ1.length)
    (hw : swappedStores [.Tuple [.Name x px, .Name y py, .Name z pz] kt pt] (.Tuple [a, b, e] k2 pt2) X.env = pure (some [x, y, z])) (hs : swapsWithSole [.Tuple [.Name x px, .Name y py, .Name z pz] kt pt] (.Tuple [a, b, e] k2 pt2) pos.line X.env = pure false := by rfl) :
    Run X (.Assign [.Tuple [.Name x px, .Name y py, .Name z pz] kt pt] (.Tuple [a, b, e] k2 pt2) pos) ρ (fun o => o = .nx (((ρ1.set i c1).set j c2).set l c3)) :=
  ps_imp (ps_par3 hc hN hi hj hl hij hil hjl hx hy hz ha hw hs) fun E σ H ⟨M, F, R, k⟩ => ⟨M, F, R, fun F' H' vs s hl R' => by
    match vs, hl with
    | [v, w, u], _ =>
      refine ⟨v, w, u, rfl, k _ rfl F' _ H' s ?_⟩
      have hlen := R'.len
      have R1 : Rl X.K M (((ρ1 ++ [c3]) ++ [c2]) ++ [c1]) F' (((σ ++ [some u]) ++ [some w]) ++ [some v]) H' := by simpa [List.append_assoc] using R'
      simp at hlen
      have R2 := R1.moveC (i := i) f1
      rw [List.append_assoc, List.append_assoc, List.set_append_left _ _ hlt, List.set_append_left _ _ (by omega), ← List.append_assoc, ← List.append_assoc] at R2
      have R3 := R2.moveC (i := j) f2
      rw [List.set_append_left _ _ (by simpa using hlt2), List.set_append_left _ _ (by simp; omega)] at R3
      exact R3.moveC f3⟩
/-- the same with any names -/
theorem run_asgC (i j : Nat) {x y : Str} {px py pt : Pos} {kt k2 pt2} (ha : EvP X [a, b] ρ [c1, c2] ρ1) (hc : X.calm = true) (hN : X.N.Nodup) (hi : X.N[i]? = some x) (hj : X.N[j]? = some y)
    (hx : Loc X.env.scope x) (hy : Loc X.env.scope y) (f1 : c1.fit) (f2 : c2.fit) (hlt : i < ρ1.length)
    (hfx : X.fn x = true ∨ X.env.scope.names.lookup x = some .local := by first | exact .inl rfl | exact .inr rfl | assumption) (hfy : X.fn y = true ∨ X.env.scope.names.lookup y = some .local := by first | exact .inl rfl | exact .inr rfl | assumption)
    (hw : swappedStores [.Tuple [.Name x px, .Name y py] kt pt] (.Tuple [a, b] k2 pt2) X.env = pure none := by rfl) (hs : swapsWithSole [.Tuple [.Name x px, .Name y py] kt pt] (.Tuple [a, b] k2 pt2) pos.line X.env = pure false := by rfl) :
    Run X (.Assign [.Tuple [.Name x px, .Name y py] kt pt] (.Tuple [a, b] k2 pt2) pos) ρ (fun o => o = .nx ((ρ1.set i c1).set j c2)) :=
  ps_imp (ps_asg (pe_tup ha) (pg_tup (n := 2) hc (pgs_cons (pg_name hN hi hx hfx) (pgs_cons (pg_name hN hj hy hfy) pgs_nil)) rfl rfl) hs hw rfl) fun E σ H ⟨M, F, R, k⟩ => ⟨M, F, R, fun F' H' vs s hl R' => by
    match vs, hl with
    | [v, w], _ =>
      refine ⟨by show 2 ≤ sizeLine; decide, fun p hp => ?_⟩
      refine ⟨p, [v, w], rfl, .inl (.inl upd_same), rfl, v, _, rfl, w, _, rfl, rfl, k _ rfl (upd F' p (.tup [v, w])) _ _ (s.trans (same_upd (R'.freeP hp))) ?_⟩
      have hlen := R'.len
      have R1 : Rl X.K M ((ρ1 ++ [c2]) ++ [c1]) F' ((σ ++ [some w]) ++ [some v]) H' := by simpa [List.append_assoc] using R'
      simp at hlen
      have R2 := (R1.alloc (o := .tup [v, w]) hp).moveC (i := i) f1
      rw [List.set_append_left _ _ hlt, List.set_append_left _ _ (by omega)] at R2
      exact R2.moveC f2⟩
theorem run_asgC3 (i j l : Nat) {x y z : Str} {a b e : Expr} {px py pz pt : Pos} {kt k2 pt2} (ha : EvP X [a, b, e] ρ [c1, c2, c3] ρ1) (hc : X.calm = true) (hN : X.N.Nodup) (hi : X.N[i]? = some x) (hj : X.N[j]? = some y) (hl : X.N[l]? = some z)
    (hx : Loc X.env.scope x) (hy : Loc X.env.scope y) (hz : Loc X.env.scope z) (f1 : c1.fit) (f2 : c2.fit) (f3 : c3.fit) (hlt : i < ρ1.length) (hlt2 : j < ρ1.length)
    (hfx : X.fn x = true ∨ X.env.scope.names.lookup x = some .local := by first | exact .inl rfl | exact .inr rfl | assumption) (hfy : X.fn y = true ∨ X.env.scope.names.lookup y = some .local := by first | exact .inl rfl | exact .inr rfl | assumption) (hfz : X.fn z = true ∨ X.env.scope.names.lookup z = some .local := by first | exact .inl rfl | exact .inr rfl | assumption)
    (hw : swappedStores [.Tuple [.Name x px, .Name y py, .Name z pz] kt pt] (.Tuple [a, b, e] k2 pt2) X.env = pure none := by rfl) (hs : swapsWithSole [.Tuple [.Name x px, .Name y py, .Name z pz] kt pt] (.Tuple [a, b, e] k2 pt2) pos.line X.env = pure false := by rfl) :
    Run X (.Assign [.Tuple [.Name x px, .Name y py, .Name z pz] kt pt] (.Tuple [a, b, e] k2 pt2) pos) ρ (fun o => o = .nx (((ρ1.set i c1).set j c2).set l c3)) :=
  ps_imp (ps_asg (pe_tup ha) (pg_tup (n := 3) hc (pgs_cons (pg_name hN hi hx hfx) (pgs_cons (pg_name hN hj hy hfy) (pgs_cons (pg_name hN hl hz hfz) pgs_nil))) rfl rfl) hs hw rfl) fun E σ H ⟨M, F, R, k⟩ => ⟨M, F, R, fun F' H' vs s hl R' => by
    match vs, hl with
    | [v, w, u], _ =>
      refine ⟨by show 3 ≤ sizeLine; decide, fun p hp => ?_⟩
      refine ⟨p, [v, w, u], rfl, .inl (.inl upd_same), rfl, v, _, rfl, w, _, rfl, u, _, rfl, rfl, k _ rfl (upd F' p (.tup [v, w, u])) _ _ (s.trans (same_upd (R'.freeP hp))) ?_⟩
      have hlen := R'.len
      have R1 : Rl X.K M (((ρ1 ++ [c3]) ++ [c2]) ++ [c1]) F' (((σ ++ [some u]) ++ [some w]) ++ [some v]) H' := by simpa [List.append_assoc] using R'
      simp at hlen
      have R2 := (R1.alloc (o := .tup [v, w, u]) hp).moveC (i := i) f1
      rw [List.append_assoc, List.append_assoc, List.set_append_left _ _ hlt, List.set_append_left _ _ (by omega), ← List.append_assoc, ← List.append_assoc] at R2
      have R3 := R2.moveC (i := j) f2
      rw [List.set_append_left _ _ (by simpa using hlt2), List.set_append_left _ _ (by simp; omega)] at R3
      exact R3.moveC f3⟩
end
end K8
/-! Comprehensions whose own name an inner one sees. -/
namespace K8
open PySem PySem.Spec PyProof.Rows L2
theorem look_cell {env : Env} {x : Str} : ∀ {ns : List (Str × NameKind)}, ns.lookup x = some .cell → (ns.map fun (n, k) => if (k == NameKind.free && env.scope.kind == .function && env.kindOf n == some .cell) then (n, NameKind.cell) else (n, k)).lookup x = some .cell
  | [], h => by simp at h
  | (n, k) :: r, h => by
    rw [List.lookup_cons] at h
    rw [List.map_cons]
    cases hx : x == n with
    | true =>
      simp only [hx] at h
      cases h
      have e : (if (NameKind.cell == NameKind.free && env.scope.kind == .function && env.kindOf n == some .cell) = true then (n, NameKind.cell) else (n, NameKind.cell)) = (n, NameKind.cell) := by split <;> rfl
      show List.lookup x (_ :: _) = _
      simp only [e, List.lookup_cons, hx]
    | false =>
      simp only [hx] at h
      have ih := look_cell (env := env) h
      have e : ∃ k', (if (k == NameKind.free && env.scope.kind == .function && env.kindOf n == some .cell) = true then (n, NameKind.cell) else (n, k)) = (n, k') := by
        split
        · exact ⟨_, rfl⟩
        · exact ⟨_, rfl⟩
      obtain ⟨k', e⟩ := e
      show List.lookup x (_ :: _) = _
      simp only [e, List.lookup_cons, hx]
      exact ih
section
variable {X : Cx} {elt iter : Expr} {ifs : List Expr} {pos : Pos} {ρ ρ1 : List C} {scope : Scope}
theorem evN_lc1c {α : Type} (l : List α) (enc : α → D) (b : α → Bool) (f : α → D) (j : Nat) {x : Str} {px : Pos} (hc : X.calm = true) (hN : X.N.Nodup) (hi : Itr' X (.Name x px) iter ρ (l.map enc) ρ1) (ok : BlkOk X.N X.env.scope scope [(x, j)]) (hl : l.length < sizeLine)
    (hj : X.N[j]? = some x) (hx : scope.names.lookup x = some .cell)
    (ht : ∀ a ∈ l, ∀ X', Blk X scope X' → EvTs X' ifs (ρ1.set j (.va (enc a))) (b a) (ρ1.set j (.va (enc a))))
    (he : ∀ a ∈ l, b a = true → ∀ X', Blk X scope X' → Ev X' elt (ρ1.set j (.va (enc a))) (f a) (ρ1.set j (.va (enc a)))) (hv : ∀ c, ρ1[j]? = some c → c.own = false)
    (hs : ∀ x, foldedSetIterable iter X.env x = pure x := by intro _; rfl) : EvN X (.ListComp elt [⟨.Name x px, iter, ifs, 0⟩] scope pos) ρ (.ml ((l.filter b).map f)) ρ1 := by
  refine evN_lcP (own := [(x, j)]) l enc (fun a => ρ1.set j (.va (enc a))) b f (is := [j]) hc hN hi ok (by simp) hl (fun a _ X' hX => ?_) ht he (fun a _ => ?_) ?_ hs
  · obtain ⟨s0, H0, C0, cl0, fp0, rfl⟩ := hX
    have t := tg_name (X := X.blk s0 H0 scope (compEnvC scope cl0 C0 X.env) fp0) (pos := px) (ρ := wipeR ρ1 [j]) (d := enc a) j hN hj (.inr (look_cell hx)) (.inl (by show (scope.names.lookup x == some .cell) = true; rw [hx]; rfl))
    simp only [wipeR, List.set_set] at t
    exact t
  · show Ge (wipeR (ρ1.set j _) [j]) (wipeR ρ1 [j])
    rw [wipe1]
    exact .refl _
  · intro i hi c hc
    simp at hi
    subst hi
    exact hv c hc
theorem evN_map1c {α : Type} (l : List α) (enc : α → D) (f : α → D) (j : Nat) {x : Str} {px : Pos} (hc : X.calm = true) (hN : X.N.Nodup) (hi : Itr' X (.Name x px) iter ρ (l.map enc) ρ1) (ok : BlkOk X.N X.env.scope scope [(x, j)]) (hl : l.length < sizeLine)
    (hj : X.N[j]? = some x) (hx : scope.names.lookup x = some .cell)
    (he : ∀ a ∈ l, ∀ X', Blk X scope X' → Ev X' elt (ρ1.set j (.va (enc a))) (f a) (ρ1.set j (.va (enc a)))) (hv : ∀ c, ρ1[j]? = some c → c.own = false)
    (hs : ∀ x, foldedSetIterable iter X.env x = pure x := by intro _; rfl) : EvN X (.ListComp elt [⟨.Name x px, iter, [], 0⟩] scope pos) ρ (.ml (l.map f)) ρ1 := by
  have h := evN_lc1c (pos := pos) (ifs := []) l enc (fun _ => true) f j hc hN hi ok hl hj hx (fun a _ X' _ => evTs_nil) (fun a ha _ => he a ha) hv hs
  rw [ftrue] at h
  exact h
end
end K8
/-! sorted: of lists of data. -/
namespace K8
open PySem PySem.Spec PyProof.Rows L2
open PySem.SeqAt PySem.W
/-- the order of data -/
def dle (a b : D) : Bool := dataLe false D.py a b
def Srtb (ds : List D) : Prop := AllAlike (ds.map D.py) ∧ Sortable (ds.map D.py) ∧ ∀ d ∈ ds, d.py.depth ≤ 32
def rSortD (K : PySem.W.Frag) : List V → Hp → VK → Prop := fun vs H Q => ∃ (a : Addr) (xs : List V) (ds : List D), vs = [V.ref a] ∧ SqL K H a xs ∧ xs.length = ds.length ∧ (∀ p ∈ xs.zip ds, Dp K H p.1 p.2.py) ∧ Srtb ds ∧
  ∀ p, H p = none → Q (.ref p) (upd H p (.lst (((xs.zip ds).mergeSort fun x y => dle x.2 y.2).map (·.1))))
theorem zip_each {X : Cx} {pins : List (Addr × Obj)} {σ : St} {H : Hp} {s : Shared} (I : Inv X pins σ H s) : ∀ {xs : List V} {us : List Value} {ds : List D}, Vals xs us → xs.length = ds.length → (∀ p ∈ xs.zip ds, Dp X.K H p.1 p.2.py) →
    EachIs (fun u (b : V × D) => RelV b.1 u) us (xs.zip ds) ∧ EachIs (fun u (b : V × D) => ∃ as, Reads s.heap u b.2.py as) us (xs.zip ds)
  | [], [], ds, .nil, hl, _ => by
    rw [List.zip_nil_left]
    exact ⟨.nil, .nil⟩
  | x :: xs, u :: us, [], .cons _ _, hl, _ => by simp at hl
  | x :: xs, u :: us, d :: ds, .cons r rs, hl, hp => by
    obtain ⟨e1, e2⟩ := zip_each I (ds := ds) rs (by simpa using hl) fun p hm => hp p (by rw [List.zip_cons_cons]; exact List.mem_cons_of_mem _ hm)
    rw [List.zip_cons_cons]
    exact ⟨.cons r e1, .cons ((hp (x, d) (by rw [List.zip_cons_cons]; exact List.mem_cons_self)).reads I d.py x u r) e2⟩
theorem each_vals : ∀ {us : List Value} {bs : List (V × D)}, EachIs (fun u (b : V × D) => RelV b.1 u) us bs → Vals (bs.map (·.1)) us
  | _, _, .nil => .nil
  | _, _, .cons r t => .cons r (each_vals t)
theorem zip_map_snd {xs : List V} {ds : List D} (h : xs.length = ds.length) : (xs.zip ds).map (fun b => b.2.py) = ds.map D.py := by
  rw [show (fun b : V × D => b.2.py) = D.py ∘ (·.2) from rfl, ← List.map_map, List.map_snd_zip (by omega)]
theorem cr_sortedD {X : Cx} (hu : X.A.units + 100 < cLine) : CallR X (.builtin "sorted") (rSortD X.K) := by
  intro pins s σ H vs us Q I r h
  obtain ⟨a, xs, ds, rfl, hs, hl, hd, ⟨sa, sb, sc⟩, q⟩ := h
  obtain ⟨its, rv, pl, hz⟩ := I.list hs
  obtain ⟨u, rfl, ru⟩ := vals1 r
  obtain rfl : u = Value.ref a := ru
  obtain ⟨e1, e2⟩ := zip_each I rv hl hd
  have ez := zip_map_snd hl
  refine sorted_data (R := fun u (b : V × D) => RelV b.1 u) (enc := fun b : V × D => b.2.py) pl.isList e1 e2 (by rw [ez]; exact sa) (by rw [ez]; exact sb) (by rw [List.length_zip]; omega) (fun b hb => ?_) fun out ho eo => ?_
  · have := sc b.2 (List.of_mem_zip hb).2
    omega
  · obtain ⟨n, hn⟩ := sortedAll_at s.heap its (List.toArray out)
    have rv2 := each_vals eo
    have hf : H (s.heap.objs.size + 1) = none := I.hok.fresh (Nat.le_succ _)
    refine ⟨.ref (s.heap.objs.size + 1), upd H (s.heap.objs.size + 1) (.lst (((xs.zip ds).mergeSort fun x y => dle x.2 y.2).map (·.1))), I.laid (t' := s.toks) (fun b o e => sortedAll_old e) (Nat.le_succ _) ?_, rfl, q _ hf⟩
    refine ⟨?_, out, n, rv2, hn⟩
    rw [List.length_map, List.length_mergeSort, List.length_zip]
    omega
theorem sort_zip (xs : List V) (ds : List D) (hl : xs.length = ds.length) : ((xs.zip ds).mergeSort fun x y => dle x.2 y.2).map (·.2) = ds.mergeSort dle := by
  rw [List.map_mergeSort (s := dle) (fun a _ b _ => rfl), List.map_snd_zip (by omega)]
theorem sort_is {K : PySem.W.Frag} {F : Hp} {xs : List V} {ds : List D} (h : IsL K F xs ds) : IsL K F (((xs.zip ds).mergeSort fun x y => dle x.2 y.2).map (·.1)) (ds.mergeSort dle) := by
  rw [← sort_zip xs ds h.length]
  have hp : ∀ p ∈ (xs.zip ds).mergeSort (fun x y => dle x.2 y.2), Is K F p.1 p.2 := fun p hp => by
    have hm := (List.mergeSort_perm _ _).mem_iff.mp hp
    obtain ⟨i, hi, e⟩ := List.mem_iff_getElem.mp hm
    rw [List.length_zip] at hi
    rw [List.getElem_zip] at e
    have hd : ds[i]? = some p.2 := by
      rw [← e]
      exact List.getElem?_eq_getElem (by omega)
    obtain ⟨v, hv, iv⟩ := h.get hd
    have : v = p.1 := by
      rw [← e]
      rw [List.getElem?_eq_getElem (by omega)] at hv
      exact (Option.some.inj hv).symm
    rw [← this]
    exact iv
  generalize (xs.zip ds).mergeSort (fun x y => dle x.2 y.2) = l at hp
  induction l with
  | nil => exact .nil
  | cons p l ih => exact .cons (hp p List.mem_cons_self) (ih fun q hq => hp q (List.mem_cons_of_mem _ hq))
theorem isL_zip {K : PySem.W.Frag} {F : Hp} : ∀ {xs : List V} {ds : List D}, IsL K F xs ds → ∀ p ∈ xs.zip ds, Is K F p.1 p.2
  | _, _, .nil, p, hp => by simp at hp
  | _, _, .cons a b, p, hp => by
    rw [List.zip_cons_cons] at hp
    rcases List.mem_cons.mp hp with rfl | hp
    · exact a
    · exact isL_zip b p hp
section
variable {X : Cx} {e : Expr} {ρ ρ1 : List C} {ds : List D} {p pos : Pos} {k n : Nat}
theorem evN_sorted (h : Ev X e ρ (.lst ds) ρ1) (hu : X.A.units + 100 < cLine) (ok : ∀ d ∈ ds, D.okn n d) (hs : Srtb ds) (hg : Gl X "sorted") (hm : X.mg "sorted" = none) (he : starEach [e] X.env = (false, eval e X.env) :: starEach [] X.env := by rfl) : EvN X (.Call (.Name "sorted" p) [e] [] pos) ρ (.ml (ds.mergeSort dle)) ρ1 := by
  refine pe_imp (pe_callB (cr_sortedD hu) hg hm (by decide +kernel) (evA_cons h evA_nil he) (he := he)) fun σ H Q ⟨M, F, R, q⟩ => ⟨M, F, R, fun F1 H1 vs s1 R1 l => ?_⟩
  cases l with
  | cons h1 l1 =>
    cases l1
    cases h1 with
    | lst a b =>
      refine ⟨_, _, ds, rfl, .inl (.inl (R1.z.le.lst a)), b.length, fun p hp => dp_of R1.z.le n (ok _ (List.of_mem_zip hp).2) (isL_zip b p hp), hs, fun p hp => q F1 _ p s1 (R1.own hp (sort_is b))⟩
end
end K8
/-! keys of dicts with tuple keys: walked, listed, sorted. -/
namespace K8
open PySem PySem.Spec PyProof.Rows L2
open PySem.SeqAt PySem.W PySem.Sem
/-! ### for k in d.keys() -/
def iKeysT (td : TE) : TI := fun σ H R => td σ H fun x H1 => ∃ d, x = .ref d ∧ ((∃ kvs, H1 d = some (.dT kvs) ∧ ∀ o, R (Itkt d o kvs) (upd H1 d (.frz o (.dT kvs)))) ∨ ∃ o kvs, H1 d = some (.frz o (.dT kvs)) ∧ R (Itkt d o kvs) H1)
section
variable {X : Cx} {tg e : Expr} {td : TE} {apos cpos : Pos}
theorem pi_keysT (he : PE X e td) (hbase : attributeBase e "keys" X.env (eval e X.env) = eval e X.env := by rfl) (hline : (apos.endLine == cpos.line) = true := by rfl) : PI X tg (.Call (.Attribute e "keys" apos) [] [] cpos) (iKeysT td) := by
  refine ⟨fun pins s σ H R I h => ?_⟩
  refine wpAny_Call_method (T := "dict") (id := "dict.keys") hbase rfl hline F.plainAttrs_dict F.slot_dict_keys F.type_dict_keys (thn (he.run pins s σ H _ I h) fun u s1 ⟨x, H0, I0, rx, d, ex, q0⟩ => ?_)
  subst ex
  obtain rfl : u = Value.ref d := rx
  obtain ⟨H1, o, kvs, I1, hd, q⟩ : ∃ H1 o kvs, Inv X pins σ H1 s1 ∧ H1 d = some (.frz o (.dT kvs)) ∧ R (Itkt d o kvs) H1 := by
    rcases q0 with ⟨kvs, hd, q⟩ | ⟨o, kvs, hd, q⟩
    · obtain ⟨o, I1⟩ := I0.lock hd (by trivial)
      exact ⟨_, o, kvs, I1, upd_same, q o⟩
    · exact ⟨H0, o, kvs, I0, hd, q⟩
  obtain ⟨hs, hgd, hx, es, ep, hdt, hsz, ent⟩ := I1.frzT hd
  have hm : s1.heap.DictRaw d es ep := ⟨o, hgd, hx, hdt⟩
  refine ⟨hm.typeIs, fun a e2 => ?_, ?_⟩
  · cases e2
    exact ⟨o, hgd, hx.2.1⟩
  have I2 : Inv X pins σ H1 { s1 with heap := s1.heap.push { cls := .type "dict_keys", data := .fields #[.ref d] } } := I1.kept (t' := s1.toks) fun b ob q => Heap.get?_push_of_some _ q
  have fin : wpAny (model X.prog X.w) X.A (pyIter (.ref s1.heap.objs.size)) (PIE X pins σ tg R) X.xe { s1 with heap := s1.heap.push { cls := .type "dict_keys", data := .fields #[.ref d] } } := by
    refine wpAny_pyIter_keys_raw (d := d) (es := es) (ep := ep) ⟨_, Heap.get?_push_size _ rfl, rfl, rfl⟩ (hm.at fun ob e => Heap.get?_push_of_some _ e) (pi_one (tk := s1.toks) I2 _ (turn_keysT _ hdt) ⟨_, Heap.get?_push_size _ rfl, rfl, ?_⟩ q)
    rw [hsz] <;> rfl
  show wpAny _ _ (callWith cpos (.builtin "dict.keys") [.ref d] [] []) _ X.xe s1
  exact method_meetsIn F.slot_dict_keys F.entry_dict_keys rfl (PySem.evalArgs_none ⟨rfl, hm.typeIs, F.args_dict_keys_1 _, _, meets_dict_keys_raw d hs, ⟨⟨es, ep, hm⟩, fin⟩⟩)
end
def wdI (k : List Int) : D := .tup (k.map D.int)
section
variable {K : PySem.W.Frag} {M F H : Hp} {ρ : List C} {σ : St} {a : Addr} {kvs : List (List Key × V)} {o : Obj}
theorem Rl.lockM (R : Rl K M ρ F σ H) (hF : F a = some (.dT kvs)) (hH : H a = some (.frz o (.dT kvs))) : ∃ M1, Same M M1 ∧ Rl K M1 ρ F σ H ∧ M1 a = some (.frz o (.dT kvs)) := by
  cases hM : M a with
  | some w =>
    have := R.z.mh a w hM
    rw [hH] at this
    cases this
    exact ⟨M, Same.refl _, R, hM⟩
  | none =>
    obtain ⟨fp, h1, h2⟩ := R.ow
    refine ⟨upd M a (.frz o (.dT kvs)), same_upd hM, ⟨⟨R.z.le, fun b u e => ?_, fun b u e => ?_, R.z.tp⟩, R.len, R.va, fp, fun j c e q => ?_, h2⟩, upd_same⟩
    · by_cases hb : b = a
      · subst hb
        rw [upd_same] at e
        rw [hH]
        exact e
      · rw [upd_ne hb] at e
        exact R.z.mh b u e
    · by_cases hb : b = a
      · subst hb
        exact .inr ⟨o, kvs, upd_same⟩
      · rw [upd_ne hb]
        exact R.z.fm b u e
    · obtain ⟨p', x, y, f⟩ := h1 j c e q
      refine ⟨p', x, y, fun b hb => ?_⟩
      obtain ⟨f1, f2, f3⟩ := f b hb
      have hn : b ≠ a := fun z => by rw [z, hF] at f1; cases f1
      exact ⟨f1, by rw [upd_ne hn]; exact f2, f3⟩
theorem Rl.lock (R : Rl K M ρ F σ H) (hF : F a = some (.dT kvs)) (hH : H a = some (.dT kvs)) : Rl K M ρ F σ (upd H a (.frz o (.dT kvs))) := by
  have hM : M a = none := by
    rcases R.z.fm a _ hF with h | ⟨x, y, h⟩
    · exact h
    · have := R.z.mh a _ h
      rw [hH] at this
      cases this
  obtain ⟨fp, h1, h2⟩ := R.ow
  refine ⟨⟨fun b u e => ?_, fun b u e => ?_, R.z.fm, R.z.tpu⟩, R.len, R.va, fp, fun j c e q => ?_, h2⟩
  · by_cases hb : b = a
    · subst hb
      rw [hF] at e
      cases e
      exact .inr ⟨kvs, o, rfl, upd_same⟩
    · rw [upd_ne hb]
      exact R.z.le b u e
  · have hb : b ≠ a := fun z => by rw [z, hM] at e; cases e
    rw [upd_ne hb]
    exact R.z.mh b u e
  · obtain ⟨p', x, y, f⟩ := h1 j c e q
    have hn : ∀ b ∈ fp j, b ≠ a := fun b hb z => by
      have := (f b hb).1
      rw [z, hF] at this
      cases this
    exact ⟨p', x, y.keep (Same.refl _) fun b hb => upd_ne (hn b hb), fun b hb => ⟨(f b hb).1, (f b hb).2.1, by rw [upd_ne (hn b hb)]; exact (f b hb).2.2⟩⟩
theorem isL_key {K : PySem.W.Frag} {F : Hp} : ∀ (k : List Int), IsL K F ((k.map (Sum.inl : Int → Key)).map kV) (k.map D.int)
  | [] => .nil
  | i :: k => .cons (.int i) (isL_key k)
theorem key_is {k : List Int} {q : Addr} (R : Rl K M ρ F σ H) (h : H q = some (.tup ((k.map (Sum.inl : Int → Key)).map kV))) : Is K F (.ref q) (wdI k) := .tup (R.z.tp q _ h) (isL_key k)
end
theorem kvs_at {kvs : List (List Key × V)} {ks : List (List Int)} (e : kvs.map (·.1) = ks.map (·.map Sum.inl)) {i : Nat} {k : List Key} {v : V} (h : kvs[i]? = some (k, v)) : ∃ k', ks[i]? = some k' ∧ k = k'.map Sum.inl := by
  have := congrArg (·[i]?) e
  simp only [List.getElem?_map, h, Option.map_some] at this
  cases hk : ks[i]? with
  | none => rw [hk] at this; cases this
  | some k' =>
    rw [hk] at this
    exact ⟨k', rfl, Option.some.inj this⟩
section
variable {X : Cx} {tg e : Expr} {apos cpos : Pos} {ρ ρ1 : List C} {ks : List (List Int)} {ds : List D}
theorem yld_keys {K : PySem.W.Frag} {M F : Hp} {a : Addr} {kvs : List (List Key × V)} {o : Obj} (hM : M a = some (.frz o (.dT kvs))) (e : kvs.map (·.1) = ks.map (·.map Sum.inl)) : ∀ M', Same M M' → Yld K (Itkt a o kvs) (ks.map wdI) M' F := by
  intro M' sM ρ F' σ H s R i
  have hl : kvs.length = ks.length := by simpa using congrArg List.length e
  have hH : H a = some (.frz o (.dT kvs)) := R.z.mh _ _ (sM _ _ hM)
  refine ⟨fun hi => ⟨hH, by rw [List.length_map] at hi; omega⟩, fun x hx => ?_⟩
  have hi : i < ks.length := by
    have := (List.getElem?_eq_some_iff.mp hx).1
    simpa using this
  refine ⟨⟨hH, by omega⟩, fun v H' y => ?_⟩
  obtain ⟨rfl, k, w, q, h1, rfl, h2⟩ := y
  obtain ⟨k', h3, rfl⟩ := kvs_at e h1
  rw [List.getElem?_map, h3] at hx
  cases hx
  exact ⟨F', Same.refl _, R, key_is R h2⟩
theorem itr_keys (h : Ev X e ρ (.dic ks ds) ρ1) (hbase : attributeBase e "keys" X.env (eval e X.env) = eval e X.env := by rfl) (hline : (apos.endLine == cpos.line) = true := by rfl) : Itr' X tg (.Call (.Attribute e "keys" apos) [] [] cpos) ρ (ks.map wdI) ρ1 :=
  pi_imp (pi_keysT h hbase hline) fun σ H R ⟨M, F, R0, k⟩ => ⟨M, F, R0, fun F1 H1 v s1 R1 i1 => by
    cases i1 with
    | @dic a kvs _ _ h1 e l =>
      refine ⟨a, rfl, ?_⟩
      rcases R1.z.le a _ h1 with hH | ⟨kvs', o, ek, hH⟩
      · refine .inl ⟨kvs, hH, fun o => ?_⟩
        obtain ⟨M1, sM, R2, hM⟩ := (R1.lock (o := o) h1 hH).lockM h1 upd_same
        exact k _ M1 F1 _ sM s1 R2 (yld_keys hM e)
      · cases ek
        obtain ⟨M1, sM, R2, hM⟩ := R1.lockM h1 hH
        exact .inr ⟨o, kvs, hH, k _ M1 F1 _ sM s1 R2 (yld_keys hM e)⟩⟩
end
end K8
/-! sorted(d.keys()), list(d.keys()) for dicts with tuple keys. -/
namespace K8
open PySem PySem.Spec PyProof.Rows L2
open PySem.SeqAt PySem.W PySem.Sem
section
variable {prog : Program} {w : World} {A : Around} {E : Value → Shared → Prop} {s : Shared} {T : String} {r d : Addr} {n : Nat} {P : Nat → Value → Prop} {OK : Heap → Prop} {Q : Value → Shared → Prop}
/-- sorted of a thing that can be walked, up to the sort -/
theorem sorted_src (K : KdlSrc prog w T r d n P OK) (hh : A.handled = none) (hok : OK s.heap) (hn : n ≤ sizeLine)
    (h : ∀ (h' : Heap) (tk : Nat) (vs : List Value), (∀ b o, s.heap.get? b = some o → h'.get? b = some o) → vs.length = n → (∀ (j : Nat) (v : Value), vs[j]? = some v → P j v) →
      wpAny (model prog w) A.in1 (call (.builtin "list.sort") [.ref h'.objs.size]) (fun _ s' => Q (.ref h'.objs.size) s') E { s with heap := h'.push { cls := .type "list", data := .seq vs.toArray }, toks := tk }) :
    wpAny (model prog w) A (call (.builtin "sorted") [.ref r]) Q E s := by
  refine Calls.call_function_entry kind_sorted plain_sorted entry_sorted (args_sorted1 _) ?_
  unfold Builtin.«sorted»
  refine wpAny_bind (m := checkCount "sorted" 1 1 _) (wpAny_pure ?_)
  refine wpAny_bind (kdu_collect (A := A.in1) K hh hok hn fun h' tk acc hk hacc => ?_)
  have hl : acc.toList.length = n := by rw [Array.length_toList]; exact hacc.1
  refine wpAny_bind (wpAny_newList ?_ (by rw [hl]; exact hn))
  have hg := h h' tk acc.toList hk hl fun j v e => hacc.2 j v (by rw [← Array.getElem?_toList]; exact e)
  refine wpAny_bind (wpAny_holding (wpAny_mono hg (fun _ s' x => ?_) fun _ _ e => e))
  exact wpAny_pure ⟨_, rfl, x⟩
end
section
variable {X : Cx} {pins : List (Addr × Obj)} {σ : St} {H : Hp} {s : Shared}
theorem free_at (I : Inv X pins σ H s) {h' : Heap} (kp : ∀ b o, s.heap.get? b = some o → h'.get? b = some o) : H h'.objs.size = none ∧ s.heap.get? h'.objs.size = none := by
  have a : s.heap.get? h'.objs.size = none := by
    cases z : s.heap.get? h'.objs.size with
    | none => rfl
    | some o => exact absurd (Heap.lt_size (kp _ _ z)) (Nat.lt_irrefl _)
  refine ⟨?_, a⟩
  cases z : H h'.objs.size with
  | none => rfl
  | some o =>
    obtain ⟨u, e⟩ := objOk_get (I.hok _ _ z)
    rw [a] at e
    cases e
theorem sort_tail (I : Inv X pins σ H s) {h' : Heap} {tk : Nat} (kp : ∀ b o, s.heap.get? b = some o → h'.get? b = some o) {xs : List V} {us : List Value} {ds : List D} (rv : Vals xs us) (hl : xs.length = ds.length) (hd : ∀ p ∈ xs.zip ds, Dp X.K H p.1 p.2.py) (hs : Srtb ds) (hz : us.length ≤ sizeLine)
    (hu : X.A.units + 100 < cLine) {Q : VK} (q : ∀ p, H p = none → Q (.ref p) (upd H p (.lst (((xs.zip ds).mergeSort fun x y => dle x.2 y.2).map (·.1))))) :
    wpAny (model X.prog X.w) X.A.in1 (call (.builtin "list.sort") [.ref h'.objs.size]) (fun _ s' => EP X pins σ Q (.ref h'.objs.size) s') X.xe { s with heap := h'.push { cls := .type "list", data := .seq us.toArray }, toks := tk } := by
  obtain ⟨sa, sb, sc⟩ := hs
  obtain ⟨e1, e2⟩ := zip_each I rv hl hd
  have ez := zip_map_snd hl
  have ho : (h'.push { cls := .type "list", data := .seq us.toArray }).get? h'.objs.size = some (seqObj "list" us.toArray 0) := Heap.get?_push_size _ rfl
  have old : ∀ b o, s.heap.get? b = some o → (h'.push { cls := .type "list", data := .seq us.toArray }).get? b = some o := fun b o e => Heap.get?_push_of_some _ (kp b o e)
  have ne : ∀ b o, s.heap.get? b = some o → b ≠ h'.objs.size := fun b o e => Nat.ne_of_lt (Heap.lt_size (kp b o e))
  have er' : EachIs (fun u (b : V × D) => ∃ as, Reads (sortingHeap (h'.push { cls := .type "list", data := .seq us.toArray }) h'.objs.size us) u b.2.py as) us (xs.zip ds) := e2.mono fun _ _ ⟨as, r⟩ => ⟨as, PyProof.Rows.Reads.keeps (fun b o e => sortingHeap_old (ne b o e) (old b o e)) r⟩
  have hal : AllAlike ((xs.zip ds).map fun b => b.2.py) := by rw [ez]; exact sa
  have hk : Sortable ((xs.zip ds).map fun b => b.2.py) := by rw [ez]; exact sb
  have un : X.A.in1.in1.units ≤ X.A.units + 2 := by
    show _ ≤ _
    first | exact Nat.le_refl _ | (simp [Around.in1, Around.units]; done) | omega
  refine wpAny_call_entry slot_list_sort ⟨_, ho, rfl⟩ entry_list_sort (list_sort_vals (s := { s with heap := h'.push { cls := .type "list", data := .seq us.toArray }, toks := tk }) (κ := dataKind (sortingHeap (h'.push { cls := .type "list", data := .seq us.toArray }) h'.objs.size us) ((xs.zip ds).map fun b => b.2.py)) ho
    (SortsAt.data (s := { s with heap := sortingHeap (h'.push { cls := .type "list", data := .seq us.toArray }) h'.objs.size us, toks := tk }) (each_map (R := fun v d => ∃ as, Reads (sortingHeap (h'.push { cls := .type "list", data := .seq us.toArray }) h'.objs.size us) v d as) (fun b : V × D => b.2.py) er') hal hk (bound_map fun b hb => ?_)) hz ⟨.none, rfl, ?_⟩) (args_list_sort _)
  · have := sc b.2 (List.of_mem_zip hb).2
    omega
  · have eo := sortVals_data false e1 er' hal
    obtain ⟨n, hn⟩ := sortedHeap_at (out := (sortVals (dataKind (sortingHeap (h'.push { cls := .type "list", data := .seq us.toArray }) h'.objs.size us) ((xs.zip ds).map fun b => b.2.py)) false us us).toArray) ho
    have rv2 := each_vals eo
    obtain ⟨hf, hf2⟩ := free_at I kp
    refine ⟨.ref h'.objs.size, upd H h'.objs.size (.lst (((xs.zip ds).mergeSort fun x y => dle x.2 y.2).map (·.1))), I.laidN (t' := tk) (fun b o e => ?_) hf2 hf ?_, rfl, q _ hf⟩
    · rw [sortedHeap_old (ne b o e) (by rw [size_push']; exact Nat.lt_succ_of_lt (Heap.lt_size (kp b o e)))]
      exact old b o e
    · refine ⟨?_, _, n, rv2, hn⟩
      rw [List.length_map, List.length_mergeSort, List.length_zip]
      have := rv.length
      omega
end
/-- the view d.keys() at p -/
def keysO (p d : Addr) : HO := .ext fun h => KdlKeysView h p d
theorem keysO_ok {P : Program} {w : World} {H : Hp} {h : Heap} {p d : Addr} (e : h.get? p = some { cls := .type "dict_keys", data := .fields #[.ref d] }) : ObjOk P w H h p (keysO p d) :=
  ⟨⟨_, e, rfl, rfl⟩, ⟨_, e⟩, fun h1 h2 x k => let ⟨o, ho, r⟩ := x; ⟨o, k o ho, r⟩⟩
def rKeysT : V → List V → Hp → VK → Prop := fun x xs H Q => ∃ (a : Addr) (kvs : List (List L2.Key × V)), x = .ref a ∧ xs = [] ∧ Rd H a (.dT kvs) ∧ ∀ p, H p = none → Q (.ref p) (upd H p (keysO p a))
section
variable {X : Cx}
theorem mt_keysT : MtR X "dict.keys" rKeysT := by
  intro pins s σ H x xs v us Q I rx rxs h
  obtain ⟨a, kvs, rfl, rfl, ha, q⟩ := h
  cases rx
  cases rxs
  obtain ⟨z, hs, xs', rel, o, es, ep, ho, hx, hdat, _⟩ := dt_rd I.hok ha
  have hm : s.heap.DictRaw a es ep := ⟨o, ho, hx, hdat⟩
  refine call_meetsIn PySem.F.slot_dict_keys hm.typeIs PySem.F.entry_dict_keys (PySem.F.args_dict_keys_1 _) (meets_dict_keys_raw a hs) ⟨⟨es, ep, hm⟩, ?_⟩
  have hf : H s.heap.objs.size = none := I.hok.fresh (Nat.le_refl _)
  exact ⟨.ref s.heap.objs.size, upd H s.heap.objs.size (keysO s.heap.objs.size a), I.laid (t' := s.toks) (fun b u e => Heap.get?_push_of_some _ e) (Nat.le_refl _) (keysO_ok (Heap.get?_push_size _ rfl)), rfl, q _ hf⟩
/-- what a walk over the keys view gathers -/
theorem keys_vals {prog : Program} {w : World} {es : Array DictEntry} {ks : List (List Key × Addr × Value)} (he : es.toList = ks.map (entryOfKey (tupleKind (mixKind prog w)))) {vs : List Value} (hl : vs.length = es.size) (h : ∀ (j : Nat) (v : Value), vs[j]? = some v → ∃ hi : j < es.size, v = es[j].key) : vs = (ks.map fun x => x.2.1).map Value.ref := by
  have l1 : es.size = ks.length := size_of_entries he
  apply List.ext_getElem?
  intro j
  rw [List.getElem?_map, List.getElem?_map]
  cases hj : vs[j]? with
  | none =>
    have h1 := List.getElem?_eq_none_iff.mp hj
    rw [List.getElem?_eq_none (by omega)]
    all_goals rfl
  | some v =>
    obtain ⟨hi, hv⟩ := h j v hj
    have qe := entry_at he j
    rw [Array.getElem?_eq_getElem hi] at qe
    cases hb : ks[j]? with
    | none =>
      rw [hb] at qe
      exact nomatch (show some es[j] = none from qe)
    | some b =>
      rw [hb] at qe
      have e2 : es[j] = entryOfKey (tupleKind (mixKind prog w)) b := Option.some.inj qe
      rw [hv, e2]
      all_goals rfl
def rSortKeys (K : PySem.W.Frag) : List V → Hp → VK → Prop := fun vs H Q => ∃ (p a : Addr) (kvs : List (List Key × V)) (ds : List D), vs = [V.ref p] ∧ H p = some (keysO p a) ∧ Rd H a (.dT kvs) ∧ Srtb ds ∧ kvs.length = ds.length ∧
  (∀ bs, IsKeys H kvs bs → ∀ q ∈ (bs.map V.ref).zip ds, Dp K H q.1 q.2.py) ∧
  ∀ l bs, H l = none → IsKeys H kvs bs → Q (.ref l) (upd H l (.lst ((((bs.map V.ref).zip ds).mergeSort fun x y => dle x.2 y.2).map (·.1))))
theorem cr_sortedKeys (hc : X.calm = true) (hu : X.A.units + 100 < cLine) : CallR X (.builtin "sorted") (rSortKeys X.K) := by
  intro pins s σ H xs us Q I r h
  obtain ⟨p, a, kvs, ds, rfl, hp, hd, hs, hl, hdp, q⟩ := h
  obtain ⟨u, rfl, rx⟩ := vals1 r
  cases rx
  obtain ⟨z, hsm, ks, pr, o, es, ep, ho, hx, hdt, he, hn⟩ := (show ObjOk X.prog X.w H s.heap a (.dT kvs) from hd.ok I.hok)
  have l1 : es.size = ks.length := size_of_entries he
  have l2 : kvs.length = ks.length := Paired.length pr
  have hv : KdlKeysView s.heap p a := (I.hok p _ hp).1
  refine sorted_src (KdlSrc.rawKeys (r := p) (d := a) (es := es) (ep := ep)) (I.ok.hd hc) ⟨hv, o, ho, hx, hdt⟩ (by omega) fun h' tk vs kp hlen hvs => ?_
  have ev := keys_vals he hlen hvs
  have rv : Vals ((ks.map fun x => x.2.1).map V.ref) vs := by rw [ev]; exact vals_refs _
  have ik := isKeys_of pr
  exact sort_tail I kp rv (by simp; omega) (hdp _ ik) hs (by omega) hu fun l hl' => q l _ hl' ik
theorem call_list_keys (hc : X.calm = true) : CallR X (.type "list") (fun xs H Q => ∃ p a kvs, xs = [V.ref p] ∧ H p = some (keysO p a) ∧ Rd H a (.dT kvs) ∧ ∀ l bs, H l = none → IsKeys H kvs bs → Q (.ref l) (upd H l (.lst (bs.map V.ref)))) := by
  intro pins s σ H xs us Q I r h
  obtain ⟨p, a, kvs, rfl, hp, hd, q⟩ := h
  obtain ⟨u, rfl, rx⟩ := vals1 r
  cases rx
  obtain ⟨z, hsm, ks, pr, o, es, ep, ho, hx, hdt, he, hn⟩ := (show ObjOk X.prog X.w H s.heap a (.dT kvs) from hd.ok I.hok)
  have l1 : es.size = ks.length := size_of_entries he
  have l2 : kvs.length = ks.length := Paired.length pr
  have hv : KdlKeysView s.heap p a := (I.hok p _ hp).1
  refine PySem.W.kdl_call (KdlSrc.rawKeys (r := p) (d := a) (es := es) (ep := ep)) (I.ok.hd hc) ⟨hv, o, ho, hx, hdt⟩ (by omega) fun h' tk acc' c' kp e it => ?_
  have ev := keys_vals he (vs := acc'.toList) (by rw [Array.length_toList]; exact it.1) fun j v e => it.2 j v (by rw [← Array.getElem?_toList]; exact e)
  have rv : Vals ((ks.map fun x => x.2.1).map V.ref) acc'.toList := by rw [ev]; exact vals_refs _
  have hz : ((ks.map fun x => x.2.1).map V.ref).length ≤ sizeLine := by rw [List.length_map, List.length_map]; omega
  refine ⟨.ref s.heap.objs.size, _, I.laid (t' := tk) (o := .lst ((ks.map fun x => x.2.1).map V.ref)) kp (Nat.le_refl _) ?_, rfl, q _ _ (I.hok.fresh (Nat.le_refl _)) (isKeys_of pr)⟩
  exact ⟨hz, acc'.toList, c', rv, by rw [Array.toArray_toList]; exact e⟩
end
end K8
/-! sorted(x.keys()), list(x.keys()) as rules. -/
namespace K8
open PySem PySem.Spec PyProof.Rows L2
open PySem.SeqAt PySem.W PySem.Sem
def tKeysV (te : TE) : TE := fun σ H Q => te σ H fun x H1 => ∃ a kvs, x = .ref a ∧ Rd H1 a (.dT kvs) ∧ ∀ p, H1 p = none → Q (.ref p) (upd H1 p (keysO p a))
section
variable {X : Cx} {e : Expr} {te : TE} {apos cpos pos p0 : Pos} {ρ ρ1 : List C} {ks : List (List Int)} {ds : List D}
theorem pe_keysV (he : PE X e te) (hbase : attributeBase e "keys" X.env (eval e X.env) = eval e X.env := by rfl) (hline : (apos.endLine == cpos.line) = true := by rfl) : PE X (.Call (.Attribute e "keys" apos) [] [] cpos) (tKeysV te) := by
  refine ⟨fun pins s σ H Q I h => ?_⟩
  refine wpAny_Call_method0_late hbase hline (thn (he.run pins s σ H _ I h) fun v s1 ⟨x, H1, I1, r1, a, kvs, ex, hd, q1⟩ => ?_)
  subst ex
  obtain rfl : v = Value.ref a := r1
  obtain ⟨z, hs, xs', rel, o, es, ep, ho, hx, hdat, _⟩ := dt_rd I1.hok hd
  exact ⟨"dict", "dict.keys", PySem.F.plainAttrs_dict, PySem.F.slot_dict_keys, PySem.F.type_dict_keys, ⟨o, ho, hx.1⟩, fun b e2 => by cases e2; exact ⟨o, ho, hx.2.1⟩, Calls.callWith_builtin rfl (PySem.evalArgs_none (mt_keysT pins s1 σ H1 (.ref a) [] (.ref a) [] Q I1 rfl .nil ⟨a, kvs, rfl, rfl, hd, q1⟩))⟩
theorem rd_upd {H : Hp} {a p : Addr} {u o : HO} (h : Rd H a u) (hp : H p = none) : Rd (upd H p o) a u := by
  rcases h with h | ⟨x, h⟩
  · exact .inl (by rw [upd_ne (ne_of_none h hp)]; exact h)
  · exact .inr ⟨x, by rw [upd_ne (ne_of_none h hp)]; exact h⟩
theorem isKeys_is {K : PySem.W.Frag} {M F H : Hp} {ρ : List C} {σ : St} (R : Rl K M ρ F σ H) : ∀ {kvs : List (List Key × V)} {bs : List Addr} {ks : List (List Int)}, IsKeys H kvs bs → kvs.map (·.1) = ks.map (·.map Sum.inl) → IsL K F (bs.map V.ref) (ks.map wdI)
  | [], [], [], .nil, _ => .nil
  | [], [], _ :: _, .nil, e => by simp at e
  | kv :: kvs, b :: bs, [], .cons _ _, e => by simp at e
  | kv :: kvs, b :: bs, k :: ks, .cons h t, e => by
    simp only [List.map_cons, List.cons.injEq] at e
    rw [e.1] at h
    exact .cons (key_is R h) (isKeys_is R t e.2)
theorem okn_wdI (k : List Int) : D.okn 1 (wdI k) := by
  intro x hx
  obtain ⟨n, _, rfl⟩ := List.mem_map.mp hx
  exact okn_int
/-- sorted(e.keys()) from any reading of the dict -/
theorem sortKeys_read {K : PySem.W.Frag} {M F H : Hp} {σ : St} {a : Addr} {kvs : List (List Key × V)} {Q : VK} (R : Rl K M ρ F σ H) (hd : Rd H a (.dT kvs)) (e : kvs.map (·.1) = ks.map (·.map Sum.inl)) (hs : Srtb (ks.map wdI))
    (q : ∀ F' H' p, Same F F' → Rl K M (ρ ++ [.ml ((ks.map wdI).mergeSort dle)]) F' (σ ++ [some (.ref p)]) H' → Q (.ref p) H') : ∀ p, H p = none → rSortKeys K [.ref p] (upd H p (keysO p a)) Q := by
  intro p hp
  have hl : kvs.length = ks.length := by simpa using congrArg List.length e
  have R1 := R.alloc (o := keysO p a) hp
  refine ⟨p, a, kvs, ks.map wdI, rfl, upd_same, rd_upd hd hp, hs, by simpa using hl, fun bs ik x hx => ?_, fun l bs hl' ik => ?_⟩
  · obtain ⟨k, hk, ek⟩ := List.mem_map.mp (List.of_mem_zip hx).2
    exact dp_of R1.z.le 1 (by rw [← ek]; exact okn_wdI k) (isL_zip (isKeys_is R1 ik e) x hx)
  · exact q _ _ l (same_upd (R.freeP hp)) (R1.own hl' (sort_is (isKeys_is R1 ik e)))
theorem evN_sortedKeys (h : Ev X e ρ (.dic ks ds) ρ1) (hc : X.calm = true) (hu : X.A.units + 100 < cLine) (hs : Srtb (ks.map wdI)) (hg : Gl X "sorted") (hm : X.mg "sorted" = none)
    (hbase : attributeBase e "keys" X.env (eval e X.env) = eval e X.env := by rfl) (hline : (apos.endLine == cpos.line) = true := by rfl)
    (he : starEach [Expr.Call (.Attribute e "keys" apos) [] [] cpos] X.env = (false, eval (Expr.Call (.Attribute e "keys" apos) [] [] cpos) X.env) :: starEach [] X.env := by rfl) :
    EvN X (.Call (.Name "sorted" p0) [.Call (.Attribute e "keys" apos) [] [] cpos] [] pos) ρ (.ml ((ks.map wdI).mergeSort dle)) ρ1 := by
  refine pe_imp (pe_callB (cr_sortedKeys hc hu) hg hm (by decide +kernel) (pa_cons (pe_keysV h hbase hline) pa_nil he) (he := he)) fun σ H Q ⟨M, F, R, q⟩ => ⟨M, F, R, fun F1 H1 v s1 R1 i1 => ?_⟩
  cases i1 with
  | @dic a kvs _ _ h1 e l =>
    refine ⟨a, kvs, rfl, R1.z.le.dT h1, fun p hp => ?_⟩
    exact sortKeys_read R1 (R1.z.le.dT h1) e hs (fun F' H' p' s' R' => q F' H' p' (s1.trans s') R') p hp
theorem evN_sortedKeysO (i : Nat) {x : Str} {px : Pos} (h : ρ[i]? = some (.md ks ds)) (hc : X.calm = true) (hu : X.A.units + 100 < cLine) (hs : Srtb (ks.map wdI)) (hg : Gl X "sorted") (hm : X.mg "sorted" = none) (hN : X.N[i]? = some x := by rfl) (hv : Vis X.env.scope x := by first | exact .inl rfl | exact .inr (.inl rfl) | exact .inr (.inr rfl)) (hd : (x == ("__debug__" : Str)) = false := by decide) (hcd : (x == ("__classdict__" : Str)) = false := by decide)
    (hbase : attributeBase (.Name x px) "keys" X.env (eval (.Name x px) X.env) = eval (.Name x px) X.env := by rfl) (hline : (apos.endLine == cpos.line) = true := by rfl)
    (he : starEach [Expr.Call (.Attribute (.Name x px) "keys" apos) [] [] cpos] X.env = (false, eval (Expr.Call (.Attribute (.Name x px) "keys" apos) [] [] cpos) X.env) :: starEach [] X.env := by rfl) :
    EvN X (.Call (.Name "sorted" p0) [.Call (.Attribute (.Name x px) "keys" apos) [] [] cpos] [] pos) ρ (.ml ((ks.map wdI).mergeSort dle)) ρ := by
  refine pe_imp (pe_callB (cr_sortedKeys hc hu) hg hm (by decide +kernel) (pa_cons (pe_keysV (pe_var hN hv hd hcd) hbase hline) pa_nil he) (he := he)) fun σ H Q ⟨M, F, R, q⟩ => ?_
  obtain ⟨a, kvs, hs', hp', e, l, _⟩ := R.md h
  refine ⟨_, hs', a, kvs, rfl, .inl hp', fun p hp => ?_⟩
  exact sortKeys_read R (.inl hp') e hs (fun F' H' p' s' R' => q F' H' p' s' R') p hp
theorem evN_listKeys (h : Ev X e ρ (.dic ks ds) ρ1) (hc : X.calm = true) (hg : Gl X "list") (hm : X.mg "list" = none)
    (hbase : attributeBase e "keys" X.env (eval e X.env) = eval e X.env := by rfl) (hline : (apos.endLine == cpos.line) = true := by rfl)
    (he : starEach [Expr.Call (.Attribute e "keys" apos) [] [] cpos] X.env = (false, eval (Expr.Call (.Attribute e "keys" apos) [] [] cpos) X.env) :: starEach [] X.env := by rfl) :
    EvN X (.Call (.Name "list" p0) [.Call (.Attribute e "keys" apos) [] [] cpos] [] pos) ρ (.ml (ks.map wdI)) ρ1 := by
  refine pe_imp (pe_callTy (call_list_keys hc) hg hm (by decide +kernel) (pa_cons (pe_keysV h hbase hline) pa_nil he) (he := he)) fun σ H Q ⟨M, F, R, q⟩ => ⟨M, F, R, fun F1 H1 v s1 R1 i1 => ?_⟩
  cases i1 with
  | @dic a kvs _ _ h1 e l =>
    refine ⟨a, kvs, rfl, R1.z.le.dT h1, fun p hp => ?_⟩
    have R2 := R1.alloc (o := keysO p a) hp
    exact ⟨p, a, kvs, rfl, upd_same, rd_upd (R1.z.le.dT h1) hp, fun l bs hl ik => q _ _ l (s1.trans (same_upd (R1.freeP hp))) (R2.own hl (isKeys_is R2 ik e))⟩
end
end K8
set_option maxHeartbeats 4000000
/-! set(xs) of tuples of ints, xs as long as one likes, with few tuples apart. -/
namespace K8
open PySem PySem.Spec PyProof.Rows L2
open PySem.SeqAt PySem.W PySem.Sem
/-- of the tuples in ks, fewer than 63 are apart -/
def FewApart (ks : List (Addr × List Int)) : Prop := ∀ L : List (Addr × List Int), (L.map (·.2)).Nodup → (∀ p ∈ L, p ∈ ks) → L.length + 1 < 64
section
variable {P : Program} {w : World} {A : Around} {E : Value → Shared → Prop}
/-- what the loop of set.update has reached at the i-th item -/
structure Upd (P : Program) (w : World) (zS : Addr) (ks : List (Addr × List Int)) (h0 : Heap) (i : Nat) (s : Shared) : Prop where
  kept : ∀ c o, h0.get? c = some o → s.heap.get? c = some o
  got : ∃ L es ep t, SetTR P w s.heap zS L es ep t ∧ Got ks i L
theorem upd_loop {it : Addr} {fp wr : List Addr} {G : Array GenState → Array GenState → Prop} {n : Nat} {Pv : Nat → Value → Prop} {St : Nat → Shared → Prop} {R : Result → Shared → Prop} (W : WalksS P w A.in1 it fp wr G n Pv St)
    (zS : Addr) (hz : zS ∉ fp) (ks : List (Addr × List Int)) (hn : n = ks.length) (few : FewApart ks) (item : ∀ i v, Pv i v → ∃ p, ks[i]? = some p ∧ v = .ref p.1) (h0 : Heap) (tups : ∀ p ∈ ks, IsT P w h0 p.2 p.1) (zfree : h0.get? zS = none) (wfree : ∀ b ∈ wr, h0.get? b = none)
    (room : A.in1.units < cLine) : ∀ (d i : Nat) (s : Shared), n - i = d → i ≤ n → St i s → Upd P w zS ks h0 i s →
    (∀ s', Moved (zS :: wr) G s s' → Upd P w zS ks h0 n s' → R (.ok (.ret .none)) s') → codeAny (model P w) A (.builtin "set.update.loop" ⟨[.ref zS, .ref it], []⟩) R s := by
  have zwr : zS ∉ wr := fun m => hz (W.sub _ m)
  have wider : ∀ c ∈ wr, c ∈ zS :: wr := fun c m => List.mem_cons_of_mem _ m
  have through : ∀ {s s' : Shared}, Moved wr G s s' → (∀ c o, h0.get? c = some o → s.heap.get? c = some o) → ∀ c o, h0.get? c = some o → s'.heap.get? c = some o :=
    fun mv kp c o e => mv.heap c o (fun m => by rw [wfree c m] at e; cases e) (kp c o e)
  intro d
  induction d with
  | zero =>
    intro i s hd hi st U fin
    obtain ⟨kp, L, es, ep, t, T, g⟩ := U
    obtain rfl : i = n := by omega
    refine codeAny_builtin F.entry_set_update_loop ?_
    rw [Around.under_plainId F.plain_set_update_loop _]
    change wpAny _ A.in1 (pyNext (.ref it) >>= _) _ _ s
    refine wpAny_bind (W.done s _ _ st fun s' mv => ?_)
    have kp' := through mv kp
    refine wpAny_pure (fin s' (mv.mono wider) ⟨kp', L, es, ep, t, T.keep (fun o e => mv.heap zS o zwr e) fun p hp => ?_, g⟩)
    exact isT_keep (tups p (List.mem_of_mem_take (g.sub p hp))) kp'
  | succ d ih =>
    intro i s hd hi st U fin
    obtain ⟨kp, L, es, ep, t, T, g⟩ := U
    have lt : i < n := by omega
    refine codeAny_builtin F.entry_set_update_loop ?_
    rw [Around.under_plainId F.plain_set_update_loop _]
    change wpAny _ A.in1 (pyNext (.ref it) >>= _) _ _ s
    refine wpAny_bind (W.item i s _ _ lt st fun v s' pv st' mv => ?_)
    obtain ⟨x, hx, rfl⟩ := item i v pv
    have kp' := through mv kp
    have inks : ∀ p ∈ L, p ∈ ks := fun p hp => List.mem_of_mem_take (g.sub p hp)
    have T' : SetTR P w s'.heap zS L es ep t := T.keep (fun o e => mv.heap zS o zwr e) fun p hp => isT_keep (tups p (inks p hp)) kp'
    have tx : IsT P w s'.heap x.2 x.1 := isT_keep (tups x (List.mem_of_getElem? hx)) kp'
    change wpAny _ A.in1 (holding [Value.ref x.1] (setAdd zS (.ref x.1)) >>= _) _ _ s'
    refine wpAny_bind (wpAny_holding ?_)
    unfold setAdd
    refine wpAny_holding (wpAny_bind (wpAny_pyHash_tuple room tx ?_))
    refine add_at (s := { s' with toks := s'.toks + (x.2.length + 1) }) T' tx room (few L T.nd inks) fun _ h' L' es' ep' t' same T2 old new => ?_
    have g' : Got ks (i + 1) L' := by
      by_cases c : x.2 ∈ L.map (·.2)
      · rw [old c]
        exact g.same hx c
      · exact g.more hx (new c)
    have kp2 : ∀ c o, h0.get? c = some o → h'.get? c = some o := fun c o e => (same.2 c (fun y => by rw [y, zfree] at e; cases e)).trans (kp' c o e)
    have st2 : St (i + 1) { s' with heap := h', toks := s'.toks + (x.2.length + 1) } := W.frame _ s' _ _ st' (Nat.le_add_right _ _) fun c m o e => by
      rw [same.2 c (fun y => hz (by rw [← y]; exact m))]
      exact e
    refine wpAny_pure ⟨plainId_quiet F.plain_set_update_loop _, ih (i + 1) _ (by omega) lt st2 ⟨kp2, L', es', ep', t', T2, g'⟩ fun s3 mv3 U3 => fin s3 (Moved.trans W.gtrans ((mv.mono wider).then_heap (Nat.le_add_right _ _) fun c o m e => ?_) mv3) U3⟩
    rw [same.2 c (fun y => m (by rw [y]; simp))]
    exact e

/-- the empty set, just made -/
def newSet (w : World) : Obj := { cls := .type "set", dict := none, data := .set #[] 0 (.fresh 0 0 (!w.params.followText "set-order")) }
theorem set_call {s : Shared} {l : Addr} {vs : Array Value} (ks : List (Addr × List Int)) {Q : Value → Shared → Prop} (calm : A.handled = none) (hl : s.heap.IsList l vs) (hv : vs.toList = ks.map fun p => Value.ref p.1) (tups : ∀ p ∈ ks, IsT P w s.heap p.2 p.1) (few : FewApart ks) (room : A.units + 3 < cLine)
    (fin : ∀ (h' : Heap) (tk : Nat) L es ep t, SetTR P w h' s.heap.objs.size L es ep t → Got ks ks.length L → (∀ c o, s.heap.get? c = some o → h'.get? c = some o) → Q (.ref s.heap.objs.size) { s with heap := h', toks := tk }) :
    wpAny (model P w) A (call (.type "set") [.ref l]) Q E s := by
  have vsz : vs.size = ks.length := by
    have := congrArg List.length hv
    simpa using this
  obtain ⟨c0, t0, mro0⟩ := F.called_set.mro
  have made0 := F.called_set.made
  have sub0 := F.called_set.sub
  refine wpAny_call (codeAny_of_tree ?_)
  change wpAny _ _ (callAny (.type "set") _) _ _ _
  refine wpAny_pure ⟨Code.quiet_builtin _ (by decide +kernel), codeAny_builtin F.entry_type_call ?_⟩
  rw [Around.under_plain (weight_type_call_type "set" [.ref l] []) rfl]
  have nt0 := F.called_set.notType
  have cc0 := F.called_set.canCreate
  have tc0 := F.typeCall_set_1 (.ref l)
  repeat (any_goals (first | assumption | wp_step))
  have top : (s.heap.push (newSet w)).get? s.heap.objs.size = some (newSet w) := Heap.get?_push_size _ rfl
  refine codeAny_mono (code_set_led1 (.ref l) (E := E) (Q₁ := fun ob s1 => ob = .ref s.heap.objs.size ∧ s1 = { s with heap := s.heap.push (newSet w) }) ⟨rfl, rfl⟩) fun r1 s1 hr1 => ?_
  cases r1 with
  | error e => exact hr1
  | ok f1 =>
    cases f1 with
    | ret ob =>
      obtain ⟨rfl, rfl⟩ := hr1
      have isSet : Shared.TypeIs { s with heap := s.heap.push (newSet w) } (.ref s.heap.objs.size) "set" := ⟨_, top, rfl⟩
      have look0 := F.called_set.init.lookup
      have bind0 := F.called_set.init.bind (.ref s.heap.objs.size)
      repeat (any_goals (first | assumption | wp_step))
      refine codeAny_mono (codeAny_call_builtin (R := wants (fun r s2 => r = .none ∧ ∃ h' tk, s2 = { s with heap := h', toks := tk } ∧ Upd P w s.heap.objs.size ks s.heap ks.length s2) E) F.called_set.init.plain F.entry_set_init (check_set_init_1 isSet ?_)) fun r2 s2 hr2 => ?_
      · obtain ⟨ol, holt, hcl, nl, hdl⟩ := hl
        obtain ⟨oc, od, oda, osl⟩ := ol
        simp only at hcl hdl
        subst hcl; subst hdl
        have held : (s.heap.push (newSet w)).get? l = some { cls := .type "list", dict := od, data := .seq vs nl, slots := osl } := Heap.get?_push_of_some _ holt
        have f1 := F.sub_list_set
        have f2 := F.sub_list_frozenset
        have f3 : (Value.type "list" == Value.type "dict") = false := by decide
        have isl : (s.heap.push (newSet w)).IsList l vs := ⟨_, held, rfl, nl, rfl⟩
        unfold Builtin.«set.__init__» noKeywords Builtin.Frozenset.updateFrom
        generalize pe : pyIter = pi
        wp_walk
        subst pe
        refine wpAny_pyIter_list isl ?_
        refine wpAny_bind (wpAny_runValue ?_)
        have lsz : l < s.heap.objs.size := Heap.lt_size holt
        have psz : (s.heap.push (newSet w)).objs.size = s.heap.objs.size + 1 := Heap.size_push ..
        have calm3 : A.in1.in1.in1.handled = none := by simp [calm]
        have lne : l ≠ (s.heap.push (newSet w)).objs.size := by rw [psz]; exact Nat.ne_of_lt (Nat.lt_succ_of_lt lsz)
        have beyond : ∀ c, s.heap.objs.size ≤ c → s.heap.get? c = none := fun c hc => by
          cases q : s.heap.get? c with
          | none => rfl
          | some o =>
            exact absurd (Heap.lt_size q) (Nat.not_lt.mpr hc)
        have item : ∀ (i : Nat) (v : Value), vs[i]? = some v → ∃ p, ks[i]? = some p ∧ v = .ref p.1 := fun i v hi => by
          have q : vs.toList[i]? = some v := by rw [Array.getElem?_toList]; exact hi
          rw [hv, List.getElem?_map] at q
          cases hk : ks[i]? with
          | none => rw [hk] at q; cases q
          | some p =>
            rw [hk] at q
            exact ⟨p, rfl, (Option.some.inj q).symm⟩
        refine upd_loop (Walks.list calm3 _ l lne vs).toS s.heap.objs.size ?_ ks vsz few item s.heap tups (beyond _ (Nat.le_refl _)) ?_ room (vs.size - 0) 0 _ rfl (Nat.zero_le _) ⟨⟨_, Heap.get?_push_size _ rfl, rfl, rfl⟩, isl.push _⟩ ⟨fun c o e => Heap.get?_push_of_some _ (Heap.get?_push_of_some _ e), [], #[], 0, _, setTR_fresh (Heap.get?_push_of_some _ top), Got.zero ks⟩ ?_
        · simp only [List.mem_cons, List.not_mem_nil, or_false, not_or]
          exact ⟨by rw [psz]; exact Nat.ne_of_lt (Nat.lt_succ_self _), Nat.ne_of_gt lsz⟩
        · intro c hc
          rw [List.mem_singleton.mp hc]
          exact beyond _ (by rw [psz]; exact Nat.le_succ _)
        · intro s3 mv U
          obtain ⟨h3, g3, d3, tk3, os3⟩ := s3
          have eg : g3 = s.gens := mv.gens
          have ed : d3 = s.drawn := mv.drawn
          have eo : os3 = s.os := mv.os
          subst eg; subst ed; subst eo
          rw [vsz] at U
          exact wpAny_pure (wpAny_pure ⟨rfl, h3, tk3, rfl, U⟩)
      · cases r2 with
        | error e => exact hr2
        | ok f2 =>
          cases f2 with
          | ret r =>
            obtain ⟨rfl, h3, tk, rfl, kp, L, es, ep, t, T, g⟩ := hr2
            repeat (any_goals (first | assumption | wp_step))
            exact fin _ _ _ _ _ _ T g kp
          | _ => exact hr2.elim
    | _ => exact hr1.elim
end
end K8
/-! sorted(set(xs)), xs a list of words of one length. -/
namespace K8
open PySem PySem.Spec PyProof.Rows L2
open PySem.SeqAt PySem.W PySem.Sem
def dedup {α : Type} [DecidableEq α] : List α → List α
  | [] => []
  | a :: l => if a ∈ dedup l then dedup l else a :: dedup l
theorem mem_dedup {α : Type} [DecidableEq α] {a : α} : ∀ {l : List α}, a ∈ dedup l ↔ a ∈ l
  | [] => Iff.rfl
  | b :: l => by
    rw [dedup]
    split
    · rename_i h
      rw [mem_dedup (l := l), List.mem_cons]
      refine ⟨.inr, fun z => ?_⟩
      rcases z with rfl | z
      · exact mem_dedup.mp h
      · exact z
    · rw [List.mem_cons, List.mem_cons, mem_dedup (l := l)]
theorem nodup_dedup {α : Type} [DecidableEq α] : ∀ (l : List α), (dedup l).Nodup
  | [] => List.nodup_nil
  | b :: l => by
    rw [dedup]
    split
    · exact nodup_dedup l
    · rename_i h
      exact List.nodup_cons.mpr ⟨h, nodup_dedup l⟩
def codeLe (B : Int) (a b : List Int) : Bool := decide (TS.code B a ≤ TS.code B b)
/-- sorted(set(l)) -/
def setW (B : Int) (l : List (List Int)) : List (List Int) := (dedup l).mergeSort (codeLe B)
theorem mem_setW {B : Int} {l : List (List Int)} {k : List Int} : k ∈ setW B l ↔ k ∈ l := by
  unfold setW
  rw [(List.mergeSort_perm _ _).mem_iff, mem_dedup]
theorem nodup_setW (B : Int) (l : List (List Int)) : (setW B l).Nodup := by
  unfold setW
  rw [(List.mergeSort_perm _ _).nodup_iff]
  exact nodup_dedup l
theorem code_one {B : Int} : ∀ {a b : List Int}, a.length = b.length → TS.Bd B a → TS.Bd B b → TS.code B a = TS.code B b → a = b
  | [], [], _, _, _, _ => rfl
  | x :: a, y :: b, hl, ha, hb, e => by
    have hl' : a.length = b.length := by simpa using hl
    have ha' : TS.Bd B a := fun m hm => ha m (List.mem_cons_of_mem _ hm)
    have hb' : TS.Bd B b := fun m hm => hb m (List.mem_cons_of_mem _ hm)
    rcases Int.lt_trichotomy x y with z | z | z
    · have := TS.code_lt hl' ha' hb' z
      omega
    · subst z
      have e' : TS.code B a = TS.code B b := by
        unfold TS.code at e
        rw [hl'] at e
        omega
      rw [code_one hl' ha' hb' e']
    · have := TS.code_lt hl'.symm hb' ha' z
      omega
theorem setW_unique {B : Int} {d : Nat} {l m : List (List Int)} (hd : ∀ k ∈ l, k.length = d ∧ TS.Bd B k) (hm : ∀ k, k ∈ m ↔ k ∈ l) (nd : m.Nodup) (pw : m.Pairwise fun a b => TS.code B a ≤ TS.code B b) : m = setW B l := by
  have p : m.Perm (setW B l) := (List.perm_ext_iff_of_nodup nd (nodup_setW B l)).mpr fun k => by rw [hm, mem_setW]
  have pw2 : (setW B l).Pairwise fun a b => TS.code B a ≤ TS.code B b := by
    have := List.pairwise_mergeSort (le := codeLe B) (fun a b c h1 h2 => by
      unfold codeLe at *
      have := of_decide_eq_true h1
      have := of_decide_eq_true h2
      exact decide_eq_true (by omega)) (fun a b => by
      unfold codeLe
      simp only [Bool.or_eq_true, decide_eq_true_eq]
      omega) (dedup l)
    refine this.imp fun h => ?_
    unfold codeLe at h
    exact of_decide_eq_true h
  refine List.Perm.eq_of_pairwise (fun a b ha hb h1 h2 => ?_) pw pw2 p
  have qa := hd a ((hm a).mp ha)
  have qb := hd b (mem_setW.mp hb)
  exact code_one (qa.1.trans qb.1.symm) qa.2 qb.2 (by omega)
section
variable {X : Cx}
def rSetW (K : PySem.W.Frag) (P : Program) (w : World) : List V → Hp → VK → Prop := fun xs H Q => ∃ (l : Addr) (ks : List (Addr × List Int)), xs = [V.ref l] ∧ SqL K H l (ks.map fun p => V.ref p.1) ∧ (∀ p ∈ ks, SqT K H p.1 (p.2.map V.int)) ∧ FewApart ks ∧
  ∀ a L, H a = none → (∀ p ∈ L, p ∈ ks) → (∀ p ∈ ks, p.2 ∈ L.map (·.2)) → Q (.ref a) (upd H a (SetTO P w a L))
theorem cr_setW (hc : X.calm = true) (hu : X.A.units + 64 < cLine) : CallR X (.type "set") (rSetW X.K X.prog X.w) := by
  intro pins s σ H xs us Q I r h
  obtain ⟨l, ks, rfl, hl, hk, few, q⟩ := h
  rw [Vals.ref1 r]
  obtain ⟨its, rv, pl, hz⟩ := I.list hl
  have fresh0 : H s.heap.objs.size = none := I.hok.fresh (Nat.le_refl _)
  refine set_call (P := X.prog) (w := X.w) ks (I.ok.hd hc) pl.isList (by simpa using refs_of_vals rv) (fun p hp => I.isT (hk p hp)) few (by omega) fun h' tk L es ep t R g k => ?_
  refine ⟨.ref s.heap.objs.size, upd H s.heap.objs.size (SetTO X.prog X.w s.heap.objs.size L), I.laid (t' := tk) k (Nat.le_refl _) (setTO_new R.t0), rfl, q _ L fresh0 (fun p hp => List.mem_of_mem_take (g.sub p hp)) fun p hp => g.all p ?_⟩
  rw [List.take_length]
  exact hp
/-- a list of words, with the words' places -/
theorem words_at {K : PySem.W.Frag} {F : Hp} : ∀ {vs : List V} {ks : List (List Int)}, IsL K F vs (ks.map wdI) → ∃ ps : List (Addr × List Int), vs = ps.map (fun p => V.ref p.1) ∧ ps.map (·.2) = ks ∧ ∀ p ∈ ps, F p.1 = some (.tup (p.2.map V.int))
  | _, [], .nil => ⟨[], rfl, rfl, fun p hp => by cases hp⟩
  | _, k :: ks, .cons h t => by
    obtain ⟨ps, e1, e2, h3⟩ := words_at t
    cases h with
    | @tup a xs _ h1 h2 =>
      have ex := IsL.ints h2
      subst ex
      refine ⟨(a, k) :: ps, by rw [e1]; rfl, by rw [List.map_cons, e2], fun p hp => ?_⟩
      rcases List.mem_cons.mp hp with rfl | hp
      · exact h1
      · exact h3 p hp
theorem isL_words {K : PySem.W.Frag} {F : Hp} : ∀ (ps : List (Addr × List Int)), (∀ p ∈ ps, F p.1 = some (.tup (p.2.map V.int))) → IsL K F (ps.map fun p => V.ref p.1) ((ps.map (·.2)).map wdI)
  | [], _ => .nil
  | p :: ps, h => .cons (.tup (h p List.mem_cons_self) (IsL.of_ints _)) (isL_words ps fun q hq => h q (List.mem_cons_of_mem _ hq))
variable {e : Expr} {ρ ρ1 : List C} {ks : List (List Int)} {p p2 pos pos2 : Pos} {d : Nat}
theorem evN_sortedSet (h : Ev X e ρ (.lst (ks.map wdI)) ρ1) (hc : X.calm = true) (hu : X.A.units + 64 < cLine) (hd : ∀ k ∈ ks, k.length = d ∧ TS.Bd 4 k) (hd1 : 1 ≤ d) (few : ∀ L : List (List Int), L.Nodup → (∀ k ∈ L, k ∈ ks) → L.length + 1 < 64) (hg : Gl X "sorted") (hm : X.mg "sorted" = none) (hg2 : Gl X "set") (hm2 : X.mg "set" = none)
    (he : starEach [e] X.env = (false, eval e X.env) :: starEach [] X.env := by rfl) (he2 : starEach [Expr.Call (.Name "set" p2) [e] [] pos2] X.env = (false, eval (Expr.Call (.Name "set" p2) [e] [] pos2) X.env) :: starEach [] X.env := by rfl) :
    EvN X (.Call (.Name "sorted" p) [.Call (.Name "set" p2) [e] [] pos2] [] pos) ρ (.ml ((setW 4 ks).map wdI)) ρ1 := by
  refine pe_imp (pe_callB (cr_sortedT hc) hg hm (by decide +kernel) (pa_cons (pe_callTy (cr_setW hc hu) hg2 hm2 (by decide +kernel) (evA_cons h evA_nil he) (he := he)) pa_nil he2) (he := he2)) fun σ H Q ⟨M, F, R, q⟩ => ⟨M, F, R, fun F1 H1 v s1 R1 l => ?_⟩
  cases l with
  | cons i1 l1 =>
    cases l1
    cases i1 with
    | lst a b =>
      obtain ⟨ps, rfl, e2, h3⟩ := words_at b
      refine ⟨_, ps, rfl, .inl (.inl (R1.z.le.lst a)), fun x hx => .inl (.inl (R1.z.le.tup (h3 x hx))), fun L nd hL => ?_, fun a2 L ha2 hL hall => ?_⟩
      · have := few (L.map (·.2)) nd fun k hk => by
          obtain ⟨x, hx, rfl⟩ := List.mem_map.mp hk
          rw [← e2]
          exact List.mem_map.mpr ⟨x, hL x hx, rfl⟩
        simpa using this
      · have R2 := R1.alloc (o := SetTO X.prog X.w a2 L) ha2
        refine ⟨a2, L, d, 4, rfl, upd_same, fun x hx => .inl (.inl ?_), hd1, fun x hx => hd x.2 (by rw [← e2]; exact List.mem_map.mpr ⟨x, hL x hx, rfl⟩), fun L' l pm nd few2 pw hl => ?_⟩
        · rw [upd_ne (ne_of_none (R1.z.le.tup (h3 x (hL x hx))) ha2)]
          exact R1.z.le.tup (h3 x (hL x hx))
        · have em : L'.map (·.2) = setW 4 ks := by
            refine setW_unique hd (fun k => ⟨fun hk => ?_, fun hk => ?_⟩) nd (List.pairwise_map.mpr pw)
            · obtain ⟨x, hx, rfl⟩ := List.mem_map.mp hk
              rw [← e2]
              exact List.mem_map.mpr ⟨x, hL x (pm.mem_iff.mp hx), rfl⟩
            · rw [← e2] at hk
              obtain ⟨x, hx, rfl⟩ := List.mem_map.mp hk
              obtain ⟨y, hy, ey⟩ := List.mem_map.mp (hall x hx)
              rw [← ey]
              exact List.mem_map.mpr ⟨y, pm.mem_iff.mpr hy, rfl⟩
          have il : IsL X.K (upd F1 a2 (SetTO X.prog X.w a2 L)) (L'.map fun x => V.ref x.1) ((setW 4 ks).map wdI) := by
            rw [← em]
            refine isL_words L' fun x hx => ?_
            have hF := h3 x (hL x (pm.mem_iff.mp hx))
            rw [upd_ne (ne_of_none hF (R1.freeP ha2))]
            exact hF
          exact q _ _ l (s1.trans (same_upd (R1.freeP ha2))) (R2.own hl il)
end
end K8
set_option maxHeartbeats 1000000
/-! a <= b, a > b of tuples; the order of data. -/
namespace K8
open PySem PySem.Spec PyProof.Rows L2
open PySem.SeqAt PySem.W
/-- a < b -/
def dlt (a b : D) : Bool := dataLt a.py b.py
theorem dle_dlt (a b : D) : dle a b = !dlt b a := rfl
section
variable {X : Cx} {d e : D} {n k : Nat}
theorem cop_leD (hr : Room k X.A) (hd : D.okn n d) (he : D.okn n e) (ha : alike d.py e.py = true) (hnn : d.py ≠ .none) (hn : n ≤ 32 := by decide) : Cop X .LtE d e (!dlt e d) :=
  ⟨fun x y H Q => Dp X.K H x d.py ∧ Dp X.K H y e.py ∧ Q (.bl (!dlt e d)) H, fun pins s σ H x y v u Q I rx ry ⟨hx, hy, q⟩ => by
    obtain ⟨as, r1⟩ := hx.reads I d.py x v rx
    obtain ⟨bs, r2⟩ := hy.reads I e.py y u ry
    have dp := (py_lay n d hd).2
    have un := hr.units
    exact le_data r1 r2 ha hnn (by omega) ⟨.bl _, H, I, rfl, q⟩, fun M ρ F σ H x y Q R a b q => ⟨dp_of R.z.le n hd a, dp_of R.z.le n he b, q F H _ (Same.refl _) R (.bl _)⟩⟩
theorem cop_gtD (hr : Room k X.A) (hd : D.okn n d) (he : D.okn n e) (ha : alike d.py e.py = true) (hnn : d.py ≠ .none) (hn : n ≤ 32 := by decide) : Cop X .Gt d e (dlt e d) :=
  ⟨fun x y H Q => Dp X.K H x d.py ∧ Dp X.K H y e.py ∧ Q (.bl (dlt e d)) H, fun pins s σ H x y v u Q I rx ry ⟨hx, hy, q⟩ => by
    obtain ⟨as, r1⟩ := hx.reads I d.py x v rx
    obtain ⟨bs, r2⟩ := hy.reads I e.py y u ry
    have dp := (py_lay n d hd).2
    have un := hr.units
    exact gt_data r1 r2 ha hnn (by omega) ⟨.bl _, H, I, rfl, q⟩, fun M ρ F σ H x y Q R a b q => ⟨dp_of R.z.le n hd a, dp_of R.z.le n he b, q F H _ (Same.refl _) R (.bl _)⟩⟩
end
/-! which data are alike -/
theorem alike_ints : ∀ (a b : List Int), alikeAll (D.pyL (a.map D.int)) (D.pyL (b.map D.int)) = true
  | [], [] => rfl
  | [], _ :: _ => rfl
  | _ :: _, [] => rfl
  | x :: a, y :: b => by
    show (alike (.int x) (.int y) && alikeAll (D.pyL (a.map D.int)) (D.pyL (b.map D.int))) = true
    rw [alike_ints a b]
    rfl
theorem alike_wdI (a b : List Int) : alike (wdI a).py (wdI b).py = true := alike_ints a b
theorem wd_wdI (w : List Nat) : wd w = wdI (w.map fun n : Nat => (n : Int)) := wd_key w
theorem alike_wd (a b : List Nat) : alike (wd a).py (wd b).py = true := by rw [wd_wdI, wd_wdI]; exact alike_wdI _ _
theorem alike_two {a b c d : D} (h1 : alike a.py c.py = true) (h2 : alike b.py d.py = true) : alike (D.tup [a, b]).py (D.tup [c, d]).py = true := by
  show (alike a.py c.py && (alike b.py d.py && true)) = true
  rw [h1, h2]
  rfl
theorem alike_nD (a b : Nat) : alike (nD a).py (nD b).py = true := rfl
/-- the order is total, and strict apart -/
theorem dlt_total {d e : D} (ha : alike d.py e.py = true) (hne : PyData.eqv d.py e.py = false) : dlt d e = true ∨ dlt e d = true := by
  cases h1 : dlt d e with
  | true => exact .inl rfl
  | false =>
    cases h2 : dlt e d with
    | true => exact .inr rfl
    | false =>
      have ek : keyToks d.py = keyToks e.py := PyProof.Rows.lex_total _ _ h1 h2
      have z := (toks_eqv d.py e.py ha).2 hne [] [.inl 0]
      rw [← ek, lex_pre] at z
      have y : PyProof.Rows.lexLt itemOrd (keyToks d.py) (keyToks d.py) = false := by
        unfold dlt dataLt at h1
        rw [← ek] at h1
        exact h1
      rw [y] at z
      exact absurd z (by decide)
theorem dle_trans (a b c : D) (h1 : dle a b = true) (h2 : dle b c = true) : dle a c = true := (sortLe_total (listOrd itemOrd) false fun b : D => keyToks b.py).trans a b c h1 h2
theorem dle_total (a b : D) : (dle a b || dle b a) = true := by
  rw [Bool.or_eq_true]
  exact (sortLe_total (listOrd itemOrd) false fun b : D => keyToks b.py).total a b
theorem dle_anti {n : Nat} {a b : D} (ha : D.okn n a) (hb : D.okn n b) (al : alike a.py b.py = true) (h1 : dle a b = true) (h2 : dle b a = true) : a = b := by
  refine (eqv_iff n a b ha hb).mp ?_
  cases h : PyData.eqv a.py b.py with
  | true => rfl
  | false =>
    rw [dle_dlt] at h1 h2
    rcases dlt_total al h with z | z
    · rw [z] at h2
      cases h2
    · rw [z] at h1
      cases h1
/-- a list of things, sorted as data -/
def sortBy {α : Type} (enc : α → D) (l : List α) : List α := l.mergeSort fun a b => dle (enc a) (enc b)
theorem sortBy_map {α : Type} (enc : α → D) (l : List α) : (l.map enc).mergeSort dle = (sortBy enc l).map enc := (List.map_mergeSort (r := fun a b => dle (enc a) (enc b)) (s := dle) (f := enc) fun _ _ _ _ => rfl).symm
theorem sortBy_perm {α : Type} (enc : α → D) (l : List α) : (sortBy enc l).Perm l := List.mergeSort_perm _ _
theorem sortBy_pw {α : Type} (enc : α → D) (l : List α) : (sortBy enc l).Pairwise fun a b => dle (enc a) (enc b) = true :=
  List.pairwise_mergeSort (le := fun a b => dle (enc a) (enc b)) (fun a b c => dle_trans _ _ _) (fun a b => dle_total _ _) l
/-- sorted lists of the same things are the same -/
theorem sorted_same {α : Type} {enc : α → D} {n : Nat} {l m : List α} (ok : ∀ a, D.okn n (enc a)) (inj : ∀ a b, enc a = enc b → a = b) (al : ∀ a b, alike (enc a).py (enc b).py = true) (hl : l.Pairwise fun a b => dle (enc a) (enc b) = true) (hm : m.Pairwise fun a b => dle (enc a) (enc b) = true)
    (nl : l.Nodup) (nm : m.Nodup) (e : ∀ a, a ∈ l ↔ a ∈ m) : l = m :=
  List.Perm.eq_of_pairwise (fun a b _ _ h1 h2 => inj a b (dle_anti (ok a) (ok b) (al a b) h1 h2)) hl hm ((List.perm_ext_iff_of_nodup nl nm).mpr e)
theorem srtb_of {α : Type} {enc : α → D} {l : List α} {n : Nat} (ok : ∀ a, D.okn n (enc a)) (al : ∀ a b, alike (enc a).py (enc b).py = true) (tu : ∀ a ∈ l, ∃ x r, enc a = .tup (x :: r)) (hn : n ≤ 32 := by decide) : Srtb (l.map enc) := by
  refine ⟨fun d hd d' hd' => ?_, .inl fun d hd => ?_, fun d hd => ?_⟩
  · obtain ⟨_, h1, rfl⟩ := List.mem_map.mp hd
    obtain ⟨_, h2, rfl⟩ := List.mem_map.mp hd'
    obtain ⟨a, _, rfl⟩ := List.mem_map.mp h1
    obtain ⟨b, _, rfl⟩ := List.mem_map.mp h2
    exact al a b
  · obtain ⟨_, h1, rfl⟩ := List.mem_map.mp hd
    obtain ⟨a, ha, rfl⟩ := List.mem_map.mp h1
    obtain ⟨x, r, e⟩ := tu a ha
    rw [e]
    exact ⟨x.py, D.pyL r, rfl⟩
  · obtain ⟨a, ha, rfl⟩ := List.mem_map.mp hd
    exact Nat.le_trans (py_lay n _ (ok a)).2 hn
end K8
/-! Lists of one's own of lists of one's own. -/
namespace K8
open PySem PySem.Spec PyProof.Rows L2
section
variable {K : PySem.W.Frag} {M M1 M' F F' H : Hp} {ρ ρ1 ρ2 : List C} {σ : St} {p : Addr} {dss : List (List D)} {ds : List D} {i : Nat}
/-- the outer list at p and the inner ones, put by -/
structure Rows (K : PySem.W.Frag) (M1 : Hp) (p : Addr) (qs : List Addr) (M' F : Hp) (dss : List (List D)) : Prop where
  same : Same M1 M'
  nd : (p :: qs).Nodup
  p0 : M1 p = none
  q0 : ∀ q ∈ qs, M1 q = none
  outer : M' p = some (.lst (qs.map V.ref))
  len : qs.length = dss.length
  inner : ∀ (i : Nat) q ds, qs[i]? = some q → dss[i]? = some ds → ∃ xs, M' q = some (.lst xs) ∧ IsL K F xs ds
theorem Rows.mono {qs : List Addr} (R : Rows K M1 p qs M' F dss) (s : Same F F') : Rows K M1 p qs M' F' dss :=
  ⟨R.same, R.nd, R.p0, R.q0, R.outer, R.len, fun i q ds a b => let ⟨xs, h1, h2⟩ := R.inner i q ds a b; ⟨xs, h1, h2.mono s⟩⟩
theorem Rows.inA {qs : List Addr} (R : Rows K M1 p qs M' F dss) {a : Addr} (h : a ∈ p :: qs) : M1 a = none ∧ ∃ xs, M' a = some (.lst xs) := by
  rcases List.mem_cons.mp h with rfl | h
  · exact ⟨R.p0, _, R.outer⟩
  · obtain ⟨i, hi, e⟩ := List.mem_iff_getElem.mp h
    have hi2 : i < dss.length := by rw [← R.len]; exact hi
    obtain ⟨xs, h1, _⟩ := R.inner i a dss[i] (by rw [← e]; exact List.getElem?_eq_getElem hi) (List.getElem?_eq_getElem hi2)
    exact ⟨R.q0 a h, xs, h1⟩
theorem upd_self {M : Hp} {p : Addr} {o : HO} (h : M p = some o) : upd M p o = M := by
  funext a
  by_cases z : a = p
  · rw [z, upd_same, h]
  · rw [upd_ne z]
theorem Rows.start (h : M1 p = none) : Rows K M1 p [] (upd M1 p (.lst [])) F [] :=
  ⟨same_upd h, by simp, h, fun q hq => (by cases hq), upd_same, rfl, fun i q ds a _ => by simp at a⟩
theorem Rows.push {qs : List Addr} {q : Addr} {xs : List V} (R : Rows K M1 p qs M' F dss) (hq : M' q = none) (l : IsL K F xs ds) : Rows K M1 p (qs ++ [q]) (upd (upd M' q (.lst xs)) p (.lst ((qs ++ [q]).map V.ref))) F (dss ++ [ds]) := by
  have hpq : q ≠ p := fun z => by rw [z, R.outer] at hq; cases hq
  have hq1 : M1 q = none := by
    cases z : M1 q with
    | none => rfl
    | some u => rw [R.same _ _ z] at hq; cases hq
  have nin : q ∉ qs := fun hm => by
    obtain ⟨_, xs, e⟩ := R.inA (List.mem_cons_of_mem p hm)
    rw [e] at hq
    cases hq
  refine ⟨fun a u e => ?_, ?_, R.p0, fun a ha => ?_, upd_same, by simp [R.len], fun i a es h1 h2 => ?_⟩
  · have n1 : a ≠ p := fun z => by rw [z, R.p0] at e; cases e
    have n2 : a ≠ q := fun z => by rw [z, hq1] at e; cases e
    rw [upd_ne n1, upd_ne n2]
    exact R.same _ _ e
  · have := R.nd
    simp only [List.nodup_cons, List.nodup_append, List.mem_append, List.mem_singleton] at this ⊢
    refine ⟨fun z => ?_, this.2, by simp, fun a ha b hb e => ?_⟩
    · rcases z with z | z
      · exact this.1 z
      · exact hpq z.symm
    · rw [e, hb] at ha
      exact nin ha
  · rcases List.mem_append.mp ha with ha | ha
    · exact R.q0 a ha
    · rw [List.mem_singleton.mp ha]
      exact hq1
  · by_cases hi : i < qs.length
    · rw [List.getElem?_append_left hi] at h1
      rw [List.getElem?_append_left (by rw [← R.len]; exact hi)] at h2
      obtain ⟨ys, e1, e2⟩ := R.inner i a es h1 h2
      have n1 : a ≠ p := fun z => by
        have := R.nd
        rw [List.nodup_cons] at this
        exact this.1 (z ▸ List.mem_of_getElem? h1)
      have n2 : a ≠ q := fun z => nin (z ▸ List.mem_of_getElem? h1)
      exact ⟨ys, by rw [upd_ne n1, upd_ne n2]; exact e1, e2⟩
    · have hb := (List.getElem?_eq_some_iff.mp h1).1
      simp at hb
      have ei : i = qs.length := by omega
      rw [ei] at h1 h2
      rw [List.getElem?_append_right (Nat.le_refl _)] at h1
      rw [R.len, List.getElem?_append_right (Nat.le_refl _)] at h2
      simp at h1 h2
      subst h1 h2
      exact ⟨xs, by rw [upd_ne hpq, upd_same], l⟩
/-- taken back -/
theorem Rl.takeR {qs : List Addr} (R : Rl K M' ρ F σ H) (W : Rows K M1 p qs M' F dss) : Rl K M1 (ρ ++ [.mm dss]) F (σ ++ [some (.ref p)]) H := by
  obtain ⟨fp, h1, h2⟩ := R.ow
  have hF : ∀ a ∈ p :: qs, F a = none ∧ H a ≠ none := fun a ha => by
    obtain ⟨_, xs, e⟩ := W.inA ha
    refine ⟨?_, by rw [R.z.mh _ _ e]; simp⟩
    cases q : F a with
    | none => rfl
    | some u =>
      rcases R.z.fm a u q with z | ⟨x, y, z⟩ <;> (rw [e] at z; cases z)
  have nin : ∀ {j : Nat} {c : C}, ρ[j]? = some c → c.own = true → ∀ a ∈ p :: qs, a ∉ fp j := fun {j c} e q a ha hm => by
    obtain ⟨_, _, _, f⟩ := h1 j c e q
    obtain ⟨_, xs, e'⟩ := W.inA ha
    rw [(f a hm).2.1] at e'
    cases e'
  have key : ∀ {j : Nat} {x : C}, (ρ ++ [C.mm dss])[j]? = some x → (j < ρ.length ∧ ρ[j]? = some x) ∨ (j = ρ.length ∧ x = .mm dss) := fun {j x} e => by
    by_cases hj : j < ρ.length
    · rw [List.getElem?_append_left hj] at e
      exact .inl ⟨hj, e⟩
    · have hb := (List.getElem?_eq_some_iff.mp e).1
      simp only [List.length_append, List.length_cons, List.length_nil] at hb
      have ej : j = ρ.length := by omega
      subst ej
      simp at e
      exact .inr ⟨rfl, e.symm⟩
  have oldS : ∀ {j : Nat}, j < ρ.length → (σ ++ [some (V.ref p)])[j]? = σ[j]? := fun {j} e => List.getElem?_append_left (by rw [← R.len]; exact e)
  refine ⟨⟨R.z.le, fun a u e => R.z.mh _ _ (W.same _ _ e), fun a u e => ?_, R.z.tp⟩, by simp [R.len], fun j d e => ?_, fun j => if j = ρ.length then p :: qs else fp j, fun j x e q => ?_, fun j k cj ck hne e1 o1 e2 o2 => ?_⟩
  · cases z : M1 a with
    | none => exact .inl rfl
    | some w =>
      rcases R.z.fm a u e with y | ⟨b, c, y⟩
      · rw [W.same _ _ z] at y
        cases y
      · rw [W.same _ _ z] at y
        cases y
        exact .inr ⟨b, c, rfl⟩
  · rcases key e with ⟨hj, e'⟩ | ⟨_, x⟩
    · obtain ⟨v, a, b⟩ := R.va j d e'
      exact ⟨v, by rw [oldS hj]; exact a, b⟩
    · cases x
  · rcases key e with ⟨hj, e'⟩ | ⟨rfl, rfl⟩
    · obtain ⟨q', a, b, f⟩ := h1 j x e' q
      refine ⟨q', by rw [oldS hj]; exact a, ?_⟩
      have hn : j ≠ ρ.length := Nat.ne_of_lt hj
      simp only [if_neg hn]
      refine ⟨b, fun y hy => ?_⟩
      obtain ⟨g1, g2, g3⟩ := f y hy
      refine ⟨g1, ?_, g3⟩
      cases z : M1 y with
      | none => rfl
      | some u => rw [W.same _ _ z] at g2; cases g2
    · refine ⟨p, by rw [R.len]; simp, ?_⟩
      simp only [if_true]
      refine ⟨⟨qs, rfl, W.nd, R.z.mh _ _ W.outer, W.len, fun i q ds a b => ?_⟩, fun y hy => ⟨(hF y hy).1, (W.inA hy).1, (hF y hy).2⟩⟩
      obtain ⟨xs, e1, e2⟩ := W.inner i q ds a b
      exact ⟨xs, R.z.mh _ _ e1, e2⟩
  · rcases key e1 with ⟨hj, e1'⟩ | ⟨rfl, x1⟩
    · have hn : j ≠ ρ.length := Nat.ne_of_lt hj
      rcases key e2 with ⟨hk, e2'⟩ | ⟨rfl, x2⟩
      · simp only [if_neg hn, if_neg (Nat.ne_of_lt hk)]
        exact h2 j k cj ck hne e1' o1 e2' o2
      · simp only [if_neg hn, if_pos rfl]
        exact fun y hy hy' => nin e1' o1 y hy' hy
    · rcases key e2 with ⟨hk, e2'⟩ | ⟨rfl, x2⟩
      · simp only [if_pos rfl, if_neg (Nat.ne_of_lt hk)]
        exact fun y hy hy' => nin e2' o2 y hy hy'
      · exact absurd rfl hne
end
end K8
/-! y = [a new list for a, b in ..]; reading and writing y[i][j]. -/
namespace K8
open PySem PySem.Spec PyProof.Rows L2
section
variable {X : Cx} {e elt iter : Expr} {pos p : Pos} {ρ ρ1 ρ2 : List C} {scope : Scope} {dss : List (List D)} {d : D}
theorem run_mapR2 {α : Type} (n : Nat) {z : Str} {pz spos : Pos} (l : List α) (e1 e2 : α → D) (f : α → List D) (i j : Nat) {x y : Str} {px py pt : Pos} {kt : Nat} (hc : X.calm = true) (hN : X.N.Nodup) (hz : X.N[n]? = some z) (hzl : X.env.scope.names.lookup z = some .local)
    (hsw : swapsWith (.ListComp elt [⟨.Tuple [.Name x px, .Name y py] kt pt, iter, [], 0⟩] scope pos) (some (.Name z pz)) spos.line X.env = pure true) (hi : Itr' X (.Tuple [.Name x px, .Name y py] kt pt) iter ρ (l.map fun a => .tup [e1 a, e2 a]) ρ1) (ok : BlkOk X.N X.env.scope scope [(x, i), (y, j)]) (hl : l.length < sizeLine)
    (hxi : X.N[i]? = some x) (hyj : X.N[j]? = some y) (hx : scope.names.lookup x = some .local) (hy : scope.names.lookup y = some .local)
    (he : ∀ a ∈ l, ∀ X', Blk X scope X' → EvN X' elt ((ρ1.set i (.va (e1 a))).set j (.va (e2 a))) (.ml (f a)) ((ρ1.set i (.va (e1 a))).set j (.va (e2 a)))) (hij : i ≠ j) (hv : ∀ c, ρ1[i]? = some c → c.own = false) (hv2 : ∀ c, ρ1[j]? = some c → c.own = false)
    (hs : ∀ x, foldedSetIterable iter X.env x = pure x := by intro _; rfl) : Run X (.Assign [.Name z pz] (.ListComp elt [⟨.Tuple [.Name x px, .Name y py] kt pt, iter, [], 0⟩] scope pos) spos) ρ (fun o => o = .nx (ρ1.set n (.mm (l.map f)))) := by
  refine ps_imp (ps_setLc (g := gBlk X scope (.Tuple [.Name x px, .Name y py] kt pt)) (tt := ttBlk X scope []) (te := teBlk X scope elt) hc hN hz hzl hsw hi ok (fun s H C cl fp => ⟨fun pins s' σ H' v u Q I r ⟨t, ht, q⟩ => (ht _ ⟨s, H, C, cl, fp, rfl⟩).run pins s' σ H' v u Q I r q⟩)
    (fun s H C cl fp => ⟨fun pins s' σ H' Q I ⟨t, ht, q⟩ => (ht _ ⟨s, H, C, cl, fp, rfl⟩).run pins s' σ H' Q I q⟩) (fun s H C cl fp => ⟨fun pins s' σ H' Q I ⟨t, ht, q⟩ => (ht _ ⟨s, H, C, cl, fp, rfl⟩).run pins s' σ H' Q I q⟩) hs) fun E σ H ⟨M, F, R, k⟩ => ⟨M, F, R, fun J M1 F1 H1 sM s1 R1 yl => fun p hp => ?_⟩
  have hM : M1 p = none := by
    cases z : M1 p with
    | none => rfl
    | some w => rw [R1.z.mh _ _ z] at hp; cases hp
  have hg : ∀ a ∈ l, ∀ X', Blk X scope X' → Tg X' (.Tuple [.Name x px, .Name y py] kt pt) (wipeR ρ1 [i, j]) (.tup [e1 a, e2 a]) ((ρ1.set i (.va (e1 a))).set j (.va (e2 a))) ([i] ++ ([j] ++ [])) := fun a _ X' hX => by
    obtain ⟨s0, H0, C0, cl0, fp0, rfl⟩ := hX
    have t1 := tg_name (X := X.blk s0 H0 scope (compEnvC scope cl0 C0 X.env) fp0) (pos := px) (ρ := wipeR ρ1 [i, j]) (d := e1 a) i hN hxi (.inl (lookup_relabel_local hx)) (.inr (lookup_relabel_local hx))
    have t2 := tg_name (X := X.blk s0 H0 scope (compEnvC scope cl0 C0 X.env) fp0) (pos := py) (ρ := (wipeR ρ1 [i, j]).set i (.va (e1 a))) (d := e2 a) j hN hyj (.inl (lookup_relabel_local hy)) (.inr (lookup_relabel_local hy))
    have t := tg_tup (X := X.blk s0 H0 scope (compEnvC scope cl0 C0 X.env) fp0) (k := kt) (pos := pt) hc (tgs_cons t1 (tgs_cons t2 tgs_nil))
    have z : ((wipeR ρ1 [i, j]).set i (.va (e1 a))).set j (.va (e2 a)) = (ρ1.set i (.va (e1 a))).set j (.va (e2 a)) := by
      show (((ρ1.set j .un).set i .un).set i (C.va (e1 a))).set j (.va (e2 a)) = _
      rw [List.set_set, List.set_comm C.un _ (Ne.symm hij), List.set_set]
    rw [z] at t
    exact t
  have hw : ∀ a, Ge (wipeR ((ρ1.set i (.va (e1 a))).set j (.va (e2 a))) [i, j]) (wipeR ρ1 [i, j]) := fun a => by
    rw [wipe2]
    exact .refl _
  show ∃ W : Nat → Nat → Hp → Prop, _
  refine ⟨fun t m H' => m = l.length - t ∧ t ≤ l.length ∧ ∃ F' M' qs, Same F1 F' ∧ Rl X.K M' (wipeR ρ1 [i, j]) F' (L2.wipe σ [i, j]) H' ∧ Rows X.K M1 p qs M' F' ((l.take t).map f), ⟨l.length, by simp, Nat.zero_le _, F1, _, [], Same.refl _, (R1.giveM (o := .lst []) hp).wipe [i, j], Rows.start hM⟩, ?_⟩
  rintro t m H' ⟨rfl, ht, F', M', qs, s', R', W⟩
  by_cases hlt : t < l.length
  · obtain ⟨go, step⟩ := (yl M' W.same _ F' _ H' s' R' t).2 (.tup [e1 l[t], e2 l[t]]) (by rw [List.getElem?_map, List.getElem?_eq_getElem hlt]; rfl)
    have hm : l[t] ∈ l := List.getElem_mem hlt
    have tk : l.take (t + 1) = l.take t ++ [l[t]] := by rw [List.take_succ, List.getElem?_eq_getElem hlt]; rfl
    refine .inr ⟨go, fun H'' => ∃ F' M' qs, Same F1 F' ∧ Rl X.K M' (wipeR ρ1 [i, j]) F' (L2.wipe σ [i, j]) H'' ∧ Rows X.K M1 p qs M' F' ((l.take (t + 1)).map f), fun H'' q => ⟨l.length - (t + 1), by omega, rfl, hlt, q⟩, fun v H2 y => ?_⟩
    obtain ⟨F2, s2, R2, iv⟩ := step v H2 y
    refine ⟨tTg X.K (wipeR ρ1 [i, j]) (.tup [e1 l[t], e2 l[t]]) ((ρ1.set i (.va (e1 l[t]))).set j (.va (e2 l[t]))) ([i] ++ ([j] ++ [])), fun X' hX => by rw [← blk_K hX]; exact hg l[t] hm X' hX, _, F2, R2, iv, fun σ2 R3 g3 n3 => ?_⟩
    have ew : L2.wipe σ2 [i, j] = L2.wipe σ [i, j] := by
      have a1 : L2.wipe σ2 [i, j] = L2.wipe (L2.wipe σ [i, j]) [i, j] := wipe_ext g3 fun b hb => n3 b fun z => hb (by simpa using z)
      rw [a1]
      exact wipe_ext (by rw [wipe_length]) fun b hb => wipe_out hb
    refine ⟨ew, tEvB X.K ((ρ1.set i (.va (e1 l[t]))).set j (.va (e2 l[t]))) true ((ρ1.set i (.va (e1 l[t]))).set j (.va (e2 l[t]))), fun X' hX => by rw [← blk_K hX]; exact evTs_nil (X := X') (ρ := ((ρ1.set i (.va (e1 l[t]))).set j (.va (e2 l[t])))), M', F2, R3, fun F4 H4 s4 R4 => iteT ⟨tEvN X.K ((ρ1.set i (.va (e1 l[t]))).set j (.va (e2 l[t]))) (.ml (f l[t])) ((ρ1.set i (.va (e1 l[t]))).set j (.va (e2 l[t]))), fun X' hX => by rw [← blk_K hX]; exact he l[t] hm X' hX, _, F4, R4, fun F5 H5 q s5 R5 => ?_⟩⟩
    obtain ⟨oa, f1, m1, _⟩ := R5.lastO rfl
    obtain ⟨_, xs, hq, hxs⟩ := oa
    have W5 := ((W.mono s2).mono s4).mono s5
    have R6 := R5.park rfl hq
    have hqp : q ≠ p := fun z => by rw [z, W.outer] at m1; cases m1
    have ou : upd M' q (.lst xs) p = some (.lst (qs.map V.ref)) := by rw [upd_ne (Ne.symm hqp)]; exact W.outer
    have R7 : Rl X.K (upd (upd M' q (.lst xs)) p (.lst (qs.map V.ref))) ((ρ1.set i (.va (e1 l[t]))).set j (.va (e2 l[t]))) F5 σ2 H5 := by rw [upd_self ou]; exact R6
    have W7 := W5.push m1 hxs
    refine ⟨qs.map V.ref, R7.z.mh _ _ upd_same, ?_, F5, upd (upd M' q (.lst xs)) p (.lst ((qs ++ [q]).map V.ref)), qs ++ [q], ((s'.trans s2).trans s4).trans s5, ?_, ?_⟩
    · rw [List.length_map, W.len, List.length_map, List.length_take]
      omega
    · rw [← ew]
      have R8 := (R7.wrM (o' := .lst ((qs ++ [q]).map V.ref))).wipe [i, j]
      have em : qs.map V.ref ++ [V.ref q] = (qs ++ [q]).map V.ref := by rw [List.map_append]; rfl
      rw [em]
      exact R8.weak (hw l[t])
    · rw [tk, List.map_append (f := f)]
      exact W7
  · have et : t = l.length := by omega
    subst et
    refine .inl ⟨(yl M' W.same _ F' _ H' s' R' _).1 (by rw [List.length_map]; exact Nat.le_refl _), ?_⟩
    rw [List.take_length] at W
    have R9 := ((R'.unwipe (ρ2 := ρ1) R1 s' rfl fun b c ec => ?_).takeR W).lessM sM
    · exact k _ rfl F' _ H' (s1.trans s') (R9.move rfl)
    · by_cases hb : b ∈ [i, j]
      · have o : c.own = false := by
          simp at hb
          rcases hb with rfl | rfl
          · exact hv c ec
          · exact hv2 c ec
        cases c with
        | un => exact .inl rfl
        | va d => exact .inr (.inr ⟨d, rfl, ec⟩)
        | _ => cases o
      · refine .inr (.inl ⟨hb, ?_⟩)
        simp at hb
        show ((ρ1.set j .un).set i .un)[b]? = some c
        rw [List.getElem?_set_ne (fun z => hb.1 z.symm), List.getElem?_set_ne (fun z => hb.2 z.symm)]
        exact ec
end
end K8
/-! y[i][j], y[i][j] = e, y read whole. -/
namespace K8
open PySem PySem.Spec PyProof.Rows L2
section
variable {K : PySem.W.Frag} {M F H : Hp} {ρ ρ1 ρ2 : List C} {σ : St} {dss : List (List D)} {ds : List D} {d : D} {i : Nat}
theorem Rl.mm (R : Rl K M ρ F σ H) (hc : ρ[i]? = some (.mm dss)) : ∃ (p : Addr) (qs : List Addr), σ[i]? = some (some (.ref p)) ∧ H p = some (.lst (qs.map V.ref)) ∧ qs.length = dss.length ∧ ∀ (j : Nat) q ds, qs[j]? = some q → dss[j]? = some ds → ∃ xs, H q = some (.lst xs) ∧ IsL K F xs ds := by
  obtain ⟨fp, h1, _⟩ := R.ow
  obtain ⟨p, a, ⟨qs, _, _, b, c, e⟩, _⟩ := h1 i _ hc rfl
  exact ⟨p, qs, a, b, c, e⟩
/-- one inner list written -/
theorem Rl.wrR (R : Rl K M ρ F σ H) (hc : ρ[i]? = some (.mm dss)) {r : Nat} {q : Addr} {p : Addr} {qs : List Addr} (hs : σ[i]? = some (some (.ref p))) (hp : H p = some (.lst (qs.map V.ref))) (hq : qs[r]? = some q) {ys : List V} {es : List D} (hy : IsL K F ys es) : Rl K M (ρ.set i (.mm (dss.set r es))) F σ (upd H q (.lst ys)) := by
  obtain ⟨fp, h1, h2⟩ := R.ow
  obtain ⟨p', a, ⟨qs', eA, nd, b, c, e⟩, f⟩ := h1 i _ hc rfl
  rw [hs] at a
  cases a
  rw [hp] at b
  have eq : qs = qs' := by
    have := Option.some.inj b
    injection this with this
    exact (List.map_inj_right (fun x y z => by injection z)).mp this
  subst eq
  have qin : q ∈ fp i := by rw [eA]; exact List.mem_cons_of_mem _ (List.mem_of_getElem? hq)
  obtain ⟨f1, f2, f3⟩ := f q qin
  have qp : q ≠ p := fun z => by
    rw [List.nodup_cons] at nd
    exact nd.1 (z ▸ List.mem_of_getElem? hq)
  have hil : i < ρ.length := (List.getElem?_eq_some_iff.mp hc).1
  have key : ∀ {j : Nat} {x : C}, (ρ.set i (.mm (dss.set r es)))[j]? = some x → (j = i ∧ x = .mm (dss.set r es)) ∨ (j ≠ i ∧ ρ[j]? = some x) := fun {j x} e => by
    by_cases hj : i = j
    · subst hj
      rw [List.getElem?_set_self hil] at e
      exact .inl ⟨rfl, (Option.some.inj e).symm⟩
    · rw [List.getElem?_set_ne hj] at e
      exact .inr ⟨fun x => hj x.symm, e⟩
  refine ⟨⟨fun a u e => ?_, fun a u e => ?_, R.z.fm, R.z.tpu⟩, by rw [List.length_set]; exact R.len, fun j d' e => ?_, fp, fun j x e' o' => ?_, fun j k cj ck hne e1 o1 e2 o2 => ?_⟩
  · have ha : a ≠ q := fun x => by rw [x, f1] at e; cases e
    rw [upd_ne ha]
    exact R.z.le a u e
  · rw [upd_ne (ne_of_none e f2)]
    exact R.z.mh _ _ e
  · rcases key e with ⟨_, x⟩ | ⟨_, e'⟩
    · cases x
    · exact R.va j d' e'
  · rcases key e' with ⟨rfl, x⟩ | ⟨hj, e''⟩
    · subst x
      refine ⟨p, hs, ⟨qs, eA, nd, by rw [upd_ne (Ne.symm qp)]; exact hp, by rw [List.length_set]; exact c, fun t q' ds' ht hd => ?_⟩, fun y hy' => ?_⟩
      · by_cases htr : r = t
        · subst htr
          rw [hq] at ht
          cases ht
          have hlt : r < dss.length := by
            rw [← c]
            exact (List.getElem?_eq_some_iff.mp hq).1
          rw [List.getElem?_set_self hlt] at hd
          cases hd
          exact ⟨ys, upd_same, hy⟩
        · rw [List.getElem?_set_ne htr] at hd
          obtain ⟨xs, g1, g2⟩ := e t q' ds' ht hd
          have nq : q' ≠ q := fun z => by
            subst z
            rw [List.nodup_cons] at nd
            exact htr ((List.getElem?_inj (List.getElem?_eq_some_iff.mp hq).1 nd.2).mp (hq.trans ht.symm))
          exact ⟨xs, by rw [upd_ne nq]; exact g1, g2⟩
      · obtain ⟨g1, g2, g3⟩ := f y hy'
        refine ⟨g1, g2, ?_⟩
        by_cases z : y = q
        · rw [z, upd_same]
          simp
        · rw [upd_ne z]
          exact g3
    · obtain ⟨w, a, b', c'⟩ := h1 j x e'' o'
      have hn : ∀ y ∈ fp j, y ≠ q := fun y hy' z => h2 j i x _ hj e'' o' hc rfl y hy' (by rw [z]; exact qin)
      exact ⟨w, a, b'.keep (Same.refl _) fun y hy' => upd_ne (hn y hy'), fun y hy' => ⟨(c' y hy').1, (c' y hy').2.1, by rw [upd_ne (hn y hy')]; exact (c' y hy').2.2⟩⟩
  · have back : ∀ {j : Nat} {x : C}, (ρ.set i (.mm (dss.set r es)))[j]? = some x → x.own = true → ∃ y, ρ[j]? = some y ∧ y.own = true := fun {j x} e o => by
      rcases key e with ⟨rfl, _⟩ | ⟨_, e'⟩
      · exact ⟨_, hc, rfl⟩
      · exact ⟨x, e', o⟩
    obtain ⟨y1, z1, w1⟩ := back e1 o1
    obtain ⟨y2, z2, w2⟩ := back e2 o2
    exact h2 j k y1 y2 hne z1 w1 z2 w2
/-- the whole frozen -/
theorem Rl.freezeR (R : Rl K M ρ F σ H) (hc : ρ[i]? = some (.mm dss)) : ∃ p F', σ[i]? = some (some (.ref p)) ∧ Rl K M (ρ.set i (.va (.lst (dss.map D.lst)))) F' σ H ∧ Same F F' ∧ Is K F' (.ref p) (.lst (dss.map D.lst)) := by
  obtain ⟨fp, h1, h2⟩ := R.ow
  obtain ⟨p, hs, ⟨qs, eA, nd, hp, c, e⟩, f⟩ := h1 i _ hc rfl
  have hil : i < ρ.length := (List.getElem?_eq_some_iff.mp hc).1
  let F' : Hp := fun a => if a ∈ fp i then H a else F a
  have inF : ∀ {a}, a ∈ fp i → F' a = H a := fun {a} h => if_pos h
  have outF : ∀ {a}, a ∉ fp i → F' a = F a := fun {a} h => if_neg h
  have sm : Same F F' := fun a u ea => by
    rw [outF fun h => by rw [(f a h).1] at ea; cases ea]
    exact ea
  have isl : ∀ {qs' : List Addr} {dss' : List (List D)}, qs'.length = dss'.length → (∀ (j : Nat) q ds, qs'[j]? = some q → dss'[j]? = some ds → ∃ xs, F' q = some (.lst xs) ∧ IsL K F xs ds) → IsL K F' (qs'.map V.ref) (dss'.map D.lst) := by
    intro qs'
    induction qs' with
    | nil =>
      intro dss' hl _
      cases dss' with
      | nil => exact .nil
      | cons _ _ => simp at hl
    | cons q qs' ih =>
      intro dss' hl h
      cases dss' with
      | nil => simp at hl
      | cons ds dss' =>
        obtain ⟨xs, a1, a2⟩ := h 0 q ds rfl rfl
        exact .cons (.lst a1 (a2.mono sm)) (ih (by simpa using hl) fun j q ds b1 b2 => h (j + 1) q ds (by simpa using b1) (by simpa using b2))
  have ip : Is K F' (.ref p) (.lst (dss.map D.lst)) := by
    refine .lst (xs := qs.map V.ref) ?_ (isl c fun j q ds b1 b2 => ?_)
    · rw [inF (by rw [eA]; simp), hp]
    · obtain ⟨xs, a1, a2⟩ := e j q ds b1 b2
      exact ⟨xs, by rw [inF (by rw [eA]; exact List.mem_cons_of_mem _ (List.mem_of_getElem? b1))]; exact a1, a2⟩
  have key : ∀ {j : Nat} {x : C}, (ρ.set i (.va (.lst (dss.map D.lst))))[j]? = some x → (j = i ∧ x = .va (.lst (dss.map D.lst))) ∨ (j ≠ i ∧ ρ[j]? = some x) := fun {j x} e => by
    by_cases hj : i = j
    · subst hj
      rw [List.getElem?_set_self hil] at e
      exact .inl ⟨rfl, (Option.some.inj e).symm⟩
    · rw [List.getElem?_set_ne hj] at e
      exact .inr ⟨fun x => hj x.symm, e⟩
  refine ⟨p, F', hs, ⟨⟨fun a u ea => ?_, R.z.mh, fun a u ea => ?_, fun a xs ea => ?_⟩, by rw [List.length_set]; exact R.len, fun j d' e' => ?_, fp, fun j x e' o' => ?_, fun j k cj ck hne e1 o1 e2 o2 => ?_⟩, sm, ip⟩
  · by_cases h : a ∈ fp i
    · rw [inF h] at ea
      exact .inl ea
    · rw [outF h] at ea
      exact R.z.le a u ea
  · by_cases h : a ∈ fp i
    · exact .inl (f a h).2.1
    · rw [outF h] at ea
      exact R.z.fm a u ea
  · by_cases h : a ∈ fp i
    · rw [inF h]
      exact ea
    · rw [outF h]
      exact R.z.tp a xs ea
  · rcases key e' with ⟨rfl, x⟩ | ⟨_, e''⟩
    · cases x
      exact ⟨_, hs, ip⟩
    · obtain ⟨v, a, b⟩ := R.va j d' e''
      exact ⟨v, a, b.mono sm⟩
  · rcases key e' with ⟨_, x⟩ | ⟨hj, e''⟩
    · subst x
      cases o'
    · obtain ⟨w, a, b', c'⟩ := h1 j x e'' o'
      refine ⟨w, a, b'.keep sm fun y _ => rfl, fun y hy' => ⟨?_, (c' y hy').2⟩⟩
      rw [outF fun h => h2 j i x _ hj e'' o' hc rfl y hy' h]
      exact (c' y hy').1
  · rcases key e1 with ⟨_, x⟩ | ⟨_, e1'⟩
    · subst x
      cases o1
    · rcases key e2 with ⟨_, x⟩ | ⟨_, e2'⟩
      · subst x
        cases o2
      · exact h2 j k cj ck hne e1' o1 e2' o2
end
theorem ix_nat2 {m l : Nat} (h : l < m) : ixN m (l : Int) = some l := by simp [ixN, h]
section
variable {X : Cx} {e b b2 : Expr} {pos px pi sp : Pos} {ρ ρ1 : List C} {dss : List (List D)} {ds : List D} {d : D} {x : Str} {r t : Nat}
theorem ev_vR (i : Nat) (h : ρ[i]? = some (.mm dss)) (hN : X.N[i]? = some x := by rfl) (hv : Vis X.env.scope x := by first | exact .inl rfl | exact .inr (.inl rfl) | exact .inr (.inr rfl)) (hd : (x == ("__debug__" : Str)) = false := by decide) (hcd : (x == ("__classdict__" : Str)) = false := by decide) : Ev X (.Name x pos) ρ (.lst (dss.map D.lst)) (ρ.set i (.va (.lst (dss.map D.lst)))) :=
  pe_imp (pe_var hN hv hd hcd) fun σ H Q ⟨M, F, R, q⟩ => by
    obtain ⟨p, F', hs, R', sm, iv⟩ := R.freezeR h
    exact ⟨_, hs, q F' H _ sm R' iv⟩
theorem ev_ixR (i j k : Nat) {y z : Str} {py pz : Pos} (h : ρ[i]? = some (.mm dss)) (hj : ρ[j]? = some (.va (nD r))) (hk : ρ[k]? = some (.va (nD t))) (hr : dss[r]? = some ds) (ht : ds[t]? = some d) (hN : X.N[i]? = some x := by rfl) (hNj : X.N[j]? = some y := by rfl) (hNk : X.N[k]? = some z := by rfl)
    (hv : Vis X.env.scope x := by first | exact .inl rfl | exact .inr (.inl rfl) | exact .inr (.inr rfl)) (hvj : Vis X.env.scope y := by first | exact .inl rfl | exact .inr (.inl rfl) | exact .inr (.inr rfl)) (hvk : Vis X.env.scope z := by first | exact .inl rfl | exact .inr (.inl rfl) | exact .inr (.inr rfl))
    (hd : (x == ("__debug__" : Str)) = false := by decide) (hcd : (x == ("__classdict__" : Str)) = false := by decide) (hdj : (y == ("__debug__" : Str)) = false := by decide) (hcdj : (y == ("__classdict__" : Str)) = false := by decide) (hdk : (z == ("__debug__" : Str)) = false := by decide) (hcdk : (z == ("__classdict__" : Str)) = false := by decide) :
    Ev X (.Subscript (.Subscript (.Name x px) (.Name y py) pi) (.Name z pz) pos) ρ d ρ :=
  pe_imp (pe_ix ix_list (pe_ix ix_list (pe_var hN hv hd hcd) (pe_var hNj hvj hdj hcdj) (fun _ _ => rfl)) (pe_var hNk hvk hdk hcdk) (fun _ _ => rfl)) fun σ H Q ⟨M, F, R, q⟩ => by
    obtain ⟨p, qs, e1, hp, hl, inn⟩ := R.mm h
    obtain ⟨vj, e2, i2⟩ := R.va j _ hj
    obtain ⟨vk, e3, i3⟩ := R.va k _ hk
    cases i2
    cases i3
    have hrl : r < qs.length := by rw [hl]; exact (List.getElem?_eq_some_iff.mp hr).1
    obtain ⟨xs, g1, g2⟩ := inn r qs[r] ds (List.getElem?_eq_getElem hrl) hr
    obtain ⟨v, g3, iv⟩ := g2.get ht
    exact ⟨_, e1, _, e2, p, _, (r : Int), .ref qs[r], rfl, rfl, .inl (.inl hp), atI_nat (by rw [List.getElem?_map, List.getElem?_eq_getElem hrl]; rfl), _, e3, qs[r], xs, (t : Int), v, rfl, rfl, .inl (.inl g1), atI_nat g3, q F H v (Same.refl _) R iv⟩
theorem run_setR (i j k : Nat) {y z : Str} {py pz : Pos} (he : Ev X e ρ d ρ1) (h : ρ1[i]? = some (.mm dss)) (hj : ρ1[j]? = some (.va (nD r))) (hk : ρ1[k]? = some (.va (nD t))) (hr : dss[r]? = some ds) (ht : t < ds.length) (hN : X.N[i]? = some x := by rfl) (hNj : X.N[j]? = some y := by rfl) (hNk : X.N[k]? = some z := by rfl)
    (hv : Vis X.env.scope x := by first | exact .inl rfl | exact .inr (.inl rfl) | exact .inr (.inr rfl)) (hvj : Vis X.env.scope y := by first | exact .inl rfl | exact .inr (.inl rfl) | exact .inr (.inr rfl)) (hvk : Vis X.env.scope z := by first | exact .inl rfl | exact .inr (.inl rfl) | exact .inr (.inr rfl))
    (hd : (x == ("__debug__" : Str)) = false := by decide) (hcd : (x == ("__classdict__" : Str)) = false := by decide) (hdj : (y == ("__debug__" : Str)) = false := by decide) (hcdj : (y == ("__classdict__" : Str)) = false := by decide) (hdk : (z == ("__debug__" : Str)) = false := by decide) (hcdk : (z == ("__classdict__" : Str)) = false := by decide)
    (hs : swapsWithSole [.Subscript (.Subscript (.Name x px) (.Name y py) pi) (.Name z pz) sp] e pos.line X.env = pure false := by rfl) (hw : swappedStores [.Subscript (.Subscript (.Name x px) (.Name y py) pi) (.Name z pz) sp] e X.env = pure none := by rfl)
    (h3 : (assignEach [.Subscript (.Subscript (.Name x px) (.Name y py) pi) (.Name z pz) sp] X.env).map (·.2) = [assign (.Subscript (.Subscript (.Name x px) (.Name y py) pi) (.Name z pz) sp) X.env] := by rfl) :
    Run X (.Assign [.Subscript (.Subscript (.Name x px) (.Name y py) pi) (.Name z pz) sp] e pos) ρ (fun o => o = .nx (ρ1.set i (.mm (dss.set r (ds.set t d))))) :=
  ps_imp (ps_asg he (pg_sub (pe_ix ix_list (pe_var hN hv hd hcd) (pe_var hNj hvj hdj hcdj) (fun _ _ => rfl)) (pe_var hNk hvk hdk hcdk) set_list (by intro _; rfl)) hs hw h3) fun E σ H ⟨M, F, R, q⟩ => ⟨M, F, R, fun F1 H1 v s1 R1 iv => by
    obtain ⟨p, qs, e1, hp, hl, inn⟩ := R1.mm h
    obtain ⟨vj, e2, i2⟩ := R1.va j _ hj
    obtain ⟨vk, e3, i3⟩ := R1.va k _ hk
    cases i2
    cases i3
    have hrl : r < qs.length := by rw [hl]; exact (List.getElem?_eq_some_iff.mp hr).1
    obtain ⟨xs, g1, g2⟩ := inn r qs[r] ds (List.getElem?_eq_getElem hrl) hr
    have htx : t < xs.length := by rw [g2.length]; exact ht
    exact ⟨_, e1, _, e2, p, _, (r : Int), .ref qs[r], rfl, rfl, .inl (.inl hp), atI_nat (by rw [List.getElem?_map, List.getElem?_eq_getElem hrl]; rfl), _, e3, qs[r], xs, (t : Int), t, rfl, rfl, g1, ix_nat2 htx, q _ rfl F1 σ _ s1 (R1.wrR h e1 hp (List.getElem?_eq_getElem hrl) (g2.set iv t))⟩⟩
end
end K8
namespace K8
theorem mul_den0 (q : Rat) : q * (q.den : Rat) = (q.num : Rat) := by
  have h := q.num_divInt_den
  rw [Rat.divInt_eq_div] at h
  have hd : ((q.den : Int) : Rat) ≠ 0 := by
    have := q.den_nz
    exact_mod_cast this
  have := Rat.div_mul_cancel (a := (q.num : Rat)) hd
  rw [h] at this
  exact_mod_cast this
theorem rat_red {q : Rat} {z : Int} {d : Nat} (hd : 0 < d) (h : q * (d : Int) = (z : Int)) : ∃ e : Nat, 0 < e ∧ d = q.den * e ∧ z = q.num * e := by
  have e1 : q.num * d = z * q.den := by
    have := q.num_divInt_den
    have h2 : ((q.num * d : Int) : Rat) = ((z * q.den : Int) : Rat) := by
      have hq : q * (q.den : Int) = (q.num : Int) := by
        have := mul_den0 q
        exact_mod_cast this
      push_cast
      have a : ((q.num : Int) : Rat) * (d : Rat) = q * (q.den : Int) * (d : Rat) := by rw [hq]
      have b : ((z : Int) : Rat) = q * (d : Rat) := by
        rw [← h]; push_cast; rfl
      rw [a, b]
      push_cast
      grind
    exact_mod_cast h2
  have hdvd : q.den ∣ d := by
    have c : Nat.Coprime q.den q.num.natAbs := q.reduced.symm
    have : q.den ∣ q.num.natAbs * d := by
      have : (q.den : Int) ∣ q.num * d := ⟨z, by rw [e1, Int.mul_comm]⟩
      have := Int.natAbs_dvd_natAbs.mpr this
      simpa [Int.natAbs_mul] using this
    exact c.dvd_of_dvd_mul_left this
  obtain ⟨e, he⟩ := hdvd
  have hdp := q.den_pos
  refine ⟨e, ?_, he, ?_⟩
  · rcases Nat.eq_zero_or_pos e with h0 | h0
    · subst h0; omega
    · exact h0
  · subst he
    have : z * q.den = (q.num * e) * q.den := by rw [← e1]; push_cast; grind
    have hn : (q.den : Int) ≠ 0 := by omega
    exact Int.eq_of_mul_eq_mul_right hn this
def Sz (b : Nat) (q : Rat) : Prop := q.num.natAbs < 2 ^ b ∧ q.den < 2 ^ b
theorem sz_of {q : Rat} {z : Int} {d b : Nat} (hd : 0 < d) (h : q * (d : Int) = (z : Int)) (h1 : z.natAbs < 2 ^ b) (h2 : d < 2 ^ b) : Sz b q := by
  obtain ⟨e, he, rfl, rfl⟩ := rat_red hd h
  constructor
  · rw [Int.natAbs_mul] at h1
    have : q.num.natAbs * 1 ≤ q.num.natAbs * (e : Int).natAbs := Nat.mul_le_mul_left _ (by omega)
    omega
  · have : q.den * 1 ≤ q.den * e := Nat.mul_le_mul_left _ (by omega)
    omega
theorem Sz.mono {b c : Nat} {q : Rat} (h : Sz b q) (hc : b ≤ c) : Sz c q :=
  ⟨Nat.lt_of_lt_of_le h.1 (Nat.pow_le_pow_right (by decide) hc), Nat.lt_of_lt_of_le h.2 (Nat.pow_le_pow_right (by decide) hc)⟩
theorem mul_lt_pow {a b : Nat} {m n : Nat} (h1 : m < 2 ^ a) (h2 : n < 2 ^ b) : m * n < 2 ^ (a + b) := by
  rw [Nat.pow_add]
  have := Nat.mul_le_mul (Nat.le_of_lt h1) (Nat.le_of_lt h2)
  rcases Nat.eq_zero_or_pos m with h | h
  · subst h; simp; exact Nat.mul_pos (Nat.pow_pos (by decide)) (Nat.pow_pos (by decide))
  · exact Nat.lt_of_le_of_lt (Nat.mul_le_mul_left m (Nat.le_of_lt h2)) (Nat.mul_lt_mul_of_pos_right h1 (Nat.pow_pos (by decide)))
theorem rat_num (q : Rat) : q * ((q.den : Nat) : Int) = (q.num : Int) := by
  exact_mod_cast mul_den0 q
theorem den_ne (q : Rat) : ((q.den : Nat) : Rat) ≠ 0 := by
  have := q.den_pos
  exact_mod_cast (by omega : q.den ≠ 0)
theorem add_den (p q : Rat) : (p + q) * ((p.den * q.den : Nat) : Int) = ((p.num * q.den + q.num * p.den : Int) : Rat) := by
  have h1 := rat_num p
  have h2 := rat_num q
  push_cast at *
  grind
theorem sub_den (p q : Rat) : (p - q) * ((p.den * q.den : Nat) : Int) = ((p.num * q.den - q.num * p.den : Int) : Rat) := by
  have h1 := rat_num p
  have h2 := rat_num q
  push_cast at *
  grind
theorem mul_den (p q : Rat) : (p * q) * ((p.den * q.den : Nat) : Int) = ((p.num * q.num : Int) : Rat) := by
  have h1 := rat_num p
  have h2 := rat_num q
  push_cast at *
  grind
theorem div_den (p q : Rat) (hq : 0 < q.num) : (p / q) * ((p.den * q.num.natAbs : Nat) : Int) = ((p.num * q.den : Int) : Rat) := by
  have h1 := rat_num p
  have h2 := rat_num q
  have h3 : ((q.num.natAbs : Nat) : Rat) = (q.num : Rat) := by
    have : ((q.num.natAbs : Int)) = q.num := by omega
    exact_mod_cast congrArg (fun z : Int => (z : Rat)) this
  have h4 : q ≠ 0 := by
    intro h
    subst h
    simp at hq
  push_cast at *
  rw [h3]
  have h5 : p / q * q = p := Rat.div_mul_cancel h4
  grind
theorem num_pos {q : Rat} : 0 < q ↔ 0 < q.num := by
  rw [Rat.lt_iff]
  simp
theorem Sz.add {b c : Nat} {p q : Rat} (h1 : Sz b p) (h2 : Sz c q) : Sz (b + c + 1) (p + q) := by
  refine sz_of (Nat.mul_pos p.den_pos q.den_pos) (add_den p q) ?_ ?_
  · have a := mul_lt_pow h1.1 h2.2
    have b' := mul_lt_pow h2.1 h1.2
    have := Int.natAbs_add_le (p.num * q.den) (q.num * p.den)
    rw [Int.natAbs_mul, Int.natAbs_mul] at this
    simp only [Int.natAbs_natCast] at this
    rw [Nat.pow_succ]
    rw [Nat.add_comm c b] at b'
    omega
  · have := mul_lt_pow h1.2 h2.2
    rw [Nat.pow_succ]; omega
theorem Sz.neg {b : Nat} {p : Rat} (h : Sz b p) : Sz b (-p) := by
  constructor
  · simpa using h.1
  · simpa using h.2
theorem Sz.sub {b c : Nat} {p q : Rat} (h1 : Sz b p) (h2 : Sz c q) : Sz (b + c + 1) (p - q) := by
  rw [Rat.sub_eq_add_neg]
  exact h1.add h2.neg
theorem Sz.mul {b c : Nat} {p q : Rat} (h1 : Sz b p) (h2 : Sz c q) : Sz (b + c) (p * q) := by
  refine sz_of (Nat.mul_pos p.den_pos q.den_pos) (mul_den p q) ?_ ?_
  · rw [Int.natAbs_mul]; exact mul_lt_pow h1.1 h2.1
  · exact mul_lt_pow h1.2 h2.2
theorem Sz.div {b c : Nat} {p q : Rat} (h1 : Sz b p) (h2 : Sz c q) (hq : 0 < q) : Sz (b + c) (p / q) := by
  have hn := num_pos.mp hq
  refine sz_of (Nat.mul_pos p.den_pos (by omega)) (div_den p q hn) ?_ ?_
  · rw [Int.natAbs_mul]; exact mul_lt_pow h1.1 h2.2
  · exact mul_lt_pow h1.2 h2.1
theorem sz_int (z : Int) (b : Nat) (h : z.natAbs < 2 ^ b) (hb : 0 < b) : Sz b ((z : Int) : Rat) := by
  constructor
  · rw [Rat.num_intCast]; exact h
  · rw [Rat.den_intCast]
    exact Nat.one_lt_two_pow (by omega)
/-- what reduced's numbers are -/
theorem red_div {q : Rat} {z : Int} {d : Nat} (hd : 0 < d) (h : q * (d : Int) = (z : Int)) : q.num = z / (Int.gcd z d : Int) ∧ (q.den : Int) = (d : Int) / (Int.gcd z d : Int) := by
  obtain ⟨e, he, rfl, rfl⟩ := rat_red hd h
  have g : Int.gcd (q.num * e) ((q.den * e : Nat) : Int) = e := by
    have : Int.gcd (q.num * e) ((q.den : Int) * e) = Int.gcd q.num q.den * e := by
      rw [Int.gcd_mul_right]; simp
    push_cast
    rw [this]
    have c : Int.gcd q.num q.den = 1 := by
      have := q.reduced
      unfold Nat.Coprime at this
      unfold Int.gcd
      simpa using this
    rw [c]; omega
  rw [g]
  constructor
  · exact (Int.mul_ediv_cancel _ (by omega)).symm
  · push_cast
    exact (Int.mul_ediv_cancel _ (by omega)).symm
end K8
namespace K8
def lcmF (b : Nat) (qs : List Rat) : Nat := qs.foldl (fun b q => b * q.den / Nat.gcd b q.den) b
theorem lcmF_cons (b : Nat) (q : Rat) (qs : List Rat) : lcmF b (q :: qs) = lcmF (b * q.den / Nat.gcd b q.den) qs := rfl
theorem lcm_pos {b d : Nat} (hb : 0 < b) (hd : 0 < d) : 0 < b * d / Nat.gcd b d := Nat.lcm_pos hb hd
theorem lcmF_pos : ∀ (qs : List Rat) {b : Nat}, 0 < b → 0 < lcmF b qs
  | [], b, h => h
  | q :: qs, b, h => by
    rw [lcmF_cons]
    exact lcmF_pos qs (lcm_pos h q.den_pos)
theorem lcmF_dvd0 : ∀ (qs : List Rat) {b a : Nat}, a ∣ b → a ∣ lcmF b qs
  | [], b, a, h => h
  | q :: qs, b, a, h => by
    rw [lcmF_cons]
    exact lcmF_dvd0 qs (Nat.dvd_trans h (Nat.dvd_lcm_left b q.den))
theorem lcmF_dvd : ∀ (qs : List Rat) {b : Nat}, ∀ q ∈ qs, q.den ∣ lcmF b qs
  | q :: qs, b, r, h => by
    rw [lcmF_cons]
    rcases List.mem_cons.mp h with rfl | h
    · exact lcmF_dvd0 qs (Nat.dvd_lcm_right b r.den)
    · exact lcmF_dvd qs r h
theorem lcmF_lt : ∀ (qs : List Rat) {b a s : Nat}, b < 2 ^ a → (∀ q ∈ qs, q.den < 2 ^ s) → lcmF b qs < 2 ^ (a + qs.length * s)
  | [], b, a, s, h, _ => by simpa [lcmF] using h
  | q :: qs, b, a, s, h, hs => by
    rw [lcmF_cons]
    have h1 : b * q.den / Nat.gcd b q.den < 2 ^ (a + s) := Nat.lt_of_le_of_lt (Nat.div_le_self _ _) (mul_lt_pow h (hs q (by simp)))
    have := lcmF_lt qs h1 (fun r hr => hs r (by simp [hr]))
    simp only [List.length_cons]
    rw [show a + (qs.length + 1) * s = a + s + qs.length * s by rw [Nat.add_mul]; omega]
    exact this
def comF (c : Nat) (zs : List Int) : Nat := zs.foldl (fun c z => Int.gcd c z) c
theorem comF_dvd0 : ∀ (zs : List Int) {c : Nat}, comF c zs ∣ c
  | [], c => Nat.dvd_refl _
  | z :: zs, c => Nat.dvd_trans (comF_dvd0 zs) (by have := Int.gcd_dvd_left (a := (c : Int)) (b := z); exact_mod_cast this)
theorem comF_dvd : ∀ (zs : List Int) {c : Nat}, ∀ z ∈ zs, (comF c zs : Int) ∣ z
  | z :: zs, c, y, h => by
    rcases List.mem_cons.mp h with rfl | h
    · have h1 : (comF (Int.gcd c y) zs : Int) ∣ (Int.gcd c y : Int) := by exact_mod_cast comF_dvd0 zs
      exact Int.dvd_trans h1 (Int.gcd_dvd_right ..)
    · exact comF_dvd zs y h
theorem comF_zero : ∀ (zs : List Int), (∀ z ∈ zs, z = 0) → comF 0 zs = 0
  | [], _ => rfl
  | z :: zs, h => by
    show comF (Int.gcd _ z) zs = 0
    rw [h z (by simp)]
    exact comF_zero zs fun y hy => h y (by simp [hy])
def foundF (qs : List Rat) : List Int := qs.map fun q => q.num * (lcmF 1 qs : Int) / (q.den : Int)
def wholeF (qs : List Rat) : List Int := if 0 < comF 0 (foundF qs) then (foundF qs).map fun z => z / (comF 0 (foundF qs) : Int) else foundF qs
theorem wholeF_length (qs : List Rat) : (wholeF qs).length = qs.length := by
  unfold wholeF
  split <;> simp [foundF]
theorem found_eq (qs : List Rat) {q : Rat} (h : q ∈ qs) : ((q.num * (lcmF 1 qs : Int) / (q.den : Int) : Int) : Rat) = (lcmF 1 qs : Rat) * q := by
  obtain ⟨e, he⟩ := lcmF_dvd qs (b := 1) q h
  have hp := q.den_pos
  rw [he]
  have e1 : q.num * ((q.den * e : Nat) : Int) / (q.den : Int) = q.num * e := by
    rw [show q.num * ((q.den * e : Nat) : Int) = (q.num * e) * (q.den : Int) by push_cast; grind]
    exact Int.mul_ediv_cancel _ (by omega)
  rw [e1]
  have := mul_den0 q
  push_cast
  grind
theorem found_lt {qs : List Rat} {s : Nat} (hs : ∀ q ∈ qs, Sz s q) : ∀ z ∈ foundF qs, z.natAbs < 2 ^ (s + (1 + qs.length * s)) := by
  intro z hz
  obtain ⟨q, hq, rfl⟩ := List.mem_map.mp hz
  refine Nat.lt_of_le_of_lt ?_ (mul_lt_pow (hs q hq).1 (lcmF_lt qs (b := 1) (a := 1) (by decide) fun r hr => (hs r hr).2))
  obtain ⟨e, he⟩ := lcmF_dvd qs (b := 1) q hq
  have hp := q.den_pos
  rw [he]
  have e1 : q.num * ((q.den * e : Nat) : Int) / (q.den : Int) = q.num * e := by
    rw [show q.num * ((q.den * e : Nat) : Int) = (q.num * e) * (q.den : Int) by push_cast; grind]
    exact Int.mul_ediv_cancel _ (by omega)
  rw [e1, Int.natAbs_mul]
  refine Nat.mul_le_mul_left _ ?_
  rw [Int.natAbs_natCast]
  exact Nat.le_mul_of_pos_left e hp
theorem com_lt {qs : List Rat} {s : Nat} (hs : ∀ q ∈ qs, Sz s q) : comF 0 (foundF qs) < 2 ^ (s + (1 + qs.length * s)) := by
  by_cases h : ∀ z ∈ foundF qs, z = 0
  · rw [comF_zero _ h]
    exact Nat.pow_pos (by decide)
  · have : ∃ z ∈ foundF qs, z ≠ 0 := Classical.byContradiction fun hc => h fun z hz => Classical.byContradiction fun hn => hc ⟨z, hz, hn⟩
    obtain ⟨z, hz, hn⟩ := this
    have d := Int.natAbs_dvd_natAbs.mpr (comF_dvd (foundF qs) (c := 0) z hz)
    have := Nat.le_of_dvd (by omega) d
    have l := found_lt hs z hz
    simp only [Int.natAbs_natCast] at this
    omega
theorem wholeF_spec (qs : List Rat) : ∃ c : Rat, 0 < c ∧ (wholeF qs).map (fun z : Int => (z : Rat)) = qs.map (c * ·) := by
  have hb : (0 : Rat) < (lcmF 1 qs : Rat) := by exact_mod_cast lcmF_pos qs (b := 1) (by decide)
  have hf : (foundF qs).map (fun z : Int => (z : Rat)) = qs.map ((lcmF 1 qs : Rat) * ·) := by
    unfold foundF
    rw [List.map_map]
    exact List.map_congr_left fun q hq => found_eq qs hq
  unfold wholeF
  split
  · rename_i hc
    have hc' : (0 : Rat) < (comF 0 (foundF qs) : Rat) := by exact_mod_cast hc
    refine ⟨(lcmF 1 qs : Rat) / (comF 0 (foundF qs) : Rat), (by rw [Rat.div_def]; exact Rat.mul_pos hb (Rat.inv_pos.mpr hc')), ?_⟩
    have : qs.map (fun q => (lcmF 1 qs : Rat) / (comF 0 (foundF qs) : Rat) * q) = ((foundF qs).map (fun z : Int => (z : Rat))).map (fun r => r / (comF 0 (foundF qs) : Rat)) := by
      rw [hf, List.map_map]
      refine List.map_congr_left fun q _ => ?_
      simp only [Function.comp]
      grind
    rw [this, List.map_map, List.map_map]
    refine List.map_congr_left fun z hz => ?_
    simp only [Function.comp]
    obtain ⟨e, he⟩ := comF_dvd (foundF qs) (c := 0) z hz
    have hn : ((comF 0 (foundF qs) : Nat) : Int) ≠ 0 := by omega
    have hr : ((comF 0 (foundF qs) : Nat) : Rat) ≠ 0 := by
      intro h
      rw [h] at hc'
      exact absurd hc' (by decide)
    generalize comF 0 (foundF qs) = c at *
    subst he
    rw [Int.mul_ediv_cancel_left _ hn]
    push_cast
    grind
  · exact ⟨_, hb, hf⟩
end K8
set_option exponentiation.threshold 20000
/-! Numbers and ratios. -/
namespace K8
open PySem PySem.Spec PyProof.Rows L2
/-- the module's other names -/
structure Gb (K : PySem.W.Frag) (mg : Str → Option Value) : Prop where
  isinstance : mg "isinstance" = none
  len : mg "len" = none
  abs : mg "abs" = none
  range : mg "range" = none
  enumerate : mg "enumerate" = none
  zip : mg "zip" = none
  list : mg "list" = none
  tuple : mg "tuple" = none
  sorted : mg "sorted" = none
  int : mg "int" = none
  max : mg "max" = none
  sum : mg "sum" = none
  set : mg "set" = none
  bool : mg "bool" = none
  str : mg "str" = none
  ml : ∃ t, mg "MOST_LETTERS" = some (.int 4 t)
  mr : ∃ t, mg "MOST_RULES" = some (.int 12 t)
  mo : ∃ t, mg "MOST_LONG" = some (.int 3 t)
  ms : ∃ t, mg "MOST_REST" = some (.int 20 t)
section
variable {P : Program} {w : World} {K : PySem.W.Frag} {mg : Str → Option Value} {base : Heap}
theorem sc_gcd : FnScope ["one", "other"] ["one", "other"] (defScope s_gcd) := ⟨rfl, rfl, rfl, by decide +kernel, rfl, by decide +kernel, by decide +kernel⟩
def R_gcd (ds : List D) (d : D) : Prop := ∃ a b : Int, ds = [.int a, .int b] ∧ d = .int (Int.gcd a b : Int)
theorem ok_gcd (T : Gb K mg) (A : DefAt K mg "gcd" s_gcd) : DefOk P w K mg base "gcd" 1 ["one", "other"] (spD K R_gcd) := by
  refine fn_ok A sc_gcd (by decide) (fun _ _ _ _ _ _ us hl => match us, hl with | [_, _], _ => rfl) (fun ds d h => by obtain ⟨a, b, rfl, _⟩ := h; rfl) ?_
  intro f cdv A' outer s H E hr ds d ⟨a, b, e1, e2⟩
  subst e1 e2
  refine runs_step (run_par 0 1 (evA_cons (ev_abs (ev_var 0 rfl (.inl rfl) rfl) rfl T.abs) (evA_cons (ev_abs (ev_var 1 rfl (.inl rfl) rfl) rfl T.abs) evA_nil)) rfl sc_gcd.nd rfl rfl (by decide) rfl rfl rfl) ?_
  refine runs_while (fun m ρ => ∃ x y : Nat, Nat.gcd x y = Int.gcd a b ∧ m = y ∧ ρ = [.va (.int (x : Int)), .va (.int (y : Int))]) .never ⟨a.natAbs, b.natAbs, rfl, rfl, rfl⟩ ?_
  rintro m ρ ⟨x, y, hg, rfl, rfl⟩
  refine ⟨_, _, evB_cmp (ev_var 1 rfl (.inl rfl) rfl) ev_int cop_neI, fun hb => ?_, fun hb => ?_⟩
  · have hy : 0 < m := by
      simp at hb
      omega
    refine runs_step (run_par 0 1 (evA_cons (ev_var 1 rfl (.inl rfl) rfl) (evA_cons (ev_op (ev_var 0 rfl (.inl rfl) rfl) (ev_var 1 rfl (.inl rfl) rfl) (bop_mod (by omega))) evA_nil)) rfl sc_gcd.nd rfl rfl (by decide) rfl rfl rfl) ?_
    refine runs_nil ⟨x % m, Nat.mod_lt _ hy, m, x % m, ?_, rfl, rfl⟩
    rw [← hg, Nat.gcd_comm x m, Nat.gcd_rec m x, Nat.gcd_comm]
  · have hy : m = 0 := by
      simp at hb
      omega
    subst hy
    refine runs_ret (ev_var 0 rfl (.inl rfl) rfl) (rt_eq ?_)
    rw [← hg]
    simp

theorem log2_lt {n b : Nat} (h : n < 2 ^ b) (hb : 0 < b) : n.log2 < b := by
  rcases Nat.eq_zero_or_pos n with h0 | h0
  · subst h0; simpa using hb
  · exact (Nat.log2_lt (by omega)).mpr h
theorem mulw_of {i j : Int} {b c : Nat} (h1 : i.natAbs < 2 ^ b) (h2 : j.natAbs < 2 ^ c) (hb : 0 < b) (hc : 0 < c) (h : b + c < 1000000) : CMulW i j := by
  have := log2_lt h1 hb
  have := log2_lt h2 hc
  show _ + _ < _
  omega
theorem divw_of {i j : Int} {b : Nat} (h0 : 0 < j) (h1 : j.natAbs < 2 ^ b) (hb : 0 < b) (h : b ≤ 9000) : CDivW i j := ⟨h0, Nat.lt_of_lt_of_le (log2_lt h1 hb) h⟩
theorem Sz.den' {b : Nat} {q : Rat} (h : Sz b q) : ((q.den : Int)).natAbs < 2 ^ b := by rw [Int.natAbs_natCast]; exact h.2
theorem sc_is_in : FnScope ["value", "least", "most"] ["value", "least", "most"] (defScope s_is_in) := ⟨rfl, rfl, rfl, by decide +kernel, rfl, by decide +kernel, by decide +kernel⟩
def R_is_in (ds : List D) (d : D) : Prop := ∃ a b c : Int, ds = [.int a, .int b, .int c] ∧ d = .bl (decide (b ≤ a) && decide (a ≤ c))
theorem ok_is_in (T : Gb K mg) (A : DefAt K mg "is_in" s_is_in) : DefOk P w K mg base "is_in" 1 ["value", "least", "most"] (spD K R_is_in) := by
  refine fn_ok A sc_is_in (by decide) (fun _ _ _ _ _ _ us hl => match us, hl with | [_, _, _], _ => rfl) (fun ds d h => by obtain ⟨_, _, _, rfl, _⟩ := h; rfl) ?_
  intro f cdv A' outer s H E hr ds d ⟨a, b, c, e1, e2⟩
  subst e1 e2
  refine runs_ret (ev_and (ev_isi (ev_v 0 rfl) (ev_ty (n := "int") rfl T.int (by decide +kernel)) rfl rfl rfl T.isinstance) fun h => (ev_and (ev_notV (ev_isi (ev_v 0 rfl) (ev_ty (n := "bool") rfl T.bool (by decide +kernel)) rfl rfl rfl T.isinstance)) fun h => (ev_one (ev_chain (ev_v 1 rfl) (ev_v 0 rfl) (ev_v 2 rfl) cop_le cop_le)))) (rt_eq ?_)
  rfl
theorem sc_reduced : FnScope ["numerator", "denominator", "common"] ["numerator", "denominator"] (defScope s_reduced) := ⟨rfl, rfl, rfl, by decide +kernel, rfl, by decide +kernel, by decide +kernel⟩
def R_reduced (ds : List D) (d : D) : Prop := ∃ (q : Rat) (z : Int) (n : Nat), 0 < n ∧ n < 2 ^ 8999 ∧ q * ((n : Nat) : Int) = (z : Rat) ∧ ds = [.int z, .int (n : Int)] ∧ d = rq q
theorem ok_reduced (T : Gb K mg) (A : DefAt K mg "reduced" s_reduced) (G_gcd : DefOk P w K mg base "gcd" 1 ["one", "other"] (spD K R_gcd)) : DefOk P w K mg base "reduced" 2 ["numerator", "denominator"] (spD K R_reduced) := by
  refine fn_ok A sc_reduced (by decide) (fun _ _ _ _ _ _ us hl => match us, hl with | [_, _], _ => rfl) (fun ds d h => by obtain ⟨_, _, _, _, _, _, rfl, _⟩ := h; rfl) ?_
  intro f cdv A' outer s H E hr ds d ⟨q, z, n, hn, hs, hq, e1, e2⟩
  subst e1 e2
  refine runs_set 2 (ev_call G_gcd (hr.mono (by decide)) rfl (evA_cons (ev_v 0 rfl) (evA_cons (ev_v 1 rfl) evA_nil)) ⟨_, _, rfl, rfl⟩) sc_reduced.nd rfl (.inl rfl) ?_
  refine runs_if (evB_cmp (ev_v 1 rfl) ev_int cop_lt) (fun hb => ?_) (fun hb => ?_)
  · simp at hb
    omega
  refine runs_nil ?_
  have g0 : 0 < Int.gcd z n := Int.gcd_pos_of_ne_zero_right _ (by omega)
  have g1 : Int.gcd z n ≤ n := by
    have : (Int.gcd z n : Int) ∣ n := Int.gcd_dvd_right ..
    exact Nat.le_of_dvd hn (by exact_mod_cast this)
  have dw : ∀ i, CDivW i (Int.gcd z n : Int) := fun i => divw_of (b := 8999) (by omega) (by rw [Int.natAbs_natCast]; omega) (by decide) (by decide)
  refine runs_ret (ev_tup (evA_cons (ev_op (ev_v 0 rfl) (ev_v 2 rfl) (bop_div (dw _))) (evA_cons (ev_op (ev_v 1 rfl) (ev_v 2 rfl) (bop_div (dw _))) evA_nil))) (rt_eq ?_)
  obtain ⟨h1, h2⟩ := red_div hn hq
  rw [← h1, ← h2]
  rfl
theorem sc_plus : FnScope ["one", "other"] ["one", "other"] (defScope s_plus) := ⟨rfl, rfl, rfl, by decide +kernel, rfl, by decide +kernel, by decide +kernel⟩
def R_plus (ds : List D) (d : D) : Prop := ∃ p q : Rat, Sz 4000 p ∧ Sz 4000 q ∧ ds = [rq p, rq q] ∧ d = rq (p + q)
theorem ok_plus (T : Gb K mg) (A : DefAt K mg "plus" s_plus) (G_reduced : DefOk P w K mg base "reduced" 2 ["numerator", "denominator"] (spD K R_reduced)) : DefOk P w K mg base "plus" 3 ["one", "other"] (spD K R_plus) := by
  refine fn_ok A sc_plus (by decide) (fun _ _ _ _ _ _ us hl => match us, hl with | [_, _], _ => rfl) (fun ds d h => by obtain ⟨_, _, _, _, rfl, _⟩ := h; rfl) ?_
  intro f cdv A' outer s H E hr ds d ⟨p, q, hp, hq, e1, e2⟩
  subst e1 e2
  refine runs_ret (ev_call G_reduced (hr.mono (by decide)) rfl (evA_cons (ev_op (ev_op (ev_ix (ev_v 0 rfl) ev_int (iop_tup rfl)) (ev_ix (ev_v 1 rfl) ev_int (iop_tup rfl)) (bop_mul (mulw_of hp.1 hq.den' (by decide) (by decide) (by decide)))) (ev_op (ev_ix (ev_v 1 rfl) ev_int (iop_tup rfl)) (ev_ix (ev_v 0 rfl) ev_int (iop_tup rfl)) (bop_mul (mulw_of hq.1 hp.den' (by decide) (by decide) (by decide)))) bop_add) (evA_cons (ev_op (ev_ix (ev_v 0 rfl) ev_int (iop_tup rfl)) (ev_ix (ev_v 1 rfl) ev_int (iop_tup rfl)) (bop_mul (mulw_of hp.den' hq.den' (by decide) (by decide) (by decide)))) evA_nil)) ⟨p + q, _, p.den * q.den, Nat.mul_pos p.den_pos q.den_pos, Nat.lt_of_lt_of_le (mul_lt_pow hp.2 hq.2) (Nat.pow_le_pow_right (by decide) (by decide)), add_den p q, by push_cast; rfl, rfl⟩) (rt_eq rfl)
theorem sc_minus : FnScope ["one", "other"] ["one", "other"] (defScope s_minus) := ⟨rfl, rfl, rfl, by decide +kernel, rfl, by decide +kernel, by decide +kernel⟩
def R_minus (ds : List D) (d : D) : Prop := ∃ p q : Rat, Sz 4000 p ∧ Sz 4000 q ∧ ds = [rq p, rq q] ∧ d = rq (p - q)
theorem ok_minus (T : Gb K mg) (A : DefAt K mg "minus" s_minus) (G_reduced : DefOk P w K mg base "reduced" 2 ["numerator", "denominator"] (spD K R_reduced)) : DefOk P w K mg base "minus" 3 ["one", "other"] (spD K R_minus) := by
  refine fn_ok A sc_minus (by decide) (fun _ _ _ _ _ _ us hl => match us, hl with | [_, _], _ => rfl) (fun ds d h => by obtain ⟨_, _, _, _, rfl, _⟩ := h; rfl) ?_
  intro f cdv A' outer s H E hr ds d ⟨p, q, hp, hq, e1, e2⟩
  subst e1 e2
  refine runs_ret (ev_call G_reduced (hr.mono (by decide)) rfl (evA_cons (ev_op (ev_op (ev_ix (ev_v 0 rfl) ev_int (iop_tup rfl)) (ev_ix (ev_v 1 rfl) ev_int (iop_tup rfl)) (bop_mul (mulw_of hp.1 hq.den' (by decide) (by decide) (by decide)))) (ev_op (ev_ix (ev_v 1 rfl) ev_int (iop_tup rfl)) (ev_ix (ev_v 0 rfl) ev_int (iop_tup rfl)) (bop_mul (mulw_of hq.1 hp.den' (by decide) (by decide) (by decide)))) bop_sub) (evA_cons (ev_op (ev_ix (ev_v 0 rfl) ev_int (iop_tup rfl)) (ev_ix (ev_v 1 rfl) ev_int (iop_tup rfl)) (bop_mul (mulw_of hp.den' hq.den' (by decide) (by decide) (by decide)))) evA_nil)) ⟨p - q, _, p.den * q.den, Nat.mul_pos p.den_pos q.den_pos, Nat.lt_of_lt_of_le (mul_lt_pow hp.2 hq.2) (Nat.pow_le_pow_right (by decide) (by decide)), sub_den p q, by push_cast; rfl, rfl⟩) (rt_eq rfl)
theorem sc_times : FnScope ["one", "other"] ["one", "other"] (defScope s_times) := ⟨rfl, rfl, rfl, by decide +kernel, rfl, by decide +kernel, by decide +kernel⟩
def R_times (ds : List D) (d : D) : Prop := ∃ p q : Rat, Sz 4000 p ∧ Sz 4000 q ∧ ds = [rq p, rq q] ∧ d = rq (p * q)
theorem ok_times (T : Gb K mg) (A : DefAt K mg "times" s_times) (G_reduced : DefOk P w K mg base "reduced" 2 ["numerator", "denominator"] (spD K R_reduced)) : DefOk P w K mg base "times" 3 ["one", "other"] (spD K R_times) := by
  refine fn_ok A sc_times (by decide) (fun _ _ _ _ _ _ us hl => match us, hl with | [_, _], _ => rfl) (fun ds d h => by obtain ⟨_, _, _, _, rfl, _⟩ := h; rfl) ?_
  intro f cdv A' outer s H E hr ds d ⟨p, q, hp, hq, e1, e2⟩
  subst e1 e2
  refine runs_ret (ev_call G_reduced (hr.mono (by decide)) rfl (evA_cons (ev_op (ev_ix (ev_v 0 rfl) ev_int (iop_tup rfl)) (ev_ix (ev_v 1 rfl) ev_int (iop_tup rfl)) (bop_mul (mulw_of hp.1 hq.1 (by decide) (by decide) (by decide)))) (evA_cons (ev_op (ev_ix (ev_v 0 rfl) ev_int (iop_tup rfl)) (ev_ix (ev_v 1 rfl) ev_int (iop_tup rfl)) (bop_mul (mulw_of hp.den' hq.den' (by decide) (by decide) (by decide)))) evA_nil)) ⟨p * q, _, p.den * q.den, Nat.mul_pos p.den_pos q.den_pos, Nat.lt_of_lt_of_le (mul_lt_pow hp.2 hq.2) (Nat.pow_le_pow_right (by decide) (by decide)), mul_den p q, by push_cast; rfl, rfl⟩) (rt_eq rfl)
theorem sc_over : FnScope ["one", "other"] ["one", "other"] (defScope s_over) := ⟨rfl, rfl, rfl, by decide +kernel, rfl, by decide +kernel, by decide +kernel⟩
def R_over (ds : List D) (d : D) : Prop := ∃ p q : Rat, Sz 4000 p ∧ Sz 4000 q ∧ 0 < q ∧ ds = [rq p, rq q] ∧ d = rq (p / q)
theorem ok_over (T : Gb K mg) (A : DefAt K mg "over" s_over) (G_reduced : DefOk P w K mg base "reduced" 2 ["numerator", "denominator"] (spD K R_reduced)) : DefOk P w K mg base "over" 3 ["one", "other"] (spD K R_over) := by
  refine fn_ok A sc_over (by decide) (fun _ _ _ _ _ _ us hl => match us, hl with | [_, _], _ => rfl) (fun ds d h => by obtain ⟨_, _, _, _, _, rfl, _⟩ := h; rfl) ?_
  intro f cdv A' outer s H E hr ds d ⟨p, q, hp, hq, h0, e1, e2⟩
  subst e1 e2
  have hn := num_pos.mp h0
  refine runs_ret (ev_call G_reduced (hr.mono (by decide)) rfl (evA_cons (ev_op (ev_ix (ev_v 0 rfl) ev_int (iop_tup rfl)) (ev_ix (ev_v 1 rfl) ev_int (iop_tup rfl)) (bop_mul (mulw_of hp.1 hq.den' (by decide) (by decide) (by decide)))) (evA_cons (ev_op (ev_ix (ev_v 0 rfl) ev_int (iop_tup rfl)) (ev_ix (ev_v 1 rfl) ev_int (iop_tup rfl)) (bop_mul (mulw_of hp.den' hq.1 (by decide) (by decide) (by decide)))) evA_nil)) ⟨p / q, _, p.den * q.num.natAbs, Nat.mul_pos p.den_pos (by omega), Nat.lt_of_lt_of_le (mul_lt_pow hp.2 hq.1) (Nat.pow_le_pow_right (by decide) (by decide)), div_den p q hn, ?_, rfl⟩) (rt_eq rfl)
  have : ((p.den * q.num.natAbs : Nat) : Int) = (p.den : Int) * q.num := by
    push_cast
    rw [Int.ofNat_natAbs_of_nonneg (by omega)]
  rw [this]
theorem sc_less : FnScope ["one", "other"] ["one", "other"] (defScope s_less) := ⟨rfl, rfl, rfl, by decide +kernel, rfl, by decide +kernel, by decide +kernel⟩
def R_less (ds : List D) (d : D) : Prop := ∃ p q : Rat, Sz 4000 p ∧ Sz 4000 q ∧ ds = [rq p, rq q] ∧ d = .bl (decide (p < q))
theorem ok_less (T : Gb K mg) (A : DefAt K mg "less" s_less) : DefOk P w K mg base "less" 1 ["one", "other"] (spD K R_less) := by
  refine fn_ok A sc_less (by decide) (fun _ _ _ _ _ _ us hl => match us, hl with | [_, _], _ => rfl) (fun ds d h => by obtain ⟨_, _, _, _, rfl, _⟩ := h; rfl) ?_
  intro f cdv A' outer s H E hr ds d ⟨p, q, hp, hq, e1, e2⟩
  subst e1 e2
  refine runs_ret (ev_cmp (ev_op (ev_ix (ev_v 0 rfl) ev_int (iop_tup rfl)) (ev_ix (ev_v 1 rfl) ev_int (iop_tup rfl)) (bop_mul (mulw_of hp.1 hq.den' (by decide) (by decide) (by decide)))) (ev_op (ev_ix (ev_v 1 rfl) ev_int (iop_tup rfl)) (ev_ix (ev_v 0 rfl) ev_int (iop_tup rfl)) (bop_mul (mulw_of hq.1 hp.den' (by decide) (by decide) (by decide)))) cop_lt) (rt_eq ?_)
  rw [decide_eq_decide.mpr (Rat.lt_iff p q)]
end
end K8
namespace K8
open PySem PySem.Spec PyProof.Rows L2
section
variable {P : Program} {w : World} {K : PySem.W.Frag} {mg : Str → Option Value} {base : Heap}
theorem sc_whole : FnScope ["ratios", "below", "common", "one", "found"] ["ratios"] (defScope s_whole) := ⟨rfl, rfl, rfl, by decide +kernel, rfl, by decide +kernel, by decide +kernel⟩
def R_whole (ds : List D) (d : D) : Prop := ∃ (qs : List Rat) (b : Nat), (∀ q ∈ qs, Sz b q) ∧ 0 < b ∧ b + (1 + qs.length * b) ≤ 9000 ∧ ds = [.lst (qs.map rq)] ∧ d = .lst ((wholeF qs).map D.int)
theorem pow_mono {a b n : Nat} (h : n < 2 ^ a) (hab : a ≤ b) : n < 2 ^ b := Nat.lt_of_lt_of_le h (Nat.pow_le_pow_right (by decide) hab)
theorem ok_whole (T : Gb K mg) (A : DefAt K mg "whole" s_whole) (G_gcd : DefOk P w K mg base "gcd" 1 ["one", "other"] (spD K R_gcd)) : DefOk P w K mg base "whole" 2 ["ratios"] (spD K R_whole) := by
  refine fn_ok A sc_whole (by decide) (fun _ _ _ _ _ _ us hl => match us, hl with | [_], _ => rfl) (fun ds d h => by obtain ⟨_, _, _, _, _, rfl, _⟩ := h; rfl) ?_
  intro f cdv A' outer s H E hr ds d ⟨qs, b, hs, hb0, hb, e1, e2⟩
  subst e1 e2
  have hlen : qs.length ≤ 9000 := by
    have : qs.length * 1 ≤ qs.length * b := Nat.mul_le_mul_left _ hb0
    omega
  have hpre : ∀ pre a post, qs = pre ++ a :: post → lcmF 1 pre < 2 ^ (1 + qs.length * b) := fun pre a post e => pow_mono (lcmF_lt pre (b := 1) (a := 1) (by decide) fun q hq => (hs q (by rw [e]; simp [hq])).2) (by
    have : pre.length * b ≤ qs.length * b := Nat.mul_le_mul_right _ (by rw [e]; simp)
    omega)
  refine runs_step (run_asg (ev_tup (evA_cons ev_int (evA_cons ev_int evA_nil))) (tg_tup rfl (tgs_cons (tg_name 1 sc_whole.nd rfl (.inr rfl)) (tgs_cons (tg_name 2 sc_whole.nd rfl (.inr rfl)) tgs_nil)))) ?_
  refine runs_for qs rq (fun pre ρ => ∃ c, c.own = false ∧ ρ = [.va (.lst (qs.map rq)), .va (nD (lcmF 1 pre)), .va (.int 0), c, .un]) .never rfl (itr_lst (ev_v 0 rfl)) ⟨.un, rfl, rfl⟩ ?_ ?_
  · rintro pre a post ρ' hl ⟨c, hc, rfl⟩
    have ha := hs a (by rw [hl]; simp)
    have hlp := hpre pre a post hl
    have hdp := a.den_pos
    have g0 : 0 < Nat.gcd (lcmF 1 pre) a.den := Nat.gcd_pos_of_pos_right _ hdp
    have g1 : Nat.gcd (lcmF 1 pre) a.den < 2 ^ b := Nat.lt_of_le_of_lt (Nat.le_of_dvd hdp (Nat.gcd_dvd_right ..)) ha.2
    refine ⟨_, _, (tg_name 3 sc_whole.nd rfl (.inl rfl)), ?_⟩
    refine runs_set 1 (ev_op (ev_op (ev_v 1 rfl) (ev_ix (ev_v 3 rfl) ev_int (iop_tup rfl)) (bop_mul (mulw_of (b := 1 + qs.length * b) (c := b) (by simpa using hlp) ha.den' (by omega) hb0 (by omega)))) (ev_call G_gcd (hr.mono (by decide)) rfl (evA_cons (ev_v 1 rfl) (evA_cons (ev_ix (ev_v 3 rfl) ev_int (iop_tup rfl)) evA_nil)) ⟨_, _, rfl, rfl⟩) (bop_div (divw_of (b := b) (by rw [Int.gcd_natCast_natCast]; omega) (by rw [Int.gcd_natCast_natCast, Int.natAbs_natCast]; exact g1) hb0 (by omega)))) sc_whole.nd rfl (.inr rfl) ?_
    refine runs_nil ⟨.va (rq a), rfl, ?_⟩
    have e : lcmF 1 (pre ++ [a]) = lcmF 1 pre * a.den / Nat.gcd (lcmF 1 pre) a.den := by
      unfold lcmF
      rw [List.foldl_append]
      rfl
    rw [e]
    have e' : nD (lcmF 1 pre * a.den / Nat.gcd (lcmF 1 pre) a.den) = D.int (((lcmF 1 pre : Nat) : Int) * (a.den : Int) / ((Int.gcd (lcmF 1 pre : Nat) (a.den : Int) : Nat) : Int)) := by
      unfold nD
      rw [Int.gcd_natCast_natCast]
      push_cast
      rfl
    rw [e']
    rfl
  rintro ρ' ⟨c, hc, rfl⟩
  have hall := lcmF_lt qs (b := 1) (a := 1) (by decide) (fun q hq => (hs q hq).2)
  refine runs_step (run_map1 4 qs rq (fun q => D.int (q.num * (lcmF 1 qs : Int) / (q.den : Int))) 3 rfl sc_whole.nd rfl rfl rfl (itr_lst (ev_v 0 rfl)) (blkOk_by rfl) (by show _ < sizeLine; unfold sizeLine; omega) rfl rfl (fun a ha X' hX => by
    obtain ⟨_, _, _, _, _, rfl⟩ := hX
    have hdp := a.den_pos
    exact (ev_op (ev_op (ev_ix (ev_v 3 rfl) ev_int (iop_tup rfl)) (ev_v 1 rfl) (bop_mul (mulw_of (b := b) (c := 1 + qs.length * b) (hs a ha).1 (by simpa using hall) hb0 (by omega) (by omega)))) (ev_ix (ev_v 3 rfl) ev_int (iop_tup rfl)) (bop_div (divw_of (b := b) (by omega) (hs a ha).den' hb0 (by omega))))) (by rintro c' ⟨⟩; exact hc)) ?_
  have ef : qs.map (fun q => D.int (q.num * (lcmF 1 qs : Int) / (q.den : Int))) = (foundF qs).map D.int := by
    unfold foundF
    rw [List.map_map]
    rfl
  rw [ef]
  refine runs_for (foundF qs) D.int (fun pre ρ => ∃ c, c.own = false ∧ ρ = [.va (.lst (qs.map rq)), .va (nD (lcmF 1 qs)), .va (nD (comF 0 pre)), c, .va (.lst ((foundF qs).map D.int))]) .never rfl (itr_lst (ev_vF 4 (by rfl))) ⟨c, hc, rfl⟩ ?_ ?_
  · rintro pre a post ρ' hl ⟨c, hc, rfl⟩
    refine ⟨_, _, (tg_name 3 sc_whole.nd rfl (.inl rfl)), ?_⟩
    refine runs_set 2 (ev_call G_gcd (hr.mono (by decide)) rfl (evA_cons (ev_v 2 rfl) (evA_cons (ev_v 3 rfl) evA_nil)) ⟨_, _, rfl, rfl⟩) sc_whole.nd rfl (.inr rfl) ?_
    refine runs_nil ⟨.va (.int a), rfl, ?_⟩
    have e : comF 0 (pre ++ [a]) = Int.gcd (comF 0 pre) a := by
      unfold comF
      rw [List.foldl_append]
      rfl
    rw [e]
    rfl
  rintro ρ' ⟨c', hc', rfl⟩
  have hcl := com_lt hs
  refine runs_ret (d := .lst ((wholeF qs).map D.int)) (ev_ifexp (ρ2 := [.va (.lst (qs.map rq)), .va (nD (lcmF 1 qs)), .va (nD (comF 0 (foundF qs))), c', .va (.lst ((foundF qs).map D.int))]) (evB_cmp (ev_v 2 rfl) ev_int cop_gt) (fun h => ?_) (fun h => ?_)) (rt_eq rfl)
  · have h' : 0 < comF 0 (foundF qs) := by simpa using h
    have ew : (wholeF qs).map D.int = (foundF qs).map fun z => D.int (z / (comF 0 (foundF qs) : Int)) := by
      unfold wholeF
      rw [if_pos h', List.map_map]
      rfl
    rw [ew]
    exact ev_of_new (evN_map1 (foundF qs) D.int (fun z => D.int (z / (comF 0 (foundF qs) : Int))) 3 rfl sc_whole.nd (itr_lst (ev_v 4 rfl)) (blkOk_by rfl) (by show _ < sizeLine; unfold sizeLine foundF; rw [List.length_map]; omega) rfl rfl (fun a ha X' hX => by
      obtain ⟨_, _, _, _, _, rfl⟩ := hX
      exact (ev_op (ev_v 3 rfl) (ev_v 2 rfl) (bop_div (divw_of (b := b + (1 + qs.length * b)) (by omega) (by rw [Int.natAbs_natCast]; exact hcl) (by omega) (by omega))))) (by rintro c'' ⟨⟩; exact hc'))
  · have h' : ¬ 0 < comF 0 (foundF qs) := by simpa using h
    have ew : wholeF qs = foundF qs := by
      unfold wholeF
      rw [if_neg h']
    rw [ew]
    exact ev_v 4 rfl
end
end K8
namespace K8
def sm : Nat → (Nat → Rat) → Rat
  | 0, _ => 0
  | h + 1, f => sm h f + f h
theorem sm_congr : ∀ {h : Nat} {f g : Nat → Rat}, (∀ i, i < h → f i = g i) → sm h f = sm h g
  | 0, _, _, _ => rfl
  | h + 1, f, g, e => by
    rw [sm, sm, sm_congr (fun i hi => e i (by omega)), e h (by omega)]
theorem sm_add : ∀ (h : Nat) (f g : Nat → Rat), sm h (fun i => f i + g i) = sm h f + sm h g
  | 0, _, _ => by simp only [sm]; grind
  | h + 1, f, g => by
    rw [sm, sm, sm, sm_add h f g]
    grind
theorem sm_sub : ∀ (h : Nat) (f g : Nat → Rat), sm h (fun i => f i - g i) = sm h f - sm h g
  | 0, _, _ => by simp only [sm]; grind
  | h + 1, f, g => by
    rw [sm, sm, sm, sm_sub h f g]
    grind
theorem sm_mul : ∀ (h : Nat) (a : Rat) (f : Nat → Rat), sm h (fun i => a * f i) = a * sm h f
  | 0, a, _ => by simp [sm]
  | h + 1, a, f => by
    rw [sm, sm, sm_mul h a f]
    grind
theorem sm_mulr (h : Nat) (a : Rat) (f : Nat → Rat) : sm h (fun i => f i * a) = sm h f * a := by
  rw [Rat.mul_comm, ← sm_mul]
  exact sm_congr fun i _ => Rat.mul_comm ..
theorem sm_zero : ∀ {h : Nat} {f : Nat → Rat}, (∀ i, i < h → f i = 0) → sm h f = 0
  | 0, _, _ => rfl
  | h + 1, f, e => by
    rw [sm, sm_zero (fun i hi => e i (by omega)), e h (by omega)]
    grind
theorem sm_single : ∀ {h p : Nat} (f : Nat → Rat), p < h → sm h (fun i => if i = p then f i else 0) = f p
  | h + 1, p, f, hp => by
    rw [sm]
    by_cases e : h = p
    · subst e
      rw [sm_zero (fun i hi => by rw [if_neg (by omega)]), if_pos rfl]
      grind
    · rw [if_neg e, sm_single f (by omega)]
      grind
theorem sm_swap : ∀ (h l : Nat) (f : Nat → Nat → Rat), sm h (fun i => sm l (fun k => f i k)) = sm l (fun k => sm h (fun i => f i k))
  | 0, l, f => by
    rw [sm, sm_zero]
    intro i _
    rfl
  | h + 1, l, f => by
    rw [sm, sm_swap h l f, ← sm_add]
    rfl
theorem sm_nonneg : ∀ {h : Nat} {f : Nat → Rat}, (∀ i, i < h → 0 ≤ f i) → 0 ≤ sm h f
  | 0, _, _ => by simp [sm]
  | h + 1, f, e => by
    rw [sm]
    have := sm_nonneg (h := h) (f := f) (fun i hi => e i (by omega))
    have := e h (by omega)
    grind
theorem sm_le : ∀ {h : Nat} {f g : Nat → Rat}, (∀ i, i < h → f i ≤ g i) → sm h f ≤ sm h g
  | 0, _, _, _ => by simp [sm]
  | h + 1, f, g, e => by
    rw [sm, sm]
    have := sm_le (h := h) (f := f) (g := g) (fun i hi => e i (by omega))
    have := e h (by omega)
    grind
theorem sm_pos_ex : ∀ {h : Nat} {f : Nat → Rat}, 0 < sm h f → ∃ i, i < h ∧ 0 < f i
  | 0, _, e => by simp [sm] at e
  | h + 1, f, e => by
    rw [sm] at e
    by_cases h0 : 0 < f h
    · exact ⟨h, by omega, h0⟩
    · obtain ⟨i, hi, e'⟩ := sm_pos_ex (h := h) (f := f) (by grind)
      exact ⟨i, by omega, e'⟩
theorem sm_zero_all : ∀ {h : Nat} {f : Nat → Rat}, (∀ i, i < h → 0 ≤ f i) → sm h f = 0 → ∀ i, i < h → f i = 0
  | h + 1, f, e, z, i, hi => by
    rw [sm] at z
    have a := sm_nonneg (h := h) (f := f) (fun i hi => e i (by omega))
    have b := e h (by omega)
    by_cases c : i = h
    · subst c; grind
    · exact sm_zero_all (h := h) (f := f) (fun i hi => e i (by omega)) (by grind) i (by omega)
def cj (h n j : Nat) : Rat := if n ≤ j ∧ j < n + h then 1 else 0
structure Inv (h n : Nat) (A T : Nat → Nat → Rat) (c : Nat → Rat) (b : Nat → Nat) : Prop where
  lin : ∀ i, i < h → ∀ j, j ≤ n + h → T i j = sm h fun k => T i (n + k) * A k j
  rep : ∀ k, k < h → ∀ j, j ≤ n + h → A k j = sm h fun i => A k (b i) * T i j
  unit : ∀ i, i < h → ∀ i', i' < h → T i (b i') = if i = i' then 1 else 0
  bN : ∀ i, i < h → b i < n + h
  pos : ∀ i, i < h → 0 ≤ T i (n + h)
  cost : ∀ j, j ≤ n + h → c j = cj h n j - sm h fun i => if n ≤ b i then T i j else 0
structure Piv (h n : Nat) (T : Nat → Nat → Rat) (c : Nat → Rat) (b : Nat → Nat) (p q : Nat) (T' : Nat → Nat → Rat) (c' : Nat → Rat) (b' : Nat → Nat) : Prop where
  hp : p < h
  hq : q < n
  pv : 0 < T p q
  neg : c q < 0
  low : ∀ j, j < q → 0 ≤ c j
  ratio : ∀ i, i < h → 0 < T i q → T p (n + h) * T i q ≤ T i (n + h) * T p q
  tie : ∀ i, i < h → 0 < T i q → T p (n + h) * T i q = T i (n + h) * T p q → b p ≤ b i
  eT : ∀ i, i < h → ∀ j, j ≤ n + h → T' i j = if i = p then T p j / T p q else T i j - T i q * (T p j / T p q)
  ec : ∀ j, j ≤ n + h → c' j = c j - c q * (T p j / T p q)
  eb : ∀ i, i < h → b' i = if i = p then q else b i
variable {h n p q : Nat} {A T T' : Nat → Nat → Rat} {c c' : Nat → Rat} {b b' : Nat → Nat}
theorem Piv.one (P : Piv h n T c b p q T' c' b') : T p q / T p q = 1 := by
  have := P.pv
  grind
theorem Inv.step (I : Inv h n A T c b) (P : Piv h n T c b p q T' c' b') : Inv h n A T' c' b' := by
  have h1 := P.one
  have hp := P.hp
  have hq := P.hq
  refine ⟨?_, ?_, ?_, ?_, ?_, ?_⟩
  · intro i hi j hj
    by_cases e : i = p
    · subst e
      rw [P.eT i hi j hj, if_pos rfl]
      have : (sm h fun k => T' i (n + k) * A k j) = sm h fun k => (T i q)⁻¹ * (T i (n + k) * A k j) := sm_congr fun k hk => by
        rw [P.eT i hi (n + k) (by omega), if_pos rfl, Rat.div_def]
        grind
      rw [this, sm_mul, ← I.lin i hi j hj, Rat.div_def]
      grind
    · rw [P.eT i hi j hj, if_neg e]
      have : (sm h fun k => T' i (n + k) * A k j) = sm h fun k => T i (n + k) * A k j - (T i q * (T p q)⁻¹) * (T p (n + k) * A k j) := sm_congr fun k hk => by
        rw [P.eT i hi (n + k) (by omega), if_neg e, Rat.div_def]
        grind
      rw [this, sm_sub, sm_mul, ← I.lin i hi j hj, ← I.lin p hp j hj, Rat.div_def]
      grind
  · intro k hk j hj
    have : (sm h fun i => A k (b' i) * T' i j) = sm h fun i => (A k (b i) * T i j - (A k (b i) * T i q) * (T p j / T p q)) + (if i = p then A k q * (T p j / T p q) else 0) := sm_congr fun i hi => by
      rw [P.eT i hi j hj, P.eb i hi]
      by_cases e : i = p
      · subst e
        simp only [if_true]
        have : T i q * (T i j / T i q) = T i j := by
          rw [Rat.div_def]
          have := P.pv
          grind
        grind
      · simp only [if_neg e]
        grind
    rw [this, sm_add, sm_sub, sm_mulr, ← I.rep k hk j hj, ← I.rep k hk q (by omega), sm_single (fun _ => A k q * (T p j / T p q)) hp]
    grind
  · intro i hi i' hi'
    have hb := I.bN i' hi'
    rw [P.eb i' hi']
    by_cases e' : i' = p
    · subst e'
      rw [if_pos rfl, P.eT i hi q (by omega)]
      by_cases e : i = i'
      · subst e
        simp only [if_true]
        exact h1
      · simp only [if_neg e]
        rw [h1]
        grind
    · rw [if_neg e', P.eT i hi _ (by omega)]
      by_cases e : i = p
      · subst e
        rw [if_pos rfl, I.unit i hi i' hi', if_neg (Ne.symm e'), Rat.div_def, Rat.zero_mul]
      · rw [if_neg e, I.unit i hi i' hi', I.unit p hp i' hi', if_neg (c := p = i') (fun z => e' z.symm), Rat.div_def, Rat.zero_mul]
        grind
  · intro i hi
    rw [P.eb i hi]
    have := I.bN i hi
    split <;> omega
  · intro i hi
    rw [P.eT i hi _ (by omega)]
    have hv : 0 < (T p q)⁻¹ := Rat.inv_pos.mpr P.pv
    have a := I.pos p hp
    have a2 := I.pos i hi
    have e1 : T p q * (T p q)⁻¹ = 1 := Rat.mul_inv_cancel _ (by have := P.pv; grind)
    have key : 0 ≤ T p (n + h) / T p q := by
      rw [Rat.div_def]
      exact Rat.mul_nonneg a (by grind)
    split
    · exact key
    · by_cases s : 0 < T i q
      · have r := P.ratio i hi s
        have : 0 ≤ (T i (n + h) * T p q - T p (n + h) * T i q) * (T p q)⁻¹ := Rat.mul_nonneg (by grind) (by grind)
        have z : T i (n + h) - T i q * (T p (n + h) / T p q) = (T i (n + h) * T p q - T p (n + h) * T i q) * (T p q)⁻¹ := by
          rw [Rat.div_def]
          grind
        rw [z]
        exact this
      · have : 0 ≤ (- T i q) * (T p (n + h) / T p q) := Rat.mul_nonneg (by grind) key
        grind
  · intro j hj
    rw [P.ec j hj, I.cost j hj, I.cost q (by omega)]
    have e0 : cj h n q = 0 := by
      unfold cj
      rw [if_neg (by omega)]
    have : (sm h fun i => if n ≤ b' i then T' i j else 0) = sm h fun i => (if n ≤ b i then T i j else 0) - (if n ≤ b i then T i q else 0) * (T p j / T p q) := sm_congr fun i hi => by
      rw [P.eb i hi, P.eT i hi j hj]
      by_cases e : i = p
      · subst e
        simp only [if_true]
        rw [if_neg (by omega : ¬ n ≤ q)]
        have : T i q * (T i j / T i q) = T i j := by
          rw [Rat.div_def]
          have := P.pv
          grind
        split <;> grind
      · simp only [if_neg e]
        split <;> grind
    rw [this, sm_sub, sm_mulr, e0]
    grind
end K8
namespace K8
variable {h n : Nat} {A : Nat → Nat → Rat}
/-- a sequence among few numbers meets one twice -/
theorem pigeon : ∀ (B : Nat) (f : Nat → Nat), (∀ k, f k < B) → ∃ s t, s < t ∧ f s = f t
  | 0, f, hf => absurd (hf 0) (by omega)
  | B + 1, f, hf => by
    by_cases hx : ∃ N, ∀ k, N ≤ k → f k ≠ B
    · obtain ⟨N, hN⟩ := hx
      obtain ⟨s, t, hst, e⟩ := pigeon B (fun k => f (N + k)) (fun k => by
        have := hf (N + k)
        have := hN (N + k) (by omega)
        show f (N + k) < B
        omega)
      exact ⟨N + s, N + t, by omega, e⟩
    · have hx' : ∀ N, ∃ k, N ≤ k ∧ f k = B := fun N => Classical.byContradiction fun hc => hx ⟨N, fun k hk e => hc ⟨k, hk, e⟩⟩
      obtain ⟨s, _, es⟩ := hx' 0
      obtain ⟨t, ht, et⟩ := hx' (s + 1)
      exact ⟨s, t, by omega, by rw [es, et]⟩
/-- a basis as a number -/
def code (N : Nat) (b : Nat → Nat) : Nat → Nat
  | 0 => 0
  | h + 1 => code N b h * N + b h
theorem code_lt {N : Nat} {b : Nat → Nat} : ∀ {h : Nat}, (∀ i, i < h → b i < N) → code N b h < N ^ h
  | 0, _ => by simp [code]
  | h + 1, hb => by
    have a := code_lt (h := h) (fun i hi => hb i (by omega))
    have c := hb h (by omega)
    rw [code, Nat.pow_succ]
    have : (code N b h + 1) * N ≤ N ^ h * N := Nat.mul_le_mul_right _ a
    rw [Nat.add_mul] at this
    omega
theorem code_inj {N : Nat} {b b' : Nat → Nat} : ∀ {h : Nat}, (∀ i, i < h → b i < N) → (∀ i, i < h → b' i < N) → code N b h = code N b' h → ∀ i, i < h → b i = b' i
  | h + 1, hb, hb', e, i, hi => by
    rw [code, code] at e
    have c := hb h (by omega)
    have c' := hb' h (by omega)
    have hN : 0 < N := by omega
    have e1 : b h = b' h := by
      have := congrArg (· % N) e
      simp only [Nat.mul_add_mod_self_right] at this
      rwa [Nat.mod_eq_of_lt c, Nat.mod_eq_of_lt c'] at this
    have e2 : code N b h = code N b' h := by
      rw [e1] at e
      exact Nat.eq_of_mul_eq_mul_right hN (by omega)
    by_cases z : i = h
    · subst z; exact e1
    · exact code_inj (fun i hi => hb i (by omega)) (fun i hi => hb' i (by omega)) e2 i (by omega)
/-- the tableau is told by its basis -/
theorem Inv.det {T T' : Nat → Nat → Rat} {c c' : Nat → Rat} {b b' : Nat → Nat} (I : Inv h n A T c b) (I' : Inv h n A T' c' b') (e : ∀ i, i < h → b i = b' i) : ∀ i, i < h → ∀ j, j ≤ n + h → T i j = T' i j := by
  intro i hi j hj
  have e1 : T i j = sm h fun k => sm h fun i' => T i (n + k) * A k (b' i') * T' i' j := by
    rw [I.lin i hi j hj]
    refine sm_congr fun k hk => ?_
    rw [I'.rep k hk j hj, ← sm_mul]
    exact sm_congr fun i' _ => by grind
  rw [e1, sm_swap]
  have e2 : (sm h fun i' => sm h fun k => T i (n + k) * A k (b' i') * T' i' j) = sm h fun i' => if i' = i then T' i' j else 0 := sm_congr fun i' hi' => by
    rw [sm_mulr, ← I.lin i hi (b' i') (by have := I'.bN i' hi'; omega), ← e i' hi', I.unit i hi i' hi']
    by_cases z : i = i'
    · rw [if_pos z, if_pos z.symm, Rat.one_mul]
    · rw [if_neg z, if_neg (fun y => z y.symm), Rat.zero_mul]
  rw [e2, sm_single (fun i' => T' i' j) hi]
theorem cost_basis {T : Nat → Nat → Rat} {c : Nat → Rat} {b : Nat → Nat} (I : Inv h n A T c b) {i : Nat} (hi : i < h) : c (b i) = 0 := by
  have hb := I.bN i hi
  rw [I.cost _ (by omega)]
  have : (sm h fun i' => if n ≤ b i' then T i' (b i) else 0) = sm h fun i' => if i' = i then (if n ≤ b i' then 1 else 0) else 0 := sm_congr fun i' hi' => by
    rw [I.unit i' hi' i hi]
    by_cases z : i' = i
    · simp [z]
    · simp [z]
  rw [this, sm_single (fun i' => if n ≤ b i' then 1 else 0) hi]
  unfold cj
  by_cases z : n ≤ b i
  · rw [if_pos ⟨z, hb⟩, if_pos z]
    grind
  · rw [if_neg (fun y => z y.1), if_neg z]
    grind
theorem basis_inj {T : Nat → Nat → Rat} {c : Nat → Rat} {b : Nat → Nat} (I : Inv h n A T c b) {i i' : Nat} (hi : i < h) (hi' : i' < h) (e : b i = b i') : i = i' := by
  have a := I.unit i hi i' hi'
  rw [← e, I.unit i hi i hi, if_pos rfl] at a
  by_cases z : i = i'
  · exact z
  · rw [if_neg z] at a
    exact absurd a (by decide)
/-- one cost row told by another tableau -/
theorem cost_other {T T' : Nat → Nat → Rat} {c c' : Nat → Rat} {b b' : Nat → Nat} (I : Inv h n A T c b) (I' : Inv h n A T' c' b') {q : Nat} (hq : q < n + h) : c q = c' q - sm h fun i => c' (b i) * T i q := by
  obtain ⟨y, hy⟩ : ∃ y : Nat → Rat, ∀ j, j ≤ n + h → c' j = cj h n j - sm h fun k => y k * A k j := by
    refine ⟨fun k => sm h fun i => if n ≤ b' i then T' i (n + k) else 0, ?_⟩
    intro j hj
    rw [I'.cost j hj]
    congr 1
    have : (sm h fun k => (sm h fun i => if n ≤ b' i then T' i (n + k) else 0) * A k j) = sm h fun k => sm h fun i => (if n ≤ b' i then T' i (n + k) else 0) * A k j := sm_congr fun k _ => (sm_mulr ..).symm
    rw [this, sm_swap]
    refine sm_congr fun i hi => ?_
    by_cases z : n ≤ b' i
    · simp only [if_pos z]
      exact I'.lin i hi j hj
    · simp only [if_neg z]
      rw [sm_zero]
      intro k _
      exact Rat.zero_mul _
  have hs : (sm h fun i => c' (b i) * T i q) = (sm h fun i => if n ≤ b i then T i q else 0) - sm h fun k => y k * A k q := by
    have e1 : (sm h fun i => c' (b i) * T i q) = sm h fun i => (if n ≤ b i then T i q else 0) - sm h fun k => y k * (A k (b i) * T i q) := sm_congr fun i hi => by
      have hb := I.bN i hi
      rw [hy (b i) (by omega)]
      have : (sm h fun k => y k * (A k (b i) * T i q)) = (sm h fun k => y k * A k (b i)) * T i q := by
        rw [← sm_mulr]
        exact sm_congr fun k _ => by grind
      rw [this]
      unfold cj
      by_cases z : n ≤ b i
      · rw [if_pos ⟨z, hb⟩, if_pos z]
        grind
      · rw [if_neg (fun y => z y.1), if_neg z]
        grind
    rw [e1, sm_sub, sm_swap]
    congr 1
    refine sm_congr fun k hk => ?_
    rw [sm_mul, ← I.rep k hk q (by omega)]
  rw [hs, hy q (by omega), I.cost q (by omega)]
  grind
/-- what goes round takes up and lays down -/
theorem up_step {g : Nat → Nat} {u : Nat} : ∀ {x y : Nat}, x ≤ y → g x ≠ u → g y = u → ∃ k, x ≤ k ∧ k < y ∧ g k ≠ u ∧ g (k + 1) = u
  | x, 0, h, e1, e2 => by
    have : x = 0 := by omega
    subst this
    exact absurd e2 e1
  | x, y + 1, h, e1, e2 => by
    by_cases z : g y = u
    · by_cases w : x ≤ y
      · obtain ⟨k, a, b, c, d⟩ := up_step w e1 z
        exact ⟨k, a, by omega, c, d⟩
      · have : x = y + 1 := by omega
        subst this
        exact absurd e2 e1
    · by_cases w : x ≤ y
      · exact ⟨y, w, by omega, z, e2⟩
      · have : x = y + 1 := by omega
        subst this
        exact absurd e2 e1
theorem down_step {g : Nat → Nat} {u : Nat} : ∀ {x y : Nat}, x ≤ y → g x = u → g y ≠ u → ∃ k, x ≤ k ∧ k < y ∧ g k = u ∧ g (k + 1) ≠ u
  | x, 0, h, e1, e2 => by
    have : x = 0 := by omega
    subst this
    exact absurd e1 e2
  | x, y + 1, h, e1, e2 => by
    by_cases w : x ≤ y
    · by_cases z : g y = u
      · exact ⟨y, w, by omega, z, e2⟩
      · obtain ⟨k, a, b, c, d⟩ := down_step w e1 z
        exact ⟨k, a, by omega, c, d⟩
    · have : x = y + 1 := by omega
      subst this
      exact absurd e1 e2
theorem round_up {g : Nat → Nat} {u s t x y : Nat} (e : g s = g t) (hx : s ≤ x ∧ x ≤ t) (hy : s ≤ y ∧ y ≤ t) (ex : g x ≠ u) (ey : g y = u) : ∃ k, s ≤ k ∧ k < t ∧ g k ≠ u ∧ g (k + 1) = u := by
  by_cases w : x ≤ y
  · obtain ⟨k, a, b, c, d⟩ := up_step w ex ey
    exact ⟨k, by omega, by omega, c, d⟩
  · by_cases z : g t = u
    · obtain ⟨k, a, b, c, d⟩ := up_step hx.2 ex z
      exact ⟨k, by omega, by omega, c, d⟩
    · obtain ⟨k, a, b, c, d⟩ := up_step hy.1 (e ▸ z) ey
      exact ⟨k, by omega, by omega, c, d⟩
theorem round_down {g : Nat → Nat} {u s t x y : Nat} (e : g s = g t) (hx : s ≤ x ∧ x ≤ t) (hy : s ≤ y ∧ y ≤ t) (ex : g x ≠ u) (ey : g y = u) : ∃ k, s ≤ k ∧ k < t ∧ g k = u ∧ g (k + 1) ≠ u := by
  by_cases w : y ≤ x
  · obtain ⟨k, a, b, c, d⟩ := down_step w ey ex
    exact ⟨k, by omega, by omega, c, d⟩
  · by_cases z : g t = u
    · obtain ⟨k, a, b, c, d⟩ := down_step hx.1 (e ▸ z) ex
      exact ⟨k, by omega, by omega, c, d⟩
    · obtain ⟨k, a, b, c, d⟩ := down_step hy.2 ey z
      exact ⟨k, by omega, by omega, c, d⟩
/-- Bland's rule goes on for ever nowhere -/
theorem bland (T : Nat → Nat → Nat → Rat) (c : Nat → Nat → Rat) (b : Nat → Nat → Nat) (p q : Nat → Nat) (I0 : Inv h n A (T 0) (c 0) (b 0)) (P : ∀ k, Piv h n (T k) (c k) (b k) (p k) (q k) (T (k + 1)) (c (k + 1)) (b (k + 1))) : False := by
  have I : ∀ k, Inv h n A (T k) (c k) (b k) := fun k => by
    induction k with
    | zero => exact I0
    | succ k ih => exact ih.step (P k)
  obtain ⟨s, t, hst, ec⟩ := pigeon ((n + h) ^ h) (fun k => code (n + h) (b k) h) fun k => code_lt (I k).bN
  have eb := code_inj (I s).bN (I t).bN ec
  have eT := (I s).det (I t) eb
  have ecN : c s (n + h) = c t (n + h) := by
    rw [(I s).cost _ (Nat.le_refl _), (I t).cost _ (Nat.le_refl _)]
    congr 1
    exact sm_congr fun i hi => by rw [eb i hi, eT i hi _ (Nat.le_refl _)]
  have up : ∀ k, c k (n + h) ≤ c (k + 1) (n + h) := fun k => by
    rw [(P k).ec _ (Nat.le_refl _)]
    have h1 : 0 ≤ T k (p k) (n + h) / T k (p k) (q k) := by
      rw [Rat.div_def]
      exact Rat.mul_nonneg ((I k).pos _ (P k).hp) (by have := Rat.inv_pos.mpr (P k).pv; grind)
    have h2 := (P k).neg
    have := Rat.mul_nonneg (a := -c k (q k)) (by grind) h1
    grind
  have upN : ∀ d k, c k (n + h) ≤ c (k + d) (n + h) := fun d k => by
    induction d with
    | zero => exact Rat.le_refl
    | succ d ih => exact Rat.le_trans ih (up (k + d))
  have zero : ∀ k, s ≤ k → k < t → T k (p k) (n + h) = 0 := fun k h1 h2 => by
    have a := upN (k - s) s
    rw [show s + (k - s) = k by omega] at a
    have z := upN (t - (k + 1)) (k + 1)
    rw [show k + 1 + (t - (k + 1)) = t by omega] at z
    have e : c (k + 1) (n + h) = c k (n + h) := by
      have := up k
      grind
    rw [(P k).ec _ (Nat.le_refl _)] at e
    have hn := (P k).neg
    have hp := (P k).pv
    have e2 : c k (q k) * (T k (p k) (n + h) / T k (p k) (q k)) = 0 := by grind
    rcases Rat.mul_eq_zero.mp e2 with e3 | e3
    · grind
    · rw [Rat.div_def] at e3
      rcases Rat.mul_eq_zero.mp e3 with e4 | e4
      · exact e4
      · have := Rat.inv_pos.mpr hp
        grind
  have stay1 : ∀ k, s ≤ k → k < t → ∀ i, i < h → T (k + 1) i (n + h) = T k i (n + h) := fun k h1 h2 i hi => by
    rw [(P k).eT i hi _ (Nat.le_refl _), zero k h1 h2, Rat.div_def, Rat.zero_mul]
    split
    · rename_i e
      rw [e, zero k h1 h2]
    · grind
  have stay0 : ∀ d, s + d ≤ t → ∀ i, i < h → T (s + d) i (n + h) = T s i (n + h) := fun d => by
    induction d with
    | zero => intro _ i _; rfl
    | succ d ih =>
      intro hd i hi
      have := stay1 (s + d) (by omega) (by omega) i hi
      rw [show s + (d + 1) = s + d + 1 by omega, this]
      exact ih (by omega) i hi
  have stay : ∀ k, s ≤ k → k ≤ t → ∀ i, i < h → T k i (n + h) = T s i (n + h) := fun k h1 h2 i hi => by
    have := stay0 (k - s) (by omega) i hi
    rwa [show s + (k - s) = k by omega] at this
  have big : ∃ e, s ≤ e ∧ e < t ∧ ∀ k, s ≤ k → k < t → q k ≤ q e := by
    have : ∀ d, s + d < t → ∃ e, s ≤ e ∧ e ≤ s + d ∧ ∀ k, s ≤ k → k ≤ s + d → q k ≤ q e := fun d => by
      induction d with
      | zero =>
        intro _
        refine ⟨s, by omega, by omega, fun k h1 h2 => ?_⟩
        have : k = s := by omega
        rw [this]
        exact Nat.le_refl _
      | succ d ih =>
        intro hd
        obtain ⟨e, a, b', c'⟩ := ih (by omega)
        by_cases z : q (s + (d + 1)) ≤ q e
        · refine ⟨e, a, by omega, fun k h1 h2 => ?_⟩
          by_cases y : k = s + (d + 1)
          · rw [y]; exact z
          · exact c' k h1 (by omega)
        · refine ⟨s + (d + 1), by omega, by omega, fun k h1 h2 => ?_⟩
          by_cases y : k = s + (d + 1)
          · rw [y]; exact Nat.le_refl _
          · have := c' k h1 (by omega)
            omega
    obtain ⟨e, a, b', c'⟩ := this (t - 1 - s) (by omega)
    exact ⟨e, a, by omega, fun k h1 h2 => c' k h1 (by omega)⟩
  obtain ⟨e, e1, e2, emax⟩ := big
  have he := (P e).hp
  have move : ∀ k i, i < h → b (k + 1) i ≠ b k i → p k = i ∧ b (k + 1) i = q k := fun k i hi hne => by
    have := (P k).eb i hi
    by_cases z : i = p k
    · rw [if_pos z] at this
      exact ⟨z.symm, this⟩
    · rw [if_neg z] at this
      exact absurd this hne
  have nb : ∀ k i, i < h → b k i ≠ q k := fun k i hi z => by
    have a := cost_basis (I k) hi
    rw [z] at a
    have := (P k).neg
    grind
  have out : ∃ f, s ≤ f ∧ f < t ∧ b f (p f) = q e := by
    have a1 : b (e + 1) (p e) = q e := by
      rw [(P e).eb _ he, if_pos rfl]
    obtain ⟨k, k1, k2, k3, k4⟩ := round_down (g := fun k => b k (p e)) (u := q e) (eb (p e) he) (x := e) (y := e + 1) ⟨e1, by omega⟩ ⟨by omega, by omega⟩ (nb e (p e) he) a1
    have := (move k (p e) he (fun z => k4 (z.trans k3))).1
    exact ⟨k, k1, k2, by rw [this]; exact k3⟩
  obtain ⟨f, f1, f2, f3⟩ := out
  have hf := (P f).hp
  have hqf : q f < q e := by
    have := emax f f1 f2
    have : q f ≠ q e := fun z => nb f (p f) hf (by rw [f3, z])
    omega
  have hqn := (P f).hq
  have r0 := cost_other (I f) (I e) (q := q f) (by omega)
  have r1 := (P f).neg
  have r2 := (P e).low (q f) hqf
  obtain ⟨r, hr, rp⟩ := sm_pos_ex (h := h) (f := fun i => c e (b f i) * T f i (q f)) (by grind)
  have hne : c e (b f r) ≠ 0 := fun z => by
    rw [z, Rat.zero_mul] at rp
    exact absurd rp (by decide)
  have hdiff : b e r ≠ b f r := fun z => hne (by rw [← z]; exact cost_basis (I e) hr)
  obtain ⟨k, k1, k2, k3, k4⟩ := round_up (g := fun k => b k r) (u := b f r) (eb r hr) (x := e) (y := f) ⟨e1, by omega⟩ ⟨f1, by omega⟩ hdiff rfl
  obtain ⟨k5, k6⟩ := move k r hr (fun z => k3 (z.symm.trans k4))
  have ule : b f r ≤ q e := by
    have := emax k k1 k2
    have k4' : b (k + 1) r = b f r := k4
    omega
  have une : b f r ≠ q e := fun z => by
    have e3 : r = p f := basis_inj (I f) hr hf (by rw [z, f3])
    rw [z, e3] at rp
    have a := (P e).neg
    have a2 := (P f).pv
    have := Rat.mul_pos (a := -c e (q e)) (by grind) a2
    grind
  have c1 := (P e).low (b f r) (by omega)
  have tp : 0 < T f r (q f) := by
    by_cases z : 0 < T f r (q f)
    · exact z
    · have := Rat.mul_nonneg c1 (b := -T f r (q f)) (by grind)
      grind
  have z1 : T f r (n + h) = 0 := by
    rw [stay f f1 (by omega) r hr, ← stay k k1 (by omega) r hr]
    have := zero k k1 k2
    rwa [k5] at this
  have z2 := zero f f1 f2
  have := (P f).tie r hr tp (by rw [z1, z2, Rat.zero_mul, Rat.zero_mul])
  omega
end K8
namespace K8
section
variable {h n : Nat} {A T : Nat → Nat → Rat} {c : Nat → Rat} {b : Nat → Nat}
/-- what the last tableau tells: against -/
theorem Inv.dual (I : Inv h n A T c b) : ∀ j, j ≤ n + h → c j = cj h n j - sm h fun k => (1 - c (n + k)) * A k j := by
  have e : ∀ k, k < h → 1 - c (n + k) = sm h fun i => if n ≤ b i then T i (n + k) else 0 := fun k hk => by
    rw [I.cost _ (by omega)]
    unfold cj
    rw [if_pos ⟨by omega, by omega⟩]
    grind
  intro j hj
  rw [I.cost j hj]
  congr 1
  have : (sm h fun k => (1 - c (n + k)) * A k j) = sm h fun k => sm h fun i => (if n ≤ b i then T i (n + k) else 0) * A k j := sm_congr fun k hk => by
    rw [e k hk, sm_mulr]
  rw [this, sm_swap]
  refine sm_congr fun i hi => ?_
  by_cases z : n ≤ b i
  · simp only [if_pos z]
    exact I.lin i hi j hj
  · simp only [if_neg z]
    rw [sm_zero]
    intro k _
    exact Rat.zero_mul _
theorem Inv.goalN (I : Inv h n A T c b) : c (n + h) = - sm h fun i => if n ≤ b i then T i (n + h) else 0 := by
  rw [I.cost _ (Nat.le_refl _)]
  unfold cj
  rw [if_neg (by omega)]
  grind
theorem Inv.goal_le (I : Inv h n A T c b) : c (n + h) ≤ 0 := by
  rw [I.goalN]
  have : 0 ≤ sm h fun i => if n ≤ b i then T i (n + h) else 0 := sm_nonneg fun i hi => by
    split
    · exact I.pos i hi
    · exact Rat.le_refl
  grind
theorem Inv.against (I : Inv h n A T c b) (hc : ∀ j, j < n → 0 ≤ c j) (hg : c (n + h) ≠ 0) : (∀ j, j < n → (sm h fun k => (1 - c (n + k)) * A k j) ≤ 0) ∧ 0 < sm h fun k => (1 - c (n + k)) * A k (n + h) := by
  constructor
  · intro j hj
    have := I.dual j (by omega)
    unfold cj at this
    rw [if_neg (by omega)] at this
    have := hc j hj
    grind
  · have := I.dual (n + h) (Nat.le_refl _)
    unfold cj at this
    rw [if_neg (by omega)] at this
    have := I.goal_le
    grind
/-- and for -/
theorem Inv.for_ (I : Inv h n A T c b) (hg : c (n + h) = 0) : ∀ k, k < h → (sm n fun j => A k j * sm h fun i => if b i = j then T i (n + h) else 0) = A k (n + h) := by
  intro k hk
  have z : ∀ i, i < h → n ≤ b i → T i (n + h) = 0 := fun i hi hb => by
    have e := I.goalN
    rw [hg] at e
    have := sm_zero_all (h := h) (f := fun i => if n ≤ b i then T i (n + h) else 0) (fun i hi => by
      split
      · exact I.pos i hi
      · exact Rat.le_refl) (by grind) i hi
    simpa only [if_pos hb] using this
  rw [I.rep k hk _ (Nat.le_refl _)]
  have e1 : (sm n fun j => A k j * sm h fun i => if b i = j then T i (n + h) else 0) = sm n fun j => sm h fun i => if b i = j then A k (b i) * T i (n + h) else 0 := sm_congr fun j _ => by
    rw [← sm_mul]
    refine sm_congr fun i _ => ?_
    by_cases y : b i = j
    · rw [if_pos y, if_pos y, y]
    · rw [if_neg y, if_neg y, Rat.mul_zero]
  rw [e1, sm_swap]
  refine sm_congr fun i hi => ?_
  by_cases y : b i < n
  · have := sm_single (h := n) (p := b i) (fun _ => A k (b i) * T i (n + h)) y
    refine Eq.trans (sm_congr fun j _ => ?_) this
    by_cases x : b i = j
    · rw [if_pos x, if_pos x.symm]
    · rw [if_neg x, if_neg fun y => x y.symm]
  · rw [z i hi (by omega), Rat.mul_zero]
    exact sm_zero fun j _ => by split <;> rfl
/-- there is a row to pivot on -/
theorem Inv.some_row (I : Inv h n A T c b) {q : Nat} (hq : q < n) (hn : c q < 0) : ∃ i, i < h ∧ 0 < T i q := by
  have e := I.cost q (by omega)
  unfold cj at e
  rw [if_neg (by omega)] at e
  obtain ⟨i, hi, hp⟩ := sm_pos_ex (h := h) (f := fun i => if n ≤ b i then T i q else 0) (by grind)
  refine ⟨i, hi, ?_⟩
  by_cases z : n ≤ b i
  · simpa only [if_pos z] using hp
  · simp only [if_neg z] at hp
    exact absurd hp (by decide)
end
/-! the tableau as the program has it -/
abbrev Rw := List Rat
def gt (r : Rw) (j : Nat) : Rat := r.getD j 0
def mk (m : Nat) (f : Nat → Rat) : Rw := (List.range m).map f
theorem gt_mk {m j : Nat} {f : Nat → Rat} (h : j < m) : gt (mk m f) j = f j := by
  unfold gt mk
  rw [List.getD_eq_getElem?_getD, List.getElem?_map, List.getElem?_range h]
  rfl
theorem mk_length {m : Nat} {f : Nat → Rat} : (mk m f).length = m := by simp [mk]
structure Tab where
  rows : List Rw
  costs : Rw
  basis : List Nat
def Tab.T (t : Tab) (i j : Nat) : Rat := gt (t.rows.getD i []) j
def Tab.c (t : Tab) (j : Nat) : Rat := gt t.costs j
def Tab.b (t : Tab) (i : Nat) : Nat := t.basis.getD i 0
structure Tab.Wf (h n : Nat) (t : Tab) : Prop where
  rows : t.rows.length = h
  row : ∀ r ∈ t.rows, r.length = n + h + 1
  costs : t.costs.length = n + h + 1
  basis : t.basis.length = h
def takenOff (row other : Rw) (f : Rat) : Rw := mk row.length fun j => gt row j - f * gt other j
def turnedT (t : Tab) (r q : Nat) : Tab :=
  let line := (t.rows.getD r []).map fun x => x / gt (t.rows.getD r []) q
  ⟨(List.range t.rows.length).map fun i => if i = r then line else takenOff (t.rows.getD i []) line (gt (t.rows.getD i []) q), takenOff t.costs line (gt t.costs q), t.basis.set r q⟩
def leaveStep (t : Tab) (q : Nat) (best : Option (Rat × Nat × Nat)) (i : Nat) : Option (Rat × Nat × Nat) :=
  if 0 < gt (t.rows.getD i []) q then
    let s := (t.rows.getD i []).getLastD 0 / gt (t.rows.getD i []) q
    match best with
    | none => some (s, t.basis.getD i 0, i)
    | some x => if s < x.1 ∨ (s = x.1 ∧ t.basis.getD i 0 < x.2.1) then some (s, t.basis.getD i 0, i) else some x
  else best
def leaveN (t : Tab) (q : Nat) : Nat → Option (Rat × Nat × Nat)
  | 0 => none
  | m + 1 => leaveStep t q (leaveN t q m) m
def leave (t : Tab) (q : Nat) : Option (Rat × Nat × Nat) := leaveN t q t.rows.length
def negs (n : Nat) (t : Tab) : List Nat := (List.range n).filter fun j => decide (gt t.costs j < 0)
def next (n : Nat) (t : Tab) : Tab := match negs n t with
  | [] => t
  | q :: _ => match leave t q with
    | none => t
    | some x => turnedT t x.2.2 q
theorem getLastD_gt {r : Rw} {m : Nat} (h : r.length = m + 1) : r.getLastD 0 = gt r m := by
  unfold gt
  rw [List.getLastD_eq_getLast?, List.getLast?_eq_getElem?, List.getD_eq_getElem?_getD, h]
  rfl
theorem Tab.Wf.rowlen {h n : Nat} {t : Tab} (W : t.Wf h n) {i : Nat} (hi : i < h) : (t.rows.getD i []).length = n + h + 1 := by
  have : i < t.rows.length := by rw [W.rows]; exact hi
  rw [List.getD_eq_getElem?_getD, List.getElem?_eq_getElem this]
  exact W.row _ (List.getElem_mem this)
theorem leaveN_spec {h n : Nat} {t : Tab} (W : t.Wf h n) (q : Nat) : ∀ m, m ≤ h → match leaveN t q m with
    | none => ∀ i, i < m → ¬ 0 < t.T i q
    | some x => x.2.2 < m ∧ 0 < t.T x.2.2 q ∧ x.1 = t.T x.2.2 (n + h) / t.T x.2.2 q ∧ x.2.1 = t.b x.2.2 ∧ ∀ i, i < m → 0 < t.T i q → x.1 ≤ t.T i (n + h) / t.T i q ∧ (x.1 = t.T i (n + h) / t.T i q → x.2.1 ≤ t.b i) := by
  intro m
  induction m with
  | zero =>
    intro _
    show ∀ i, i < 0 → _
    intro i hi
    omega
  | succ m ih =>
    intro hm
    have ih := ih (by omega)
    rw [leaveN]
    have eL := getLastD_gt (W.rowlen (i := m) (by omega))
    unfold leaveStep
    by_cases hp : 0 < gt (t.rows.getD m []) q
    · rw [if_pos hp]
      simp only [eL]
      cases hb : leaveN t q m with
      | none =>
        rw [hb] at ih
        simp only
        refine ⟨by omega, hp, rfl, rfl, fun i hi hip => ?_⟩
        by_cases z : i = m
        · subst z
          exact ⟨Rat.le_refl, fun _ => Nat.le_refl _⟩
        · exact absurd hip (ih i (by omega))
      | some x =>
        rw [hb] at ih
        simp only at ih ⊢
        obtain ⟨a1, a2, a3, a4, a5⟩ := ih
        by_cases hc : gt (t.rows.getD m []) (n + h) / gt (t.rows.getD m []) q < x.1 ∨ (gt (t.rows.getD m []) (n + h) / gt (t.rows.getD m []) q = x.1 ∧ t.basis.getD m 0 < x.2.1)
        · rw [if_pos hc]
          refine ⟨Nat.lt_succ_self m, hp, rfl, rfl, fun i hi hip => ?_⟩
          by_cases z : i = m
          · subst z
            exact ⟨Rat.le_refl, fun _ => Nat.le_refl _⟩
          · obtain ⟨d1, d2⟩ := a5 i (by omega) hip
            rcases hc with hc | ⟨hc, hc'⟩
            · exact ⟨by grind, fun e => by grind⟩
            · refine ⟨by grind, fun e => ?_⟩
              have := d2 (by grind)
              show t.basis.getD m 0 ≤ _
              omega
        · rw [if_neg hc]
          refine ⟨by omega, a2, a3, a4, fun i hi hip => ?_⟩
          by_cases z : i = m
          · subst z
            have h1 : ¬ gt (t.rows.getD i []) (n + h) / gt (t.rows.getD i []) q < x.1 := fun y => hc (.inl y)
            refine ⟨?_, fun e => ?_⟩
            · show x.1 ≤ gt (t.rows.getD i []) (n + h) / gt (t.rows.getD i []) q
              grind
            · have : ¬ t.basis.getD i 0 < x.2.1 := fun y => hc (.inr ⟨e.symm, y⟩)
              show x.2.1 ≤ t.basis.getD i 0
              omega
          · exact a5 i (by omega) hip
    · rw [if_neg hp]
      cases hb : leaveN t q m with
      | none =>
        rw [hb] at ih
        simp only at ih ⊢
        intro i hi
        by_cases z : i = m
        · subst z
          exact hp
        · exact ih i (by omega)
      | some x =>
        rw [hb] at ih
        simp only at ih ⊢
        obtain ⟨a1, a2, a3, a4, a5⟩ := ih
        refine ⟨by omega, a2, a3, a4, fun i hi hip => ?_⟩
        by_cases z : i = m
        · subst z
          exact absurd hip hp
        · exact a5 i (by omega) hip
theorem turned_wf {h n : Nat} {t : Tab} (W : t.Wf h n) {r q : Nat} (hr : r < h) : (turnedT t r q).Wf h n := by
  refine ⟨?_, ?_, ?_, ?_⟩
  · simp [turnedT, W.rows]
  · intro x hx
    simp only [turnedT, List.mem_map, List.mem_range] at hx
    obtain ⟨i, hi, rfl⟩ := hx
    rw [W.rows] at hi
    split
    · rw [List.length_map, W.rowlen hr]
    · rw [takenOff, mk_length, W.rowlen hi]
  · simp [turnedT, takenOff, mk_length, W.costs]
  · simp [turnedT, W.basis]
theorem gt_map {r : Rw} {j m : Nat} {f : Rat → Rat} (hl : r.length = m) (h : j < m) : gt (r.map f) j = f (gt r j) := by
  unfold gt
  subst hl
  rw [List.getD_eq_getElem?_getD, List.getElem?_map, List.getD_eq_getElem?_getD, List.getElem?_eq_getElem h]
  rfl
theorem turned_T {h n : Nat} {t : Tab} (W : t.Wf h n) {r q : Nat} (hr : r < h) : ∀ i, i < h → ∀ j, j ≤ n + h → (turnedT t r q).T i j = if i = r then t.T r j / t.T r q else t.T i j - t.T i q * (t.T r j / t.T r q) := by
  intro i hi j hj
  show gt ((turnedT t r q).rows.getD i []) j = _
  have e : (turnedT t r q).rows.getD i [] = if i = r then (t.rows.getD r []).map (fun x => x / gt (t.rows.getD r []) q) else takenOff (t.rows.getD i []) ((t.rows.getD r []).map fun x => x / gt (t.rows.getD r []) q) (gt (t.rows.getD i []) q) := by
    simp only [turnedT]
    rw [List.getD_eq_getElem?_getD, List.getElem?_map, List.getElem?_range (by rw [W.rows]; exact hi)]
    rfl
  rw [e]
  split
  · rw [gt_map (W.rowlen hr) (by omega)]
    rfl
  · unfold takenOff
    rw [gt_mk (by rw [W.rowlen hi]; omega), gt_map (W.rowlen hr) (by omega)]
    rfl
theorem turned_c {h n : Nat} {t : Tab} (W : t.Wf h n) {r q : Nat} (hr : r < h) : ∀ j, j ≤ n + h → (turnedT t r q).c j = t.c j - t.c q * (t.T r j / t.T r q) := by
  intro j hj
  show gt (takenOff t.costs ((t.rows.getD r []).map fun x => x / gt (t.rows.getD r []) q) (gt t.costs q)) j = _
  unfold takenOff
  rw [gt_mk (by rw [W.costs]; omega), gt_map (W.rowlen hr) (by omega)]
  rfl
theorem turned_b {h n : Nat} {t : Tab} (W : t.Wf h n) {r q : Nat} : ∀ i, i < h → (turnedT t r q).b i = if i = r then q else t.b i := by
  intro i hi
  show (t.basis.set r q).getD i 0 = if i = r then q else t.basis.getD i 0
  rw [List.getD_eq_getElem?_getD, List.getElem?_set, List.getD_eq_getElem?_getD]
  by_cases z : i = r
  · subst z
    rw [if_pos rfl, if_pos (by rw [W.basis]; exact hi), if_pos rfl]
    rfl
  · rw [if_neg (fun y => z y.symm), if_neg z]
/-- a turn is a pivot by Bland's rule -/
theorem next_piv {h n : Nat} {A : Nat → Nat → Rat} {t : Tab} (W : t.Wf h n) (I : Inv h n A t.T t.c t.b) (hx : negs n t ≠ []) :
    ∃ p q tl x, negs n t = q :: tl ∧ leave t q = some x ∧ x.2.2 = p ∧ next n t = turnedT t p q ∧ p < h ∧ q < n ∧ 0 < t.T p q ∧ Piv h n t.T t.c t.b p q (next n t).T (next n t).c (next n t).b ∧ (next n t).Wf h n := by
  obtain ⟨q, tl, e⟩ : ∃ q tl, negs n t = q :: tl := by
    cases hn : negs n t with
    | nil => exact absurd hn hx
    | cons q tl => exact ⟨q, tl, rfl⟩
  have hmem : q ∈ negs n t := by rw [e]; simp
  have hq : q < n ∧ t.c q < 0 := by
    unfold negs at hmem
    simp at hmem
    exact hmem
  have hlow : ∀ j, j < q → 0 ≤ t.c j := fun j hj => by
    by_cases z : t.c j < 0
    · have hm : j ∈ negs n t := by
        unfold negs
        simp only [List.mem_filter, List.mem_range, decide_eq_true_eq]
        exact ⟨by omega, z⟩
      have pw : (negs n t).Pairwise (· < ·) := by
        unfold negs
        exact List.Pairwise.filter _ List.pairwise_lt_range
      rw [e] at pw hm
      rcases List.mem_cons.mp hm with y | y
      · omega
      · have := (List.pairwise_cons.mp pw).1 j y
        omega
    · grind
  obtain ⟨i0, hi0, hp0⟩ := I.some_row hq.1 hq.2
  have sp := leaveN_spec W q h (Nat.le_refl _)
  have el : leave t q = leaveN t q h := by unfold leave; rw [W.rows]
  cases hl : leaveN t q h with
  | none =>
    rw [hl] at sp
    exact absurd hp0 (sp i0 hi0)
  | some x =>
    rw [hl] at sp
    simp only at sp
    obtain ⟨a1, a2, a3, a4, a5⟩ := sp
    have en : next n t = turnedT t x.2.2 q := by
      unfold next
      rw [e]
      simp only [el, hl]
    refine ⟨x.2.2, q, tl, x, e, by rw [el, hl], rfl, en, a1, hq.1, a2, ?_, ?_⟩
    · rw [en]
      have inv := Rat.inv_pos.mpr a2
      refine ⟨a1, hq.1, a2, hq.2, hlow, fun i hi hp => ?_, fun i hi hp he => ?_, turned_T W a1, turned_c W a1, turned_b W⟩
      · have := (a5 i hi hp).1
        rw [a3, Rat.div_def, Rat.div_def] at this
        have i2 := Rat.inv_pos.mpr hp
        have k1 : t.T x.2.2 q * (t.T x.2.2 q)⁻¹ = 1 := Rat.mul_inv_cancel _ (by grind)
        have k2 : t.T i q * (t.T i q)⁻¹ = 1 := Rat.mul_inv_cancel _ (by grind)
        have := Rat.mul_nonneg (a := t.T i (n + h) * (t.T i q)⁻¹ - t.T x.2.2 (n + h) * (t.T x.2.2 q)⁻¹) (by grind) (Rat.le_of_lt (Rat.mul_pos a2 hp))
        have e3 : (t.T i (n + h) * (t.T i q)⁻¹ - t.T x.2.2 (n + h) * (t.T x.2.2 q)⁻¹) * (t.T x.2.2 q * t.T i q) = t.T i (n + h) * t.T x.2.2 q - t.T x.2.2 (n + h) * t.T i q := by grind
        rw [e3] at this
        grind
      · have := (a5 i hi hp).2
        rw [a3] at this
        rw [← a4]
        refine this ?_
        have k1 : t.T x.2.2 q * (t.T x.2.2 q)⁻¹ = 1 := Rat.mul_inv_cancel _ (by grind)
        have k2 : t.T i q * (t.T i q)⁻¹ = 1 := Rat.mul_inv_cancel _ (by grind)
        rw [Rat.div_def, Rat.div_def]
        grind
    · rw [en]
      exact turned_wf W a1
def runT (n : Nat) (t : Tab) : Nat → Tab
  | 0 => t
  | k + 1 => next n (runT n t k)
theorem run_ends {h n : Nat} {A : Nat → Nat → Rat} {t : Tab} (W : t.Wf h n) (I : Inv h n A t.T t.c t.b) :
    (∀ k, (∀ l, l < k → negs n (runT n t l) ≠ []) → (runT n t k).Wf h n ∧ Inv h n A (runT n t k).T (runT n t k).c (runT n t k).b) ∧ ∃ K, negs n (runT n t K) = [] ∧ ∀ l, l < K → negs n (runT n t l) ≠ [] := by
  have key : ∀ k, (∀ l, l < k → negs n (runT n t l) ≠ []) → (runT n t k).Wf h n ∧ Inv h n A (runT n t k).T (runT n t k).c (runT n t k).b := by
    intro k
    induction k with
    | zero => intro _; exact ⟨W, I⟩
    | succ k ih =>
      intro hl
      obtain ⟨W', I'⟩ := ih fun l h' => hl l (by omega)
      obtain ⟨p, q, _, _, _, _, _, _, _, _, _, P, W2⟩ := next_piv W' I' (hl k (by omega))
      exact ⟨W2, I'.step P⟩
  refine ⟨key, ?_⟩
  have ex : ∃ K, negs n (runT n t K) = [] := Classical.byContradiction fun hc => by
    have hn : ∀ k, negs n (runT n t k) ≠ [] := fun k z => hc ⟨k, z⟩
    have all : ∀ k, ∃ p q, Piv h n (runT n t k).T (runT n t k).c (runT n t k).b p q (runT n t (k + 1)).T (runT n t (k + 1)).c (runT n t (k + 1)).b := fun k => by
      obtain ⟨W', I'⟩ := key k fun l _ => hn l
      obtain ⟨p, q, _, _, _, _, _, _, _, _, _, P, _⟩ := next_piv W' I' (hn k)
      exact ⟨p, q, P⟩
    exact bland (fun k => (runT n t k).T) (fun k => (runT n t k).c) (fun k => (runT n t k).b) (fun k => (all k).choose) (fun k => (all k).choose_spec.choose) I fun k => (all k).choose_spec.choose_spec
  obtain ⟨K, hK⟩ := ex
  induction K using Nat.strongRecOn with
  | _ K ih =>
    by_cases z : ∃ l, l < K ∧ negs n (runT n t l) = []
    · obtain ⟨l, hl, e⟩ := z
      exact ih l hl e
    · exact ⟨K, hK, fun l hl e => z ⟨l, hl, e⟩⟩
end K8
namespace K8
section
variable {h n : Nat} {A T : Nat → Nat → Rat} {c : Nat → Rat} {b : Nat → Nat}
theorem Inv.mb (I : Inv h n A T c b) {i i' : Nat} (hi : i < h) (hi' : i' < h) : (sm h fun k => T i (n + k) * A k (b i')) = if i = i' then 1 else 0 := by
  rw [← I.unit i hi i' hi', ← I.lin i hi (b i') (by have := I.bN i' hi'; omega)]
theorem natAbs_sub_le (x y : Int) : (x - y).natAbs ≤ x.natAbs + y.natAbs := by omega
theorem nmul {x y : Int} {a c : Nat} (h1 : x.natAbs ≤ a) (h2 : y.natAbs ≤ c) : (x * y).natAbs ≤ a * c := by
  rw [Int.natAbs_mul]
  exact Nat.mul_le_mul h1 h2
theorem cram2 {β : Nat → Nat → Int} {M : Nat → Nat → Rat} (hb : ∀ k, k < 2 → ∀ i, i < 2 → (β k i).natAbs ≤ 3) (e : ∀ i, i < 2 → ∀ i', i' < 2 → (sm 2 fun k => M i k * (β k i' : Rat)) = if i = i' then 1 else 0) :
    ∃ det : Int, det ≠ 0 ∧ det.natAbs ≤ 162 ∧ ∀ i, i < 2 → ∃ ad : Nat → Int, (∀ k, k < 2 → (ad k).natAbs ≤ 18) ∧ ∀ k, k < 2 → M i k * (det : Rat) = (ad k : Rat) := by
  have e' : ∀ i, i < 2 → ∀ i', i' < 2 → M i 0 * (β 0 i' : Rat) + M i 1 * (β 1 i' : Rat) = if i = i' then 1 else 0 := fun i hi i' hi' => by
    rw [← e i hi i' hi']
    simp only [sm]
    grind
  have e00 := e' 0 (by decide) 0 (by decide)
  have e01 := e' 0 (by decide) 1 (by decide)
  have e10 := e' 1 (by decide) 0 (by decide)
  have e11 := e' 1 (by decide) 1 (by decide)
  simp only [if_true] at e00 e11
  rw [if_neg (by decide)] at e01 e10
  refine ⟨β 0 0 * β 1 1 - β 0 1 * β 1 0, ?_, ?_, ?_⟩
  · intro z
    have z' : ((β 0 0 : Rat) * (β 1 1 : Rat) - (β 0 1 : Rat) * (β 1 0 : Rat)) = 0 := by
      have := congrArg (fun x : Int => (x : Rat)) z
      push_cast at this
      exact this
    have : (M 0 0 * M 1 1 - M 0 1 * M 1 0) * ((β 0 0 : Rat) * (β 1 1 : Rat) - (β 0 1 : Rat) * (β 1 0 : Rat)) = (M 0 0 * (β 0 0 : Rat) + M 0 1 * (β 1 0 : Rat)) * (M 1 0 * (β 0 1 : Rat) + M 1 1 * (β 1 1 : Rat)) - (M 0 0 * (β 0 1 : Rat) + M 0 1 * (β 1 1 : Rat)) * (M 1 0 * (β 0 0 : Rat) + M 1 1 * (β 1 0 : Rat)) := by grind
    rw [z', e00, e01, e10, e11] at this
    grind
  · have a1 := nmul (hb 0 (by decide) 0 (by decide)) (hb 1 (by decide) 1 (by decide))
    have a2 := nmul (hb 0 (by decide) 1 (by decide)) (hb 1 (by decide) 0 (by decide))
    omega
  · intro i hi
    have h0 := e' i hi 0 (by decide)
    have h1 := e' i hi 1 (by decide)
    have b00 := hb 0 (by decide) 0 (by decide)
    have b01 := hb 0 (by decide) 1 (by decide)
    have b10 := hb 1 (by decide) 0 (by decide)
    have b11 := hb 1 (by decide) 1 (by decide)
    have hi2 : i = 0 ∨ i = 1 := by omega
    rcases hi2 with rfl | rfl
    · refine ⟨fun k => if k = 0 then β 1 1 else - β 0 1, fun k hk => by dsimp only; split <;> omega, fun k hk => ?_⟩
      have hk2 : k = 0 ∨ k = 1 := by omega
      rcases hk2 with rfl | rfl
      · simp only [if_true]
        push_cast
        grind
      · simp
        simp at h0 h1
        grind
    · refine ⟨fun k => if k = 0 then - β 1 0 else β 0 0, fun k hk => by dsimp only; split <;> omega, fun k hk => ?_⟩
      have hk2 : k = 0 ∨ k = 1 := by omega
      rcases hk2 with rfl | rfl
      · simp only [if_true]
        push_cast
        grind
      · simp
        simp at h0 h1
        grind
theorem det3 (m00 m01 m02 m10 m11 m12 m20 m21 m22 b00 b01 b02 b10 b11 b12 b20 b21 b22 : Rat)
    (h00 : m00 * b00 + m01 * b10 + m02 * b20 = 1) (h01 : m00 * b01 + m01 * b11 + m02 * b21 = 0)
    (h10 : m10 * b00 + m11 * b10 + m12 * b20 = 0) (h11 : m10 * b01 + m11 * b11 + m12 * b21 = 1) 
    (z0 : b00 * b11 - b01 * b10 = 0) (z1 : b00 * b21 - b01 * b20 = 0) (z2 : b10 * b21 - b11 * b20 = 0) : False := by
  have : (m00 * b00 + m01 * b10 + m02 * b20) * (m10 * b01 + m11 * b11 + m12 * b21) - (m00 * b01 + m01 * b11 + m02 * b21) * (m10 * b00 + m11 * b10 + m12 * b20) = (m00 * m11 - m01 * m10) * (b00 * b11 - b01 * b10) + (m00 * m12 - m02 * m10) * (b00 * b21 - b01 * b20) + (m01 * m12 - m02 * m11) * (b10 * b21 - b11 * b20) := by grind
  rw [h00, h01, h10, h11, z0, z1, z2] at this
  grind
theorem row3 (x0 x1 x2 e0 e1 e2 b00 b01 b02 b10 b11 b12 b20 b21 b22 : Rat) (h0 : x0 * b00 + x1 * b10 + x2 * b20 = e0) (h1 : x0 * b01 + x1 * b11 + x2 * b21 = e1) (h2 : x0 * b02 + x1 * b12 + x2 * b22 = e2) :
    x0 * (b00 * (b11 * b22 - b12 * b21) - b01 * (b10 * b22 - b12 * b20) + b02 * (b10 * b21 - b11 * b20)) = e0 * (b11 * b22 - b12 * b21) - e1 * (b10 * b22 - b12 * b20) + e2 * (b10 * b21 - b11 * b20) ∧
    x1 * (b00 * (b11 * b22 - b12 * b21) - b01 * (b10 * b22 - b12 * b20) + b02 * (b10 * b21 - b11 * b20)) = e1 * (b00 * b22 - b02 * b20) - e0 * (b01 * b22 - b02 * b21) - e2 * (b00 * b21 - b01 * b20) ∧
    x2 * (b00 * (b11 * b22 - b12 * b21) - b01 * (b10 * b22 - b12 * b20) + b02 * (b10 * b21 - b11 * b20)) = e0 * (b01 * b12 - b02 * b11) - e1 * (b00 * b12 - b02 * b10) + e2 * (b00 * b11 - b01 * b10) := by
  subst h0 h1 h2
  refine ⟨by grind, by grind, by grind⟩
theorem sub3 {x y : Int} {a b : Nat} (h1 : x.natAbs ≤ a) (h2 : y.natAbs ≤ b) : (x - y).natAbs ≤ a + b := by omega
theorem cram3 {β : Nat → Nat → Int} {M : Nat → Nat → Rat} (hb : ∀ k, k < 3 → ∀ i, i < 3 → (β k i).natAbs ≤ 3) (e : ∀ i, i < 3 → ∀ i', i' < 3 → (sm 3 fun k => M i k * (β k i' : Rat)) = if i = i' then 1 else 0) :
    ∃ det : Int, det ≠ 0 ∧ det.natAbs ≤ 162 ∧ ∀ i, i < 3 → ∃ ad : Nat → Int, (∀ k, k < 3 → (ad k).natAbs ≤ 18) ∧ ∀ k, k < 3 → M i k * (det : Rat) = (ad k : Rat) := by
  have e' : ∀ i, i < 3 → ∀ i', i' < 3 → M i 0 * (β 0 i' : Rat) + M i 1 * (β 1 i' : Rat) + M i 2 * (β 2 i' : Rat) = if i = i' then 1 else 0 := fun i hi i' hi' => by
    rw [← e i hi i' hi']
    simp only [sm]
    grind
  have b' : ∀ k, k < 3 → ∀ i, i < 3 → ∀ k', k' < 3 → ∀ i', i' < 3 → ∀ l, l < 3 → ∀ j, j < 3 → ∀ l', l' < 3 → ∀ j', j' < 3 → (β k i * β k' i' - β l j * β l' j').natAbs ≤ 18 := fun k hk i hi k' hk' i' hi' l hl j hj l' hl' j' hj' =>
    sub3 (nmul (hb k hk i hi) (hb k' hk' i' hi')) (nmul (hb l hl j hj) (hb l' hl' j' hj'))
  have c00 := b' 1 (by decide) 1 (by decide) 2 (by decide) 2 (by decide) 1 (by decide) 2 (by decide) 2 (by decide) 1 (by decide)
  have c01 := b' 1 (by decide) 0 (by decide) 2 (by decide) 2 (by decide) 1 (by decide) 2 (by decide) 2 (by decide) 0 (by decide)
  have c02 := b' 1 (by decide) 0 (by decide) 2 (by decide) 1 (by decide) 1 (by decide) 1 (by decide) 2 (by decide) 0 (by decide)
  have c10 := b' 0 (by decide) 1 (by decide) 2 (by decide) 2 (by decide) 0 (by decide) 2 (by decide) 2 (by decide) 1 (by decide)
  have c11 := b' 0 (by decide) 0 (by decide) 2 (by decide) 2 (by decide) 0 (by decide) 2 (by decide) 2 (by decide) 0 (by decide)
  have c12 := b' 0 (by decide) 0 (by decide) 2 (by decide) 1 (by decide) 0 (by decide) 1 (by decide) 2 (by decide) 0 (by decide)
  have c20 := b' 0 (by decide) 1 (by decide) 1 (by decide) 2 (by decide) 0 (by decide) 2 (by decide) 1 (by decide) 1 (by decide)
  have c21 := b' 0 (by decide) 0 (by decide) 1 (by decide) 2 (by decide) 0 (by decide) 2 (by decide) 1 (by decide) 0 (by decide)
  have c22 := b' 0 (by decide) 0 (by decide) 1 (by decide) 1 (by decide) 0 (by decide) 1 (by decide) 1 (by decide) 0 (by decide)
  have rows : ∀ i (hi : i < 3), _ := fun i hi => row3 (M i 0) (M i 1) (M i 2) _ _ _ (β 0 0 : Rat) (β 0 1 : Rat) (β 0 2 : Rat) (β 1 0 : Rat) (β 1 1 : Rat) (β 1 2 : Rat) (β 2 0 : Rat) (β 2 1 : Rat) (β 2 2 : Rat) (e' i hi 0 (by decide)) (e' i hi 1 (by decide)) (e' i hi 2 (by decide))
  refine ⟨β 0 0 * (β 1 1 * β 2 2 - β 1 2 * β 2 1) - β 0 1 * (β 1 0 * β 2 2 - β 1 2 * β 2 0) + β 0 2 * (β 1 0 * β 2 1 - β 1 1 * β 2 0), ?_, ?_, ?_⟩
  · intro z
    have z' : ((β 0 0 : Rat) * ((β 1 1 : Rat) * (β 2 2 : Rat) - (β 1 2 : Rat) * (β 2 1 : Rat)) - (β 0 1 : Rat) * ((β 1 0 : Rat) * (β 2 2 : Rat) - (β 1 2 : Rat) * (β 2 0 : Rat)) + (β 0 2 : Rat) * ((β 1 0 : Rat) * (β 2 1 : Rat) - (β 1 1 : Rat) * (β 2 0 : Rat))) = 0 := by
      have := congrArg (fun x : Int => (x : Rat)) z
      push_cast at this
      exact this
    obtain ⟨x0, x1, x2⟩ := rows 2 (by decide)
    rw [z', if_neg (by decide), if_neg (by decide), if_pos rfl] at x0 x1 x2
    have e00 := e' 0 (by decide) 0 (by decide)
    have e01 := e' 0 (by decide) 1 (by decide)
    have e10 := e' 1 (by decide) 0 (by decide)
    have e11 := e' 1 (by decide) 1 (by decide)
    simp only [if_true] at e00 e11
    rw [if_neg (by decide)] at e01 e10
    exact det3 (M 0 0) (M 0 1) (M 0 2) (M 1 0) (M 1 1) (M 1 2) 0 0 0 (β 0 0 : Rat) (β 0 1 : Rat) 0 (β 1 0 : Rat) (β 1 1 : Rat) 0 (β 2 0 : Rat) (β 2 1 : Rat) 0 e00 e01 e10 e11 (by grind) (by grind) (by grind)
  · have a1 := nmul (hb 0 (by decide) 0 (by decide)) c00
    have a2 := nmul (hb 0 (by decide) 1 (by decide)) c01
    have a3 := nmul (hb 0 (by decide) 2 (by decide)) c02
    omega
  · intro i hi
    obtain ⟨x0, x1, x2⟩ := rows i hi
    have three : ∀ k : Nat, k < 3 → k = 0 ∨ k = 1 ∨ k = 2 := by omega
    rcases three i hi with rfl | rfl | rfl
    · refine ⟨fun k => if k = 0 then (β 1 1 * β 2 2 - β 1 2 * β 2 1) else if k = 1 then - (β 0 1 * β 2 2 - β 0 2 * β 2 1) else (β 0 1 * β 1 2 - β 0 2 * β 1 1), fun k hk => ?_, fun k hk => ?_⟩
      · rcases three k hk with rfl | rfl | rfl <;> simp <;> omega
      · rw [if_pos rfl, if_neg (by decide), if_neg (by decide)] at x0 x1 x2
        rcases three k hk with rfl | rfl | rfl <;> simp <;> grind
    · refine ⟨fun k => if k = 0 then - (β 1 0 * β 2 2 - β 1 2 * β 2 0) else if k = 1 then (β 0 0 * β 2 2 - β 0 2 * β 2 0) else - (β 0 0 * β 1 2 - β 0 2 * β 1 0), fun k hk => ?_, fun k hk => ?_⟩
      · rcases three k hk with rfl | rfl | rfl <;> simp <;> omega
      · simp at x0 x1 x2
        rcases three k hk with rfl | rfl | rfl <;> simp <;> grind
    · refine ⟨fun k => if k = 0 then (β 1 0 * β 2 1 - β 1 1 * β 2 0) else if k = 1 then - (β 0 0 * β 2 1 - β 0 1 * β 2 0) else (β 0 0 * β 1 1 - β 0 1 * β 1 0), fun k hk => ?_, fun k hk => ?_⟩
      · rcases three k hk with rfl | rfl | rfl <;> simp <;> omega
      · simp at x0 x1 x2
        rcases three k hk with rfl | rfl | rfl <;> simp <;> grind
/-- how great a tableau's numbers are -/
theorem Inv.sizes (I : Inv h n A T c b) (hh : h = 2 ∨ h = 3) {a : Nat → Nat → Int} (ha : ∀ k, k < h → ∀ j, j ≤ n + h → A k j = (a k j : Rat) ∧ (a k j).natAbs ≤ 3) :
    (∀ i, i < h → ∀ j, j ≤ n + h → Sz 10 (T i j)) ∧ ∀ j, j ≤ n + h → Sz 10 (c j) := by
  have mbe : ∀ i, i < h → ∀ i', i' < h → (sm h fun k => T i (n + k) * (a k (b i') : Rat)) = if i = i' then 1 else 0 := fun i hi i' hi' => by
    rw [← I.mb hi hi']
    exact sm_congr fun k hk => by rw [(ha k hk _ (by have := I.bN i' hi'; omega)).1]
  have hb : ∀ k, k < h → ∀ i, i < h → (a k (b i)).natAbs ≤ 3 := fun k hk i hi => (ha k hk _ (by have := I.bN i hi; omega)).2
  obtain ⟨det, d0, d1, ad⟩ : ∃ det : Int, det ≠ 0 ∧ det.natAbs ≤ 162 ∧ ∀ i, i < h → ∃ ad : Nat → Int, (∀ k, k < h → (ad k).natAbs ≤ 18) ∧ ∀ k, k < h → T i (n + k) * (det : Rat) = (ad k : Rat) := by
    rcases hh with rfl | rfl
    · exact cram2 (β := fun k i => a k (b i)) (M := fun i k => T i (n + k)) hb mbe
    · exact cram3 (β := fun k i => a k (b i)) (M := fun i k => T i (n + k)) hb mbe
  have main : ∀ i, i < h → ∀ j, j ≤ n + h → ∃ z : Int, z.natAbs ≤ 162 ∧ T i j * (det : Rat) = (z : Rat) := fun i hi j hj => by
    obtain ⟨u, u1, u2⟩ := ad i hi
    have key : ∀ m, m ≤ h → ∃ z : Int, z.natAbs ≤ 54 * m ∧ (sm m fun k => T i (n + k) * A k j) * (det : Rat) = (z : Rat) := fun m => by
      induction m with
      | zero => exact fun _ => ⟨0, by simp, by simp only [sm]; rw [Rat.zero_mul]; rfl⟩
      | succ m ih =>
        intro hm
        obtain ⟨z, z1, z2⟩ := ih (by omega)
        obtain ⟨a1, a2⟩ := ha m (by omega) j hj
        have u1' := u1 m (by omega)
        have u2' := u2 m (by omega)
        refine ⟨z + u m * a m j, ?_, ?_⟩
        · have := nmul u1' a2
          omega
        · rw [sm, a1]
          push_cast
          rw [← u2', ← z2]
          grind
    obtain ⟨z, z1, z2⟩ := key h (Nat.le_refl _)
    refine ⟨z, ?_, ?_⟩
    · omega
    · rw [I.lin i hi j hj, z2]
  have toSz : ∀ (x : Rat) (z : Int), x * (det : Rat) = (z : Rat) → z.natAbs ≤ 648 → Sz 10 x := fun x z e hz => by
    by_cases dp : 0 < det
    · refine sz_of (d := det.natAbs) (z := z) (by omega) ?_ (by omega) (by omega)
      rw [← e]
      congr 2
      omega
    · refine sz_of (d := det.natAbs) (z := -z) (by omega) ?_ (by omega) (by omega)
      have : ((det.natAbs : Int) : Rat) = -(det : Rat) := by
        rw [show (det.natAbs : Int) = -det by omega]
        push_cast
        rfl
      rw [this]
      push_cast
      rw [← e]
      grind
  refine ⟨fun i hi j hj => ?_, fun j hj => ?_⟩
  · obtain ⟨z, z1, z2⟩ := main i hi j hj
    exact toSz _ z z2 (by omega)
  · have key : ∀ m, m ≤ h → ∃ z : Int, z.natAbs ≤ 162 * m ∧ (sm m fun i => if n ≤ b i then T i j else 0) * (det : Rat) = (z : Rat) := fun m => by
      induction m with
      | zero => exact fun _ => ⟨0, by simp, by simp only [sm]; rw [Rat.zero_mul]; rfl⟩
      | succ m ih =>
        intro hm
        obtain ⟨z, z1, z2⟩ := ih (by omega)
        obtain ⟨y, y1, y2⟩ := main m (by omega) j hj
        by_cases w : n ≤ b m
        · refine ⟨z + y, by omega, ?_⟩
          rw [sm, if_pos w, Rat.add_mul, z2, y2]
          push_cast
          rfl
        · refine ⟨z, by omega, ?_⟩
          rw [sm, if_neg w, ← z2]
          grind
    obtain ⟨z, z1, z2⟩ := key h (Nat.le_refl _)
    rw [I.cost j hj]
    unfold cj
    split
    · refine toSz _ (det - z) ?_ (by omega)
      push_cast
      rw [← z2]
      grind
    · refine toSz _ (- z) ?_ (by omega)
      push_cast
      rw [← z2]
      grind
end
end K8
namespace K8
def sgn (z : Int) : Int := if z < 0 then -1 else 1
def row0 (cols : List (List Int)) (goal : List Int) (i : Nat) : Rw :=
  (cols.map fun c => ((sgn (goal.getD i 0) * c.getD i 0 : Int) : Rat)) ++ mk goal.length (fun k => if k = i then 1 else 0) ++ [((sgn (goal.getD i 0) * goal.getD i 0 : Int) : Rat)]
def a0 (cols : List (List Int)) (goal : List Int) (k j : Nat) : Int :=
  if j < cols.length then sgn (goal.getD k 0) * (cols.getD j []).getD k 0 else if j < cols.length + goal.length then (if j - cols.length = k then 1 else 0) else sgn (goal.getD k 0) * goal.getD k 0
theorem row0_length (cols : List (List Int)) (goal : List Int) (i : Nat) : (row0 cols goal i).length = cols.length + goal.length + 1 := by
  simp only [row0, mk_length, List.length_append, List.length_map, List.length_cons, List.length_nil]
theorem gt_row0 (cols : List (List Int)) (goal : List Int) (i j : Nat) (hj : j ≤ cols.length + goal.length) : gt (row0 cols goal i) j = (a0 cols goal i j : Rat) := by
  unfold gt row0 a0
  rw [List.getD_eq_getElem?_getD]
  by_cases h1 : j < cols.length
  · rw [if_pos h1, List.append_assoc, List.getElem?_append_left (by simpa using h1), List.getElem?_map, List.getElem?_eq_getElem h1]
    simp [List.getD_eq_getElem?_getD, List.getElem?_eq_getElem h1]
  · rw [if_neg h1]
    by_cases h2 : j < cols.length + goal.length
    · rw [if_pos h2, List.append_assoc, List.getElem?_append_right (by simp; omega), List.length_map, List.getElem?_append_left (by rw [mk_length]; omega)]
      have := gt_mk (m := goal.length) (j := j - cols.length) (f := fun k => if k = i then 1 else 0) (by omega)
      unfold gt at this
      rw [List.getD_eq_getElem?_getD] at this
      rw [this]
      split <;> rfl
    · rw [if_neg h2, List.getElem?_append_right (by simp [mk_length]; omega)]
      have : j - (List.map (fun c => ((sgn (goal.getD i 0) * c.getD i 0 : Int) : Rat)) cols ++ mk goal.length fun k => if k = i then 1 else 0).length = 0 := by
        simp [mk_length]; omega
      rw [this]
      rfl
def costsN (cols : List (List Int)) (goal : List Int) : Nat → Rw
  | 0 => List.replicate (cols.length + goal.length + 1) 0
  | m + 1 => mk (costsN cols goal m).length fun j => gt (costsN cols goal m) j - gt (row0 cols goal m) j
def zeroN (cols : List (List Int)) (goal : List Int) : Nat → Rw
  | 0 => costsN cols goal goal.length
  | m + 1 => (zeroN cols goal m).set (cols.length + m) 0
def firstT (cols : List (List Int)) (goal : List Int) : Tab := ⟨(List.range goal.length).map (row0 cols goal), zeroN cols goal goal.length, (List.range goal.length).map (cols.length + ·)⟩
variable {cols : List (List Int)} {goal : List Int}
theorem costsN_length : ∀ m, (costsN cols goal m).length = cols.length + goal.length + 1
  | 0 => by simp [costsN]
  | m + 1 => by rw [costsN, mk_length]; exact costsN_length m
theorem zeroN_length : ∀ m, (zeroN cols goal m).length = cols.length + goal.length + 1
  | 0 => costsN_length _
  | m + 1 => by rw [zeroN, List.length_set]; exact zeroN_length m
theorem gt_costsN : ∀ m, ∀ j, j ≤ cols.length + goal.length → gt (costsN cols goal m) j = - sm m fun i => (a0 cols goal i j : Rat)
  | 0, j, hj => by
    unfold gt costsN sm
    rw [List.getD_eq_getElem?_getD, List.getElem?_replicate, if_pos (by omega)]
    rfl
  | m + 1, j, hj => by
    rw [costsN, gt_mk (by rw [costsN_length]; omega), gt_costsN m j hj, gt_row0 _ _ _ _ hj, sm]
    grind
theorem gt_set {r : Rw} {i j : Nat} {x : Rat} (hi : i < r.length) : gt (r.set i x) j = if j = i then x else gt r j := by
  unfold gt
  rw [List.getD_eq_getElem?_getD, List.getElem?_set, List.getD_eq_getElem?_getD]
  by_cases z : i = j
  · subst z
    rw [if_pos rfl, if_pos hi, if_pos rfl]
    rfl
  · rw [if_neg z, if_neg (fun y => z y.symm)]
theorem gt_zeroN : ∀ m, m ≤ goal.length → ∀ j, gt (zeroN cols goal m) j = if cols.length ≤ j ∧ j < cols.length + m then 0 else gt (costsN cols goal goal.length) j
  | 0, _, j => by
    rw [if_neg (by omega)]
    rfl
  | m + 1, hm, j => by
    rw [zeroN, gt_set (by rw [zeroN_length]; omega), gt_zeroN m (by omega) j]
    by_cases z : j = cols.length + m
    · rw [if_pos z, if_pos (by omega)]
    · rw [if_neg z]
      by_cases y : cols.length ≤ j ∧ j < cols.length + m
      · rw [if_pos y, if_pos (by omega)]
      · rw [if_neg y, if_neg (by omega)]
structure VC (cols : List (List Int)) (goal : List Int) : Prop where
  cl : ∀ c ∈ cols, c.length = goal.length ∧ ∀ z ∈ c, z.natAbs ≤ 3
  gl : ∀ z ∈ goal, z.natAbs ≤ 3
theorem sgn_abs (z : Int) : (sgn z).natAbs = 1 := by
  unfold sgn
  split <;> rfl
theorem sgn_mul (z : Int) : sgn z * z = z.natAbs := by
  unfold sgn
  split <;> omega
theorem sgn_sq (z : Int) : sgn z * sgn z = 1 := by
  unfold sgn
  split <;> rfl
theorem getD_le {c : List Int} (h : ∀ z ∈ c, z.natAbs ≤ 3) (k : Nat) : (c.getD k 0).natAbs ≤ 3 := by
  rw [List.getD_eq_getElem?_getD]
  by_cases z : k < c.length
  · rw [List.getElem?_eq_getElem z]
    exact h _ (List.getElem_mem z)
  · rw [List.getElem?_eq_none (by omega)]
    simp
theorem VC.a0 (V : VC cols goal) (k j : Nat) : (a0 cols goal k j).natAbs ≤ 3 := by
  unfold K8.a0
  split
  · rename_i h
    rw [Int.natAbs_mul, sgn_abs, Nat.one_mul]
    refine getD_le ?_ k
    rw [List.getD_eq_getElem?_getD, List.getElem?_eq_getElem h]
    exact (V.cl _ (List.getElem_mem h)).2
  · split
    · split <;> simp
    · rw [Int.natAbs_mul, sgn_abs, Nat.one_mul]
      exact getD_le V.gl k
theorem first_T {i j : Nat} (hi : i < goal.length) (hj : j ≤ cols.length + goal.length) : (firstT cols goal).T i j = (a0 cols goal i j : Rat) := by
  show gt (((List.range goal.length).map (row0 cols goal)).getD i []) j = _
  rw [List.getD_eq_getElem?_getD, List.getElem?_map, List.getElem?_range hi]
  exact gt_row0 _ _ _ _ hj
theorem first_b {i : Nat} (hi : i < goal.length) : (firstT cols goal).b i = cols.length + i := by
  show ((List.range goal.length).map (cols.length + ·)).getD i 0 = _
  rw [List.getD_eq_getElem?_getD, List.getElem?_map, List.getElem?_range hi]
  rfl
theorem first_wf : (firstT cols goal).Wf goal.length cols.length := by
  refine ⟨by simp [firstT], ?_, zeroN_length _, by simp [firstT]⟩
  intro r hr
  simp only [firstT, List.mem_map] at hr
  obtain ⟨i, _, rfl⟩ := hr
  exact row0_length ..
theorem a0_unit {i k : Nat} (hk : k < goal.length) : a0 cols goal i (cols.length + k) = if k = i then 1 else 0 := by
  unfold a0
  rw [if_neg (by omega), if_pos (by omega)]
  simp
theorem first_inv : Inv goal.length cols.length (fun k j => (a0 cols goal k j : Rat)) (firstT cols goal).T (firstT cols goal).c (firstT cols goal).b := by
  refine ⟨fun i hi j hj => ?_, fun k hk j hj => ?_, fun i hi i' hi' => ?_, fun i hi => ?_, fun i hi => ?_, fun j hj => ?_⟩
  · rw [first_T hi hj]
    have : (sm goal.length fun k => (firstT cols goal).T i (cols.length + k) * (a0 cols goal k j : Rat)) = sm goal.length fun k => if k = i then (a0 cols goal k j : Rat) else 0 := sm_congr fun k hk => by
      rw [first_T hi (by omega), a0_unit hk]
      by_cases z : k = i
      · rw [if_pos z, if_pos z]
        exact Rat.one_mul _
      · rw [if_neg z, if_neg z]
        exact Rat.zero_mul _
    rw [this, sm_single (fun k => (a0 cols goal k j : Rat)) hi]
  · have : (sm goal.length fun i => (a0 cols goal k ((firstT cols goal).b i) : Rat) * (firstT cols goal).T i j) = sm goal.length fun i => if i = k then (a0 cols goal i j : Rat) else 0 := sm_congr fun i hi => by
      rw [first_T hi hj, first_b hi, a0_unit hi]
      by_cases z : i = k
      · rw [if_pos z, if_pos z]
        exact Rat.one_mul _
      · rw [if_neg z, if_neg z]
        exact Rat.zero_mul _
    rw [this, sm_single (fun k => (a0 cols goal k j : Rat)) hk]
  · rw [first_b hi', first_T hi (by omega), a0_unit hi']
    by_cases z : i = i'
    · rw [if_pos z, if_pos z.symm]
      rfl
    · rw [if_neg z, if_neg fun y => z y.symm]
      rfl
  · rw [first_b hi]
    omega
  · rw [first_T hi (Nat.le_refl _)]
    unfold a0
    rw [if_neg (by omega), if_neg (by omega), sgn_mul]
    exact_mod_cast Nat.zero_le _
  · have ha : (sm goal.length fun i => if cols.length ≤ (firstT cols goal).b i then (firstT cols goal).T i j else 0) = sm goal.length fun i => (a0 cols goal i j : Rat) := sm_congr fun i hi => by
      rw [first_b hi, if_pos (by omega), first_T hi hj]
    rw [ha]
    show gt (zeroN cols goal goal.length) j = _
    rw [gt_zeroN _ (Nat.le_refl _)]
    unfold cj
    by_cases z : cols.length ≤ j ∧ j < cols.length + goal.length
    · rw [if_pos z, if_pos z]
      have : (sm goal.length fun i => (a0 cols goal i j : Rat)) = sm goal.length fun i => if i = j - cols.length then 1 else 0 := sm_congr fun i hi => by
        have e := a0_unit (cols := cols) (goal := goal) (i := i) (k := j - cols.length) (by omega)
        rw [show cols.length + (j - cols.length) = j by omega] at e
        rw [e]
        by_cases y : j - cols.length = i
        · rw [if_pos y, if_pos y.symm]
          rfl
        · rw [if_neg y, if_neg fun x => y x.symm]
          rfl
      rw [this, sm_single (fun _ => 1) (by omega)]
      grind
    · rw [if_neg z, if_neg z, gt_costsN _ _ hj]
      grind
/-- what solve gives -/
abbrev Sol := Sum (List Rat) (List Rat)
def foundN (n : Nat) (t : Tab) : Nat → List Rat
  | 0 => List.replicate n 0
  | m + 1 => if t.b m < n then (foundN n t m).set (t.b m) ((t.rows.getD m []).getLastD 0) else foundN n t m
def toldF (cols : List (List Int)) (goal : List Int) (t : Tab) : List Rat := (List.range goal.length).map fun k => (sgn (goal.getD k 0) : Rat) * (1 - gt t.costs (cols.length + k))
def FinK (cols : List (List Int)) (goal : List Int) (K : Nat) : Prop := negs cols.length (runT cols.length (firstT cols goal) K) = [] ∧ ∀ l, l < K → negs cols.length (runT cols.length (firstT cols goal) l) ≠ []
noncomputable def lastK (cols : List (List Int)) (goal : List Int) : Nat := Classical.epsilon (FinK cols goal)
noncomputable def lastT (cols : List (List Int)) (goal : List Int) : Tab := runT cols.length (firstT cols goal) (lastK cols goal)
noncomputable def solF (cols : List (List Int)) (goal : List Int) : Sol :=
  if (lastT cols goal).costs.getLastD 0 = 0 then .inl (foundN cols.length (lastT cols goal) goal.length) else .inr (toldF cols goal (lastT cols goal))
theorem lastK_fin : FinK cols goal (lastK cols goal) := by
  obtain ⟨K, h⟩ := (run_ends (first_wf (cols := cols) (goal := goal)) first_inv).2
  exact Classical.epsilon_spec (p := FinK cols goal) ⟨K, h⟩
/-- every tableau on the way -/
theorem way {k : Nat} (hk : k ≤ lastK cols goal) : (runT cols.length (firstT cols goal) k).Wf goal.length cols.length ∧ Inv goal.length cols.length (fun k j => (a0 cols goal k j : Rat)) (runT cols.length (firstT cols goal) k).T (runT cols.length (firstT cols goal) k).c (runT cols.length (firstT cols goal) k).b :=
  (run_ends first_wf first_inv).1 k fun l hl => lastK_fin.2 l (by omega)
theorem foundN_length (n : Nat) (t : Tab) : ∀ m, (foundN n t m).length = n
  | 0 => by simp [foundN]
  | m + 1 => by
    rw [foundN]
    split
    · rw [List.length_set]; exact foundN_length n t m
    · exact foundN_length n t m
theorem gt_foundN {h n : Nat} {A : Nat → Nat → Rat} {t : Tab} (W : t.Wf h n) (I : Inv h n A t.T t.c t.b) : ∀ m, m ≤ h → ∀ j, j < n → gt (foundN n t m) j = sm m fun i => if t.b i = j then t.T i (n + h) else 0
  | 0, _, j, hj => by
    unfold gt foundN sm
    rw [List.getD_eq_getElem?_getD, List.getElem?_replicate, if_pos hj]
    rfl
  | m + 1, hm, j, hj => by
    rw [foundN, sm]
    have ih := gt_foundN W I m (by omega) j hj
    by_cases z : t.b m = j
    · rw [if_pos (by omega), gt_set (by rw [foundN_length]; omega), if_pos z.symm, if_pos z, sm_zero, getLastD_gt (W.rowlen (by omega))]
      · show _ = 0 + gt (t.rows.getD m []) (n + h)
        grind
      · intro i hi
        rw [if_neg]
        intro y
        have := basis_inj I (i := i) (i' := m) (by omega) (by omega) (by omega)
        omega
    · rw [if_neg z]
      split
      · rw [gt_set (by rw [foundN_length]; omega), if_neg (fun y => z y.symm), ih]
        grind
      · rw [ih]
        grind
theorem le_eq {a b c : Rat} (h : a = b) (k : b ≤ c) : a ≤ c := h ▸ k
theorem lt_eq {a b c : Rat} (h : a < b) (k : c = b) : a < c := k ▸ h
def colAt (cols : List (List Int)) (j k : Nat) : Int := (cols.getD j []).getD k 0
theorem sol_spec (V : VC cols goal) (hh : goal.length = 2 ∨ goal.length = 3) : match solF cols goal with
    | .inl x => x.length = cols.length ∧ (∀ q ∈ x, 0 ≤ q ∧ Sz 10 q) ∧ ∀ k, k < goal.length → (sm cols.length fun j => (colAt cols j k : Rat) * gt x j) = (goal.getD k 0 : Rat)
    | .inr y => y.length = goal.length ∧ (∀ q ∈ y, Sz 12 q) ∧ (∀ j, j < cols.length → (sm goal.length fun k => gt y k * (colAt cols j k : Rat)) ≤ 0) ∧ 0 < sm goal.length fun k => gt y k * (goal.getD k 0 : Rat) := by
  obtain ⟨W, I⟩ := way (cols := cols) (goal := goal) (Nat.le_refl _)
  change (lastT cols goal).Wf _ _ at W
  change Inv _ _ _ (lastT cols goal).T (lastT cols goal).c (lastT cols goal).b at I
  have hfin := lastK_fin (cols := cols) (goal := goal)
  have S := I.sizes hh (a := a0 cols goal) fun k _ j _ => ⟨rfl, V.a0 k j⟩
  have hc : ∀ j, j < cols.length → 0 ≤ (lastT cols goal).c j := fun j hj => by
    by_cases z : (lastT cols goal).c j < 0
    · have : j ∈ negs cols.length (lastT cols goal) := by
        unfold negs
        simp only [List.mem_filter, List.mem_range, decide_eq_true_eq]
        exact ⟨hj, z⟩
      unfold lastT at this
      rw [hfin.1] at this
      cases this
    · grind
  have eg : (lastT cols goal).costs.getLastD 0 = (lastT cols goal).c (cols.length + goal.length) := getLastD_gt W.costs
  have ss : ∀ k, ((sgn (goal.getD k 0) : Int) : Rat) * ((sgn (goal.getD k 0) : Int) : Rat) = 1 := fun k => by
    exact_mod_cast congrArg (fun z : Int => (z : Rat)) (sgn_sq (goal.getD k 0))
  have A1 : ∀ k j, j < cols.length → (a0 cols goal k j : Rat) = (sgn (goal.getD k 0) : Rat) * (colAt cols j k : Rat) := fun k j hj => by
    unfold a0 colAt
    rw [if_pos hj]
    push_cast
    rfl
  have A2 : ∀ k, (a0 cols goal k (cols.length + goal.length) : Rat) = (sgn (goal.getD k 0) : Rat) * (goal.getD k 0 : Rat) := fun k => by
    unfold a0
    rw [if_neg (by omega), if_neg (by omega)]
    push_cast
    rfl
  unfold solF
  by_cases hz : (lastT cols goal).costs.getLastD 0 = 0
  · rw [if_pos hz]
    rw [eg] at hz
    have F := I.for_ hz
    have gx := gt_foundN W I goal.length (Nat.le_refl _)
    refine ⟨foundN_length .., ?_, fun k hk => ?_⟩
    · have all : ∀ m, m ≤ goal.length → ∀ q ∈ foundN cols.length (lastT cols goal) m, 0 ≤ q ∧ Sz 10 q := fun m => by
        induction m with
        | zero =>
          intro _ q hq
          rw [foundN] at hq
          rw [List.eq_of_mem_replicate hq]
          exact ⟨Rat.le_refl, by unfold Sz; decide⟩
        | succ m ih =>
          intro hm q hq
          rw [foundN] at hq
          split at hq
          · rcases List.mem_or_eq_of_mem_set hq with h1 | h1
            · exact ih (by omega) q h1
            · rw [h1, getLastD_gt (W.rowlen (by omega))]
              exact ⟨I.pos m (by omega), S.1 m (by omega) _ (Nat.le_refl _)⟩
          · exact ih (by omega) q hq
      exact all _ (Nat.le_refl _)
    · have f := F k hk
      have e1 : (sm cols.length fun j => (a0 cols goal k j : Rat) * sm goal.length fun i => if (lastT cols goal).b i = j then (lastT cols goal).T i (cols.length + goal.length) else 0) = (sgn (goal.getD k 0) : Rat) * sm cols.length fun j => (colAt cols j k : Rat) * gt (foundN cols.length (lastT cols goal) goal.length) j := by
        rw [← sm_mul]
        refine sm_congr fun j hj => ?_
        rw [gx j hj, A1 k j hj, Rat.mul_assoc]
      rw [e1, A2 k] at f
      have s := ss k
      have := congrArg (fun r => (sgn (goal.getD k 0) : Rat) * r) f
      simp only [← Rat.mul_assoc, s, Rat.one_mul] at this
      exact this
  · rw [if_neg hz]
    rw [eg] at hz
    obtain ⟨g1, g2⟩ := I.against hc hz
    have gy : ∀ k, k < goal.length → gt (toldF cols goal (lastT cols goal)) k = (sgn (goal.getD k 0) : Rat) * (1 - (lastT cols goal).c (cols.length + k)) := fun k hk => gt_mk hk
    refine ⟨by simp [toldF], ?_, fun j hj => ?_, ?_⟩
    · intro q hq
      unfold toldF at hq
      obtain ⟨k, hk, rfl⟩ := List.mem_map.mp hq
      have hk := List.mem_range.mp hk
      have s1 := S.2 (cols.length + k) (by omega)
      have s2 : Sz 1 (1 : Rat) := by unfold Sz; decide
      have s3 := s2.sub s1
      show Sz 12 ((sgn (goal.getD k 0) : Rat) * (1 - (lastT cols goal).c (cols.length + k)))
      unfold sgn
      split
      · have : (((-1 : Int)) : Rat) * (1 - (lastT cols goal).c (cols.length + k)) = -(1 - (lastT cols goal).c (cols.length + k)) := by
          push_cast
          grind
        rw [this]
        exact s3.neg
      · have : (((1 : Int)) : Rat) * (1 - (lastT cols goal).c (cols.length + k)) = (1 - (lastT cols goal).c (cols.length + k)) := by
          push_cast
          grind
        rw [this]
        exact s3
    · have := g1 j hj
      refine le_eq (sm_congr fun k hk => ?_) this
      rw [gy k hk, A1 k j hj]
      grind
    · refine lt_eq g2 (sm_congr fun k hk => ?_)
      rw [gy k hk, A2 k]
      grind
end K8
namespace K8
/-! ### places of a left side in a word -/
def firstOf (line : List Nat) : Nat := if line = [] then 0 else line.getLastD 0 + 1
def spotLine (u : List Nat) (letter : Nat) (line : List Nat) : List (List Nat) := ((List.range (u.length - firstOf line)).filter fun i => decide (u.getD (firstOf line + i) 0 = letter)).map fun i => line ++ [firstOf line + i]
def spotsF (left u : List Nat) : List (List Nat) := left.foldl (fun found letter => found.flatMap (spotLine u letter)) [[]]
theorem spotsF_snoc (left u : List Nat) (x : Nat) : spotsF (left ++ [x]) u = (spotsF left u).flatMap (spotLine u x) := by
  unfold spotsF
  rw [List.foldl_append]
  rfl
theorem spotLine_length (u : List Nat) (x : Nat) (line : List Nat) : (spotLine u x line).length ≤ u.length := by
  unfold spotLine
  rw [List.length_map]
  exact Nat.le_trans (List.length_filter_le _ _) (by rw [List.length_range]; omega)
theorem flatMap_length {α β : Type} {f : α → List β} {n : Nat} (h : ∀ a, (f a).length ≤ n) : ∀ l : List α, (l.flatMap f).length ≤ l.length * n
  | [] => by simp
  | a :: l => by
    rw [List.flatMap_cons, List.length_append, List.length_cons, Nat.add_mul]
    have := h a
    have := flatMap_length h l
    omega
theorem snoc_of {α : Type} {l : List α} {k : Nat} (h : l.length = k + 1) : ∃ init x, l = init ++ [x] :=
  ⟨l.dropLast, l.getLast (by intro z; rw [z] at h; cases h), (List.dropLast_concat_getLast _).symm⟩
theorem spotsF_length (u : List Nat) : ∀ (k : Nat) (left : List Nat), left.length = k → (spotsF left u).length ≤ u.length ^ k
  | 0, left, h => by
    have : left = [] := List.eq_nil_of_length_eq_zero h
    subst this
    simp [spotsF]
  | k + 1, left, h => by
    obtain ⟨init, x, rfl⟩ := snoc_of h
    rw [spotsF_snoc]
    have ih := spotsF_length u k init (by simpa using h)
    refine Nat.le_trans (flatMap_length (fun a => spotLine_length u x a) _) ?_
    rw [Nat.pow_succ]
    exact Nat.mul_le_mul_right _ ih
theorem spots_small {left u : List Nat} (h3 : left.length ≤ 3) (hu : u.length ≤ 20) : (spotsF left u).length ≤ 8000 := by
  refine Nat.le_trans (spotsF_length u _ left rfl) ?_
  refine Nat.le_trans (Nat.pow_le_pow_left hu _) ?_
  exact Nat.le_trans (Nat.pow_le_pow_right (by decide) h3) (by decide)
/-- line is a line of places at which left stands in u -/
structure IsSpot (left u line : List Nat) : Prop where
  asc : line.Pairwise (· < ·)
  inb : ∀ x ∈ line, x < u.length
  here : line.map (fun i => u.getD i 0) = left
theorem IsSpot.len {left u line : List Nat} (h : IsSpot left u line) : line.length = left.length := by
  rw [← h.here, List.length_map]
theorem firstOf_le {line : List Nat} {n : Nat} (h : ∀ x ∈ line, x < n) : firstOf line ≤ n := by
  unfold firstOf
  split
  · omega
  · rename_i hne
    have : line.getLastD 0 ∈ line := by
      rw [List.getLastD_eq_getLast?, List.getLast?_eq_some_getLast hne]
      exact List.getLast_mem hne
    have := h _ this
    omega
theorem firstOf_snoc (line : List Nat) (x : Nat) : firstOf (line ++ [x]) = x + 1 := by
  unfold firstOf
  rw [if_neg (by simp)]
  simp
theorem asc_snoc {line : List Nat} {p : Nat} (h : line.Pairwise (· < ·)) : (line ++ [p]).Pairwise (· < ·) ↔ firstOf line ≤ p := by
  rw [List.pairwise_append]
  constructor
  · intro ⟨_, _, h3⟩
    unfold firstOf
    split
    · omega
    · rename_i hne
      have : line.getLastD 0 ∈ line := by
        rw [List.getLastD_eq_getLast?, List.getLast?_eq_some_getLast hne]
        exact List.getLast_mem hne
      exact h3 _ this p (by simp)
  · intro hp
    refine ⟨h, List.pairwise_singleton _ _, fun a ha b hb => ?_⟩
    rw [List.mem_singleton.mp hb]
    cases hl : line.length with
    | zero =>
      rw [List.eq_nil_of_length_eq_zero hl] at ha
      cases ha
    | succ k =>
      obtain ⟨init, x, rfl⟩ := snoc_of hl
      rw [firstOf_snoc] at hp
      rcases List.mem_append.mp ha with ha | ha
      · have := (List.pairwise_append.mp h).2.2 a ha x (by simp)
        omega
      · rw [List.mem_singleton.mp ha]
        omega
theorem mem_spotLine {u line line' : List Nat} {x : Nat} : line' ∈ spotLine u x line ↔ ∃ p, firstOf line ≤ p ∧ p < u.length ∧ u.getD p 0 = x ∧ line' = line ++ [p] := by
  unfold spotLine
  simp only [List.mem_map, List.mem_filter, List.mem_range, decide_eq_true_eq]
  constructor
  · rintro ⟨i, ⟨h1, h2⟩, rfl⟩
    exact ⟨firstOf line + i, by omega, by omega, h2, rfl⟩
  · rintro ⟨p, h1, h2, h3, rfl⟩
    refine ⟨p - firstOf line, ⟨by omega, ?_⟩, ?_⟩
    · rw [show firstOf line + (p - firstOf line) = p by omega]
      exact h3
    · rw [show firstOf line + (p - firstOf line) = p by omega]
theorem mem_spots {u : List Nat} : ∀ {k : Nat} {left line : List Nat}, left.length = k → (line ∈ spotsF left u ↔ IsSpot left u line)
  | 0, left, line, h => by
    have : left = [] := List.eq_nil_of_length_eq_zero h
    subst this
    constructor
    · intro hm
      have : line = [] := by simpa [spotsF] using hm
      subst this
      exact ⟨List.Pairwise.nil, fun x hx => (by cases hx), rfl⟩
    · intro hs
      have : line = [] := by simpa using hs.here
      subst this
      simp [spotsF]
  | k + 1, left, line, h => by
    obtain ⟨init, x, rfl⟩ := snoc_of h
    have hi : init.length = k := by simpa using h
    rw [spotsF_snoc, List.mem_flatMap]
    constructor
    · rintro ⟨l0, h0, h1⟩
      have s0 := (mem_spots hi).mp h0
      obtain ⟨p, h2, h3, h4, rfl⟩ := mem_spotLine.mp h1
      refine ⟨(asc_snoc s0.asc).mpr h2, fun y hy => ?_, ?_⟩
      · rcases List.mem_append.mp hy with hy | hy
        · exact s0.inb y hy
        · rw [List.mem_singleton.mp hy]
          exact h3
      · rw [List.map_append, s0.here]
        show init ++ [u.getD p 0] = _
        rw [h4]
    · intro s
      obtain ⟨l0, p, rfl⟩ := snoc_of (l := line) (k := k) (by rw [s.len]; exact h)
      have hh := s.here
      rw [List.map_append] at hh
      obtain ⟨e1, e2⟩ := List.append_inj' hh rfl
      have a0 : l0.Pairwise (· < ·) := (List.pairwise_append.mp s.asc).1
      refine ⟨l0, (mem_spots hi).mpr ⟨a0, fun y hy => s.inb y (List.mem_append_left _ hy), e1⟩, mem_spotLine.mpr ⟨p, (asc_snoc a0).mp s.asc, s.inb p (by simp), ?_, rfl⟩⟩
      simpa using e2
/-! ### steps -/
/-- right written at the places of line -/
def writeAt (u line right : List Nat) : List Nat := (line.zip right).foldl (fun t p => t.set p.1 p.2) u
theorem writeAt_length (u : List Nat) : ∀ (ps : List (Nat × Nat)), (ps.foldl (fun (t : List Nat) p => t.set p.1 p.2) u).length = u.length := by
  intro ps
  induction ps generalizing u with
  | nil => rfl
  | cons p ps ih =>
    rw [List.foldl_cons, ih, List.length_set]
abbrev Rule := List Nat × List Nat
def stepsL (rs : List Rule) (u : List Nat) : List (List Nat) := rs.flatMap fun r => (spotsF r.1 u).map fun line => writeAt u line r.2
def Step (rs : List Rule) (u v : List Nat) : Prop := ∃ r ∈ rs, ∃ line, IsSpot r.1 u line ∧ v = writeAt u line r.2
theorem mem_stepsL {rs : List Rule} {u v : List Nat} : v ∈ stepsL rs u ↔ Step rs u v := by
  unfold stepsL Step
  simp only [List.mem_flatMap, List.mem_map]
  constructor
  · rintro ⟨r, hr, line, hl, rfl⟩
    exact ⟨r, hr, line, (mem_spots rfl).mp hl, rfl⟩
  · rintro ⟨r, hr, line, hl, rfl⟩
    exact ⟨r, hr, line, (mem_spots rfl).mpr hl, rfl⟩
def putN {α : Type} [DecidableEq α] (ks : List α) (x : α) : List α := if x ∈ ks then ks else ks ++ [x]
def keysN {α : Type} [DecidableEq α] (l : List α) : List α := l.foldl putN []
theorem mem_putN {α : Type} [DecidableEq α] {ks : List α} {x y : α} : y ∈ putN ks x ↔ y ∈ ks ∨ y = x := by
  unfold putN
  split
  · rename_i h
    exact ⟨.inl, fun z => by rcases z with z | rfl; exact z; exact h⟩
  · simp
theorem nodup_putN {α : Type} [DecidableEq α] {ks : List α} {x : α} (h : ks.Nodup) : (putN ks x).Nodup := by
  unfold putN
  split
  · exact h
  · rename_i hn
    rw [List.nodup_append]
    exact ⟨h, by simp, fun a ha b hb e => hn (by rw [List.mem_singleton.mp hb] at e; rwa [← e])⟩
theorem foldl_putN {α : Type} [DecidableEq α] : ∀ (l ks : List α), ks.Nodup → (l.foldl putN ks).Nodup ∧ ∀ y, y ∈ l.foldl putN ks ↔ y ∈ ks ∨ y ∈ l
  | [], ks, h => ⟨h, fun y => by simp⟩
  | x :: l, ks, h => by
    obtain ⟨a, b⟩ := foldl_putN l (putN ks x) (nodup_putN h)
    refine ⟨a, fun y => ?_⟩
    rw [List.foldl_cons, b, mem_putN, List.mem_cons]
    constructor
    · rintro ((h | h) | h)
      · exact .inl h
      · exact .inr (.inl h)
      · exact .inr (.inr h)
    · rintro (h | h | h)
      · exact .inl (.inl h)
      · exact .inl (.inr h)
      · exact .inr h
theorem mem_keysN {α : Type} [DecidableEq α] {l : List α} {y : α} : y ∈ keysN l ↔ y ∈ l := by
  unfold keysN
  rw [(foldl_putN l [] List.nodup_nil).2]
  simp
theorem nodup_keysN {α : Type} [DecidableEq α] (l : List α) : (keysN l).Nodup := (foldl_putN l [] List.nodup_nil).1
theorem length_foldl_putN {α : Type} [DecidableEq α] : ∀ (l ks : List α), (l.foldl putN ks).length ≤ ks.length + l.length
  | [], ks => by simp
  | x :: l, ks => by
    rw [List.foldl_cons]
    refine Nat.le_trans (length_foldl_putN l (putN ks x)) ?_
    have : (putN ks x).length ≤ ks.length + 1 := by
      unfold putN
      split
      · omega
      · simp
    simp only [List.length_cons]
    omega
end K8
namespace K8
open PySem PySem.Spec PyProof.Rows L2
/-! lists by index, as data -/
theorem enumD_range {α : Type} (f : α → D) (l : List α) (d0 : α) : enumD (l.map f) = (List.range l.length).map fun i => .tup [nD i, f (l.getD i d0)] := by
  unfold enumD
  apply List.ext_getElem?
  intro i
  rw [List.getElem?_map, List.getElem?_map, List.getElem?_zipIdx, List.getElem?_map]
  by_cases h : i < l.length
  · rw [List.getElem?_range h, List.getElem?_eq_getElem h]
    have e : l.getD i d0 = l[i] := by rw [List.getD_eq_getElem?_getD, List.getElem?_eq_getElem h]; rfl
    simp only [Option.map_some, e, nD, Nat.zero_add]
  · rw [List.getElem?_eq_none (by omega), List.getElem?_eq_none (by simpa using h)]
    rfl
theorem range_split {n a : Nat} {pre post : List Nat} (h : List.range n = pre ++ a :: post) : a = pre.length ∧ pre.length < n := by
  have hl : pre.length < n := by
    have := congrArg List.length h
    simp at this
    omega
  have e : (List.range n)[pre.length]? = some a := by
    rw [h, List.getElem?_append_right (Nat.le_refl _)]
    simp
  rw [List.getElem?_range hl] at e
  exact ⟨(Option.some.inj e).symm, hl⟩
theorem at_map {α : Type} {l : List α} {f : α → D} {i : Nat} {d0 : α} (h : i < l.length) : atI (l.map f) (i : Int) = some (f (l.getD i d0)) :=
  atI_nat (by rw [List.getElem?_map, List.getElem?_eq_getElem h, List.getD_eq_getElem?_getD, List.getElem?_eq_getElem h]; rfl)
theorem at_last {α : Type} {l : List α} {f : α → D} {d0 : α} (h : 0 < l.length) : atI (l.map f) (-1) = some (f (l.getLastD d0)) := by
  cases hl : l.reverse with
  | nil =>
    have := congrArg List.length hl
    simp at this
    rw [this] at h
    simp at h
  | cons x xs =>
    have e : l = xs.reverse ++ [x] := by
      have := congrArg List.reverse hl
      simpa using this
    rw [e, List.map_append]
    rw [show List.map f [x] = [f x] from rfl, atI_last]
    simp
section
variable {X : Cx} {tg e : Expr} {p pos tpos : Pos} {ρ ρ1 : List C} {elts : List Expr} {kk : Nat}
theorem itr_eq {xs ys : List D} (h : Itr' X tg e ρ xs ρ1) (z : xs = ys) : Itr' X tg e ρ ys ρ1 := z ▸ h
theorem itr_enumLr {α : Type} (f : α → D) (l : List α) (d0 : α) (h : Ev X e ρ (.lst (l.map f)) ρ1) (hg : Gl X "enumerate") (hm : X.mg "enumerate" = none) (hs : starEach [e] X.env = [(false, eval e X.env)] := by rfl) :
    Itr' X (.Tuple elts kk tpos) (.Call (.Name "enumerate" p) [e] [] pos) ρ ((List.range l.length).map fun i => .tup [nD i, f (l.getD i d0)]) ρ1 := itr_eq (itr_enumL h hg hm hs) (enumD_range f l d0)
end
def rowD (r : Rw) : D := .lst (r.map rq)
def rowsD (rs : List Rw) : D := .lst (rs.map rowD)
def nsD (ns : List Nat) : D := .lst (ns.map nD)
def tabD (t : Tab) : D := .tup [rowsD t.rows, rowD t.costs, nsD t.basis]
theorem at_row {X : Cx} {r : Rw} {j : Nat} (h : j < r.length) : Iop X (rowD r) (.int (j : Int)) (rq (gt r j)) := iop_lst (at_map h)
def AllSz (s : Nat) (r : Rw) : Prop := ∀ x ∈ r, Sz s x
theorem AllSz.gt {s : Nat} {r : Rw} (h : AllSz s r) {j : Nat} (hj : j < r.length) : Sz s (gt r j) := by
  unfold K8.gt
  rw [List.getD_eq_getElem?_getD, List.getElem?_eq_getElem hj]
  exact h _ (List.getElem_mem hj)
section
variable {P : Program} {w : World} {K : PySem.W.Frag} {mg : Str → Option Value} {base : Heap}
theorem sc_taken_off : FnScope ["row", "other", "factor", "at", "one"] ["row", "other", "factor"] (defScope s_taken_off) := ⟨rfl, rfl, rfl, by decide +kernel, rfl, by decide +kernel, by decide +kernel⟩
def R_taken_off (ds : List D) (d : D) : Prop := ∃ (row other : Rw) (f : Rat), AllSz 100 row ∧ AllSz 100 other ∧ Sz 100 f ∧ row.length ≤ other.length ∧ row.length ≤ 1000 ∧ ds = [rowD row, rowD other, rq f] ∧ d = rowD (takenOff row other f)
theorem ok_taken_off (T : Gb K mg) (A : DefAt K mg "taken_off" s_taken_off) (G_minus : DefOk P w K mg base "minus" 3 ["one", "other"] (spD K R_minus)) (G_times : DefOk P w K mg base "times" 3 ["one", "other"] (spD K R_times)) : DefOk P w K mg base "taken_off" 4 ["row", "other", "factor"] (spD K R_taken_off) := by
  refine fn_ok A sc_taken_off (by decide) (fun _ _ _ _ _ _ us hl => match us, hl with | [_, _, _], _ => rfl) (fun ds d h => by obtain ⟨_, _, _, _, _, _, _, _, rfl, _⟩ := h; rfl) ?_
  intro f cdv A' outer s H E hr ds d ⟨row, other, fa, s1, s2, s3, hl, hl2, e1, e2⟩
  subst e1 e2
  refine runs_ret (ev_of_new (evN_map2 (List.range row.length) nD (fun i => rq (row.getD i 0)) (fun j => rq (gt row j - fa * gt other j)) 3 4 rfl sc_taken_off.nd (itr_enumLr rq row 0 (ev_v 0 rfl) rfl T.enumerate) (blkOk_by rfl) (by rw [List.length_range]; show _ < sizeLine; unfold sizeLine; omega) rfl rfl rfl rfl (fun a ha X' hX => by
    obtain ⟨_, _, _, _, _, rfl⟩ := hX
    have ha := List.mem_range.mp ha
    exact (ev_call G_minus (hr.mono (by decide)) rfl (evA_cons (ev_v 4 rfl) (evA_cons (ev_call G_times (hr.mono (by decide)) rfl (evA_cons (ev_v 2 rfl) (evA_cons (ev_ix (ev_v 1 rfl) (ev_v 3 rfl) (at_row (by omega))) evA_nil)) ⟨_, _, s3.mono (by decide), (s2.gt (by omega)).mono (by decide), rfl, rfl⟩) evA_nil)) ⟨_, _, (s1.gt ha).mono (by decide), (s3.mul (s2.gt (by omega))).mono (by decide), rfl, rfl⟩)) (by decide) (by rintro _ ⟨⟩; rfl) (by rintro _ ⟨⟩; rfl))) (rt_eq ?_)
  unfold rowD takenOff mk
  rw [List.map_map]
  rfl

theorem cut_to (ds : List D) (r : Nat) : cutD ds none (some (r : Int)) = ds.take r := by
  unfold cutD
  rw [HT.sIx_none, HT.sIx_nat, List.drop_zero, Nat.sub_zero]
  by_cases h : r ≤ ds.length
  · rw [Nat.min_eq_left h]
  · rw [Nat.min_eq_right (by omega), List.take_length, List.take_of_length_le (by omega)]
theorem cut_from (ds : List D) (r : Nat) : cutD ds (some (r : Int)) none = ds.drop r := by
  unfold cutD
  rw [HT.sIx_none, HT.sIx_nat]
  by_cases h : r ≤ ds.length
  · rw [Nat.min_eq_left h, List.take_of_length_le (by rw [List.length_drop]; omega)]
  · rw [Nat.min_eq_right (by omega), List.drop_length, List.drop_of_length_le (by omega), List.take_nil]
structure TabSz (s : Nat) (t : Tab) : Prop where
  r : ∀ x ∈ t.rows, AllSz s x
  c : AllSz s t.costs
theorem sc_turned : FnScope ["rows", "costs", "basis", "row", "column", "pivot", "line", "one", "at"] ["rows", "costs", "basis", "row", "column"] (defScope s_turned) := ⟨rfl, rfl, rfl, by decide +kernel, rfl, by decide +kernel, by decide +kernel⟩
def R_turned (ds : List D) (d : D) : Prop := ∃ (h n : Nat) (t : Tab) (r q : Nat), t.Wf h n ∧ r < h ∧ q < n ∧ 0 < t.T r q ∧ TabSz 10 t ∧ n + h + 1 ≤ 100 ∧ ds = [rowsD t.rows, rowD t.costs, nsD t.basis, nD r, nD q] ∧ d = tabD (turnedT t r q)
theorem getD_mem {α : Type} {l : List α} {i : Nat} {d0 : α} (h : i < l.length) : l.getD i d0 ∈ l := by
  rw [List.getD_eq_getElem?_getD, List.getElem?_eq_getElem h]
  exact List.getElem_mem h
theorem mem_gt {r : Rw} {x : Rat} (h : x ∈ r) : ∃ j, j < r.length ∧ x = gt r j := by
  obtain ⟨j, hj, e⟩ := List.mem_iff_getElem.mp h
  refine ⟨j, hj, ?_⟩
  unfold gt
  rw [List.getD_eq_getElem?_getD, List.getElem?_eq_getElem hj, ← e]
  rfl
theorem ok_turned (T : Gb K mg) (A : DefAt K mg "turned" s_turned) (G_over : DefOk P w K mg base "over" 3 ["one", "other"] (spD K R_over)) (G_taken_off : DefOk P w K mg base "taken_off" 4 ["row", "other", "factor"] (spD K R_taken_off)) : DefOk P w K mg base "turned" 5 ["rows", "costs", "basis", "row", "column"] (spD K R_turned) := by
  refine fn_ok A sc_turned (by decide) (fun _ _ _ _ _ _ us hl => match us, hl with | [_, _, _, _, _], _ => rfl) (fun ds d h => by obtain ⟨_, _, _, _, _, _, _, _, _, _, _, rfl, _⟩ := h; rfl) ?_
  intro f cdv A' outer s H E hr ds d ⟨h, n, t, r, q, W, hrh, hq, hp, S, hn, e1, e2⟩
  subst e1 e2
  have hrl : r < t.rows.length := by rw [W.rows]; exact hrh
  have hlen := W.rowlen hrh
  have srow : AllSz 10 (t.rows.getD r []) := S.r _ (getD_mem hrl)
  have sp : Sz 10 (gt (t.rows.getD r []) q) := srow.gt (by omega)
  have sline : AllSz 100 ((t.rows.getD r []).map fun x => x / gt (t.rows.getD r []) q) := by
    intro x hx
    obtain ⟨y, hy, rfl⟩ := List.mem_map.mp hx
    exact ((srow y hy).div sp hp).mono (by decide)
  refine runs_set 5 (ev_ix (ev_ix (ev_v 0 rfl) (ev_v 3 rfl) (iop_lst (at_map (d0 := []) hrl))) (ev_v 4 rfl) (at_row (by omega))) sc_turned.nd rfl (.inr rfl) ?_
  refine runs_set 6 (ev_of_new (evN_map1 (t.rows.getD r []) rq (fun x => rq (x / gt (t.rows.getD r []) q)) 7 rfl sc_turned.nd (itr_lst (ev_ix (ev_v 0 rfl) (ev_v 3 rfl) (iop_lst (at_map (d0 := []) hrl)))) (blkOk_by rfl) (by rw [hlen]; show _ < sizeLine; unfold sizeLine; omega) rfl rfl (fun a ha X' hX => by
    obtain ⟨_, _, _, _, _, rfl⟩ := hX
    exact (ev_call G_over (hr.mono (by decide)) rfl (evA_cons (ev_v 7 rfl) (evA_cons (ev_v 5 rfl) evA_nil)) ⟨_, _, (srow a ha).mono (by decide), sp.mono (by decide), hp, rfl, rfl⟩)) (by rintro _ ⟨⟩; rfl))) sc_turned.nd rfl (.inr rfl) ?_
  have eline : D.lst ((t.rows.getD r []).map fun x => rq (x / gt (t.rows.getD r []) q)) = rowD ((t.rows.getD r []).map fun x => x / gt (t.rows.getD r []) q) := by
    unfold rowD
    rw [List.map_map]
    rfl
  rw [eline]
  refine runs_step (run_map2 0 (List.range t.rows.length) nD (fun i => rowD (t.rows.getD i [])) (fun i => rowD (if i = r then (t.rows.getD r []).map (fun x => x / gt (t.rows.getD r []) q) else takenOff (t.rows.getD i []) ((t.rows.getD r []).map fun x => x / gt (t.rows.getD r []) q) (gt (t.rows.getD i []) q))) 8 7 rfl sc_turned.nd rfl rfl rfl (itr_enumLr rowD t.rows [] (ev_v 0 rfl) rfl T.enumerate) (blkOk_by rfl) (by rw [List.length_range, W.rows]; show _ < sizeLine; unfold sizeLine; omega) rfl rfl rfl rfl (fun a ha X' hX => by
    obtain ⟨_, _, _, _, _, rfl⟩ := hX
    have ha := List.mem_range.mp ha
    have hla := W.rowlen (i := a) (by rw [← W.rows]; exact ha)
    have sa : AllSz 10 (t.rows.getD a []) := S.r _ (getD_mem ha)
    refine (ev_ifexp (evB_cmp (ev_v 8 rfl) (ev_v 3 rfl) cop_eqI) (fun hh => ?_) (fun hh => ?_))
    · rw [if_pos (by have := of_decide_eq_true hh; omega)]
      exact ev_v 6 rfl
    · rw [if_neg (by have := of_decide_eq_false hh; omega)]
      exact (ev_call G_taken_off (hr.mono (by decide)) rfl (evA_cons (ev_v 7 rfl) (evA_cons (ev_v 6 rfl) (evA_cons (ev_ix (ev_v 7 rfl) (ev_v 4 rfl) (at_row (by omega))) evA_nil))) ⟨_, _, _, fun x hx => (sa x hx).mono (by decide), sline, (sa.gt (by omega)).mono (by decide), by rw [List.length_map, hlen, hla]; exact Nat.le_refl _, by omega, rfl, rfl⟩)) (by decide) (by rintro _ ⟨⟩; rfl) (by rintro _ ⟨⟩; rfl)) ?_
  have hb := W.basis
  have hc := W.costs
  refine runs_ret (ev_tup (evA_cons (ev_vF 0 rfl) (evA_cons (ev_call G_taken_off (hr.mono (by decide)) rfl (evA_cons (ev_v 1 rfl) (evA_cons (ev_v 6 rfl) (evA_cons (ev_ix (ev_v 1 rfl) (ev_v 4 rfl) (at_row (by omega))) evA_nil))) ⟨_, _, _, fun x hx => (S.c x hx).mono (by decide), sline, (S.c.gt (by omega)).mono (by decide), by rw [List.length_map, hlen, hc]; exact Nat.le_refl _, by omega, rfl, rfl⟩) (evA_cons (ev_op (ev_op (ev_sliceL (ev_v 2 rfl) evO_none (evO_some (ev_v 3 rfl))) (ev_lst (evA_cons (ev_v 4 rfl) evA_nil)) (bop_cat ?_)) (ev_sliceL (ev_v 2 rfl) (evO_some (ev_op (ev_v 3 rfl) ev_int bop_add)) evO_none) (bop_cat ?_)) evA_nil)))) (rt_eq ?_)
  · rw [cut_to, List.length_take, List.length_map]
    show _ ≤ sizeLine
    unfold sizeLine
    simp only [List.length_cons, List.length_nil]
    omega
  · rw [cut_to, show ((r : Int) + 1) = ((r + 1 : Nat) : Int) from rfl, cut_from]
    show _ ≤ sizeLine
    unfold sizeLine
    simp only [List.length_append, List.length_take, List.length_drop, List.length_map, List.length_cons, List.length_nil]
    omega
  · rw [cut_to, show ((r : Int) + 1) = ((r + 1 : Nat) : Int) from rfl, cut_from]
    unfold tabD turnedT rowsD nsD
    simp only []
    rw [List.set_eq_take_append_cons_drop, if_pos (by omega), List.map_map, List.map_append, List.map_cons, List.map_take, List.map_drop, List.append_assoc]
    rfl
end
end K8
namespace K8
open PySem PySem.Spec PyProof.Rows L2
section
variable {P : Program} {w : World} {K : PySem.W.Frag} {mg : Str → Option Value} {base : Heap}
theorem sc_leaving : FnScope ["rows", "basis", "column", "best", "at", "row", "share"] ["rows", "basis", "column"] (defScope s_leaving) := ⟨rfl, rfl, rfl, by decide +kernel, rfl, by decide +kernel, by decide +kernel⟩
def R_leaving (ds : List D) (d : D) : Prop := ∃ (h n : Nat) (t : Tab) (q : Nat) (x : Rat × Nat × Nat), t.Wf h n ∧ q < n ∧ TabSz 10 t ∧ n + h + 1 ≤ 100 ∧ leave t q = some x ∧ ds = [rowsD t.rows, nsD t.basis, nD q] ∧ d = nD x.2.2
def bestD : Option (Rat × Nat × Nat) → D
  | none => .non
  | some x => .tup [rq x.1, nD x.2.1, nD x.2.2]
theorem leaveN_sz {h n : Nat} {t : Tab} (W : t.Wf h n) (S : TabSz 10 t) {q : Nat} (hq : q < n) : ∀ m, m ≤ h → ∀ x, leaveN t q m = some x → Sz 20 x.1 := fun m hm x hx => by
  have sp := leaveN_spec W q m hm
  rw [hx] at sp
  obtain ⟨a1, a2, a3, _⟩ := sp
  rw [a3]
  have hl := W.rowlen (i := x.2.2) (by omega)
  have sr : AllSz 10 (t.rows.getD x.2.2 []) := S.r _ (getD_mem (by rw [W.rows]; omega))
  exact (sr.gt (by omega)).div (sr.gt (by omega)) a2
theorem rq_zero : rq 0 = .tup [.int 0, .int 1] := rfl
theorem rq_one : rq 1 = .tup [.int 1, .int 1] := rfl
theorem at_rowL {X : Cx} {r : Rw} (h : 0 < r.length) : Iop X (rowD r) (.int (-1)) (rq (r.getLastD 0)) := iop_lst (at_last h)
theorem ok_leaving (T : Gb K mg) (A : DefAt K mg "leaving" s_leaving) (G_less : DefOk P w K mg base "less" 1 ["one", "other"] (spD K R_less)) (G_over : DefOk P w K mg base "over" 3 ["one", "other"] (spD K R_over)) : DefOk P w K mg base "leaving" 4 ["rows", "basis", "column"] (spD K R_leaving) := by
  refine fn_ok A sc_leaving (by decide) (fun _ _ _ _ _ _ us hl => match us, hl with | [_, _, _], _ => rfl) (fun ds d h => by obtain ⟨_, _, _, _, _, _, _, _, _, _, rfl, _⟩ := h; rfl) ?_
  intro f cdv A' outer s H E hr ds d ⟨h, n, t, q, x, W, hq, S, hn, hx, e1, e2⟩
  subst e1 e2
  have hrows := W.rows
  have hbasis := W.basis
  refine runs_set 3 ev_non sc_leaving.nd rfl (.inl rfl) ?_
  refine runs_for (List.range t.rows.length) (fun i => .tup [nD i, rowD (t.rows.getD i [])]) (fun pre ρ => ∃ c4 c5 c6, ρ = [.va (rowsD t.rows), .va (nsD t.basis), .va (nD q), .va (bestD (leaveN t q pre.length)), c4, c5, c6]) .never rfl (itr_enumLr rowD t.rows [] (ev_v 0 rfl) rfl T.enumerate) ⟨.un, .un, .un, rfl⟩ ?_ ?_
  · rintro pre a post ρ' hl ⟨c4, c5, c6, rfl⟩
    obtain ⟨ea, ha⟩ := range_split hl
    rw [← ea] at ha ⊢
    have hla := W.rowlen (i := a) (by omega)
    have sa : AllSz 10 (t.rows.getD a []) := S.r _ (getD_mem ha)
    have eN : leaveN t q (pre ++ [a]).length = leaveStep t q (leaveN t q a) a := by
      rw [List.length_append, ← ea]
      rfl
    refine ⟨_, _, (tg_tup rfl (tgs_cons (tg_name 4 sc_leaving.nd rfl (.inl rfl)) (tgs_cons (tg_name 5 sc_leaving.nd rfl (.inl rfl)) tgs_nil))), ?_⟩
    have sz0 : Sz 4000 (0 : Rat) := sz_int 0 4000 (by decide) (by decide)
    have sg : Sz 10 (gt (t.rows.getD a []) q) := sa.gt (by omega)
    refine runs_if (evB_val (ev_call G_less (hr.mono (by decide)) rfl (evA_cons (ev_tup (evA_cons ev_int (evA_cons ev_int evA_nil))) (evA_cons (ev_ix (ev_v 5 rfl) (ev_v 2 rfl) (at_row (by omega))) evA_nil)) ⟨0, _, sz0, sg.mono (by decide), rfl, rfl⟩)) (fun hb => ?_) (fun hb => ?_)
    · have hp : 0 < gt (t.rows.getD a []) q := of_decide_eq_true hb
      have sl : Sz 10 ((t.rows.getD a []).getLastD 0) := by
        rw [getLastD_gt hla]
        exact sa.gt (by omega)
      have ss := sl.div sg hp
      refine runs_set 6 (ev_call G_over (hr.mono (by decide)) rfl (evA_cons (ev_ix (ev_v 5 rfl) (ev_neg ev_int) (at_rowL (by omega))) (evA_cons (ev_ix (ev_v 5 rfl) (ev_v 2 rfl) (at_row (by omega))) evA_nil)) ⟨_, _, sl.mono (by decide), sg.mono (by decide), hp, rfl, rfl⟩) sc_leaving.nd rfl (.inl rfl) ?_
      cases hB : leaveN t q a with
      | none =>
        refine runs_if (PW.pt (evW_or (k2 := true) (evB_isNone (d := bestD none) (ev_v 3 rfl)) fun h => absurd h (by decide))) (fun hb => ?_) (fun hb => absurd hb (by decide))
        refine runs_set 3 (ev_tup (evA_cons (ev_v 6 rfl) (evA_cons (ev_ix (ev_v 1 rfl) (ev_v 4 rfl) (iop_lst (at_map (d0 := 0) (by omega)))) (evA_cons (ev_v 4 rfl) evA_nil)))) sc_leaving.nd rfl (.inl rfl) ?_
        repeat refine runs_nil ?_
        refine ⟨.va (nD a), .va (rowD (t.rows.getD a [])), .va (rq ((t.rows.getD a []).getLastD 0 / gt (t.rows.getD a []) q)), ?_⟩
        rw [eN, hB]
        unfold leaveStep
        rw [if_pos hp]
        rfl
      | some y =>
        have sy := leaveN_sz W S hq a (by omega) y hB
        refine runs_if (PW.pt (evW_or (evB_isNone (d := bestD (some y)) (ev_v 3 rfl)) fun h => (evW_or (evB_val (ev_call G_less (hr.mono (by decide)) rfl (evA_cons (ev_v 6 rfl) (evA_cons (ev_ix (ev_v 3 rfl) ev_int (iop_tup rfl)) evA_nil)) ⟨_, _, ss.mono (by decide), sy.mono (by decide), rfl, rfl⟩)) fun h => (evW_or1 (PW.pt (evW_and (evB_cmp (ev_v 6 rfl) (ev_ix (ev_v 3 rfl) ev_int (iop_tup rfl)) (cop_eqD (n := 1) hr okn_rq okn_rq)) fun h => (evW_and1 (evB_cmp (ev_ix (ev_v 1 rfl) (ev_v 4 rfl) (iop_lst (at_map (d0 := 0) (by omega)))) (ev_ix (ev_v 3 rfl) ev_int (iop_tup rfl)) cop_lt)))))))) (fun hb => ?_) (fun hb => ?_)
        · refine runs_set 3 (ev_tup (evA_cons (ev_v 6 rfl) (evA_cons (ev_ix (ev_v 1 rfl) (ev_v 4 rfl) (iop_lst (at_map (d0 := 0) (by omega)))) (evA_cons (ev_v 4 rfl) evA_nil)))) sc_leaving.nd rfl (.inl rfl) ?_
          repeat refine runs_nil ?_
          refine ⟨.va (nD a), .va (rowD (t.rows.getD a [])), .va (rq ((t.rows.getD a []).getLastD 0 / gt (t.rows.getD a []) q)), ?_⟩
          rw [eN, hB]
          unfold leaveStep
          rw [if_pos hp]
          have hc : (t.rows.getD a []).getLastD 0 / gt (t.rows.getD a []) q < y.1 ∨ ((t.rows.getD a []).getLastD 0 / gt (t.rows.getD a []) q = y.1 ∧ t.basis.getD a 0 < y.2.1) := by
            rw [beq_dec (fun a => okn_rq (q := a) (k := 0)) (fun a b => rq_inj)] at hb
            simp only [D.isNon, bestD, Bool.false_or, Bool.or_eq_true, Bool.and_eq_true, decide_eq_true_eq] at hb
            rcases hb with hb | ⟨hb, hb'⟩
            · exact .inl hb
            · exact .inr ⟨hb, by omega⟩
          simp only [if_pos hc]
          rfl
        · repeat refine runs_nil ?_
          refine ⟨.va (nD a), .va (rowD (t.rows.getD a [])), .va (rq ((t.rows.getD a []).getLastD 0 / gt (t.rows.getD a []) q)), ?_⟩
          rw [eN, hB]
          unfold leaveStep
          rw [if_pos hp]
          have hc : ¬ ((t.rows.getD a []).getLastD 0 / gt (t.rows.getD a []) q < y.1 ∨ ((t.rows.getD a []).getLastD 0 / gt (t.rows.getD a []) q = y.1 ∧ t.basis.getD a 0 < y.2.1)) := by
            rw [beq_dec (fun a => okn_rq (q := a) (k := 0)) (fun a b => rq_inj)] at hb
            intro hc
            simp only [D.isNon, bestD, Bool.false_or, Bool.or_eq_false_iff, Bool.and_eq_false_imp, decide_eq_true_eq, decide_eq_false_iff_not] at hb
            rcases hc with hc | ⟨hc, hc'⟩
            · exact hb.1 hc
            · have := hb.2 hc
              omega
          simp only [if_neg hc]
          rfl
    · have hp : ¬ 0 < gt (t.rows.getD a []) q := of_decide_eq_false hb
      repeat refine runs_nil ?_
      refine ⟨.va (nD a), .va (rowD (t.rows.getD a [])), c6, ?_⟩
      rw [eN]
      unfold leaveStep
      rw [if_neg hp]
      rfl
  rintro ρ' ⟨c4, c5, c6, rfl⟩
  rw [List.length_range]
  have hx' : leaveN t q t.rows.length = some x := hx
  rw [hx']
  exact runs_ret (ev_ix (ev_v 3 rfl) ev_int (iop_tup rfl)) (rt_eq rfl)
end
end K8
namespace K8
open PySem PySem.Spec PyProof.Rows L2
def ivD (z : List Int) : D := .lst (z.map D.int)
def colsD (cs : List (List Int)) : D := .lst (cs.map ivD)
theorem at_iv {X : Cx} {z : List Int} {j : Nat} (h : j < z.length) : Iop X (ivD z) (.int (j : Int)) (.int (z.getD j 0)) := iop_lst (at_map h)
theorem rq_int (z : Int) : rq (z : Rat) = .tup [.int z, .int 1] := by
  unfold rq
  rw [Rat.num_intCast, Rat.den_intCast]
  rfl
theorem ix_nat {m l : Nat} (h : l < m) : ixN m (l : Int) = some l := by simp [ixN, h]
theorem rep_one {α : Type} (n : Nat) (x : α) : (List.replicate n [x]).flatten = List.replicate n x := by
  induction n with
  | zero => rfl
  | succ n ih => rw [List.replicate_succ, List.flatten_cons, ih]; rfl
section
variable {P : Program} {w : World} {K : PySem.W.Frag} {mg : Str → Option Value} {base : Heap}
theorem sc_first_tableau : FnScope ["columns", "goal", "height", "rows", "at", "turn", "signs", "costs", "row", "k", "one", "cost"] ["columns", "goal"] (defScope s_first_tableau) := ⟨rfl, rfl, rfl, by decide +kernel, rfl, by decide +kernel, by decide +kernel⟩
def R_first_tableau (ds : List D) (d : D) : Prop := ∃ cols goal, VC cols goal ∧ goal.length ≤ 3 ∧ 0 < goal.length ∧ cols.length ≤ 90 ∧ ds = [colsD cols, ivD goal] ∧ d = tabD (firstT cols goal)
theorem small_mul {i j : Int} (h1 : i.natAbs ≤ 3) (h2 : j.natAbs ≤ 3) : CMulW i j := mulw_of (b := 2) (c := 2) (by omega) (by omega) (by decide) (by decide) (by decide)
theorem a0_sz {cols : List (List Int)} {goal : List Int} (V : VC cols goal) (i j : Nat) : Sz 2 (a0 cols goal i j : Rat) := sz_int _ 2 (by have := V.a0 i j; omega) (by decide)
theorem row0_sz {cols : List (List Int)} {goal : List Int} (V : VC cols goal) (i : Nat) : AllSz 2 (row0 cols goal i) := by
  intro x hx
  obtain ⟨j, hj, rfl⟩ := mem_gt hx
  rw [row0_length] at hj
  rw [gt_row0 _ _ _ _ (by omega)]
  exact a0_sz V i j
theorem costsN_sz {cols : List (List Int)} {goal : List Int} (V : VC cols goal) : ∀ m, AllSz (1 + 3 * m) (costsN cols goal m)
  | 0 => by
    intro x hx
    rw [costsN] at hx
    rw [List.eq_of_mem_replicate hx]
    exact sz_int 0 1 (by decide) (by decide)
  | m + 1 => by
    intro x hx
    obtain ⟨j, hj, rfl⟩ := mem_gt hx
    have hj' := hj
    rw [costsN, mk_length, costsN_length] at hj'
    rw [costsN, gt_mk (by rw [costsN_length]; exact hj')]
    have h1 := (costsN_sz V m).gt (j := j) (by rw [costsN_length]; exact hj')
    have h2 := (row0_sz V m).gt (j := j) (by rw [row0_length]; exact hj')
    have := h1.sub h2
    exact this.mono (by omega)
def memb (c : C) (d : D) (ds : List D) : Prop := c = .va d ∨ c = .ml ds
theorem ok_first_tableau (T : Gb K mg) (A : DefAt K mg "first_tableau" s_first_tableau) (G_minus : DefOk P w K mg base "minus" 3 ["one", "other"] (spD K R_minus)) : DefOk P w K mg base "first_tableau" 4 ["columns", "goal"] (spD K R_first_tableau) := by
  refine fn_ok A sc_first_tableau (by decide) (fun _ _ _ _ _ _ us hl => match us, hl with | [_, _], _ => rfl) (fun ds d h => by obtain ⟨_, _, _, _, _, _, rfl, _⟩ := h; rfl) ?_
  intro f cdv A' outer s H E hr ds d ⟨cols, goal, V, hg, hg0, hc, e1, e2⟩
  subst e1 e2
  refine runs_step (run_parC 2 3 (evP_cons (ev_len (n := goal.length) (ev_v 1 rfl) (by simp [LenD, ivD]) rfl T.len) (evP_consN (evN_lst evA_nil) evP_nil)) rfl sc_first_tableau.nd rfl rfl (by decide) rfl rfl (.inr ⟨_, rfl⟩) (.inl rfl) (Nat.le_of_ble_eq_true rfl) rfl) ?_
  refine runs_for (List.range goal.length) nD (fun pre ρ => ∃ c4 c5 c6 c9 c10, c4.own = false ∧ c9.own = false ∧ c10.own = false ∧ ρ = [.va (colsD cols), .va (ivD goal), .va (nD goal.length), .ml ((List.range pre.length).map fun i => rowD (row0 cols goal i)), c4, c5, c6, .un, .un, c9, c10, .un]) .never rfl (itr_range1 (ev_v 2 rfl) (by omega) rfl T.range) ⟨.un, .un, .un, .un, .un, rfl, rfl, rfl, rfl⟩ ?_ ?_
  · rintro pre a post ρ' hl ⟨c4, c5, c6, c9, c10, h4, h9, h10, rfl⟩
    obtain ⟨ea, ha⟩ := range_split hl
    rw [← ea] at ha ⊢
    refine ⟨_, _, (tg_name 4 sc_first_tableau.nd rfl (.inr rfl)), ?_⟩
    refine runs_set 5 (d := .int (sgn (goal.getD a 0))) (ev_ifexpP (evB_cmp (ev_ix (ev_v 1 rfl) (ev_v 4 rfl) (at_iv ha)) ev_int cop_lt) (fun h => ?_) (fun h => ?_)) sc_first_tableau.nd rfl (.inr rfl) ?_
    · unfold sgn
      rw [if_pos (of_decide_eq_true h)]
      exact ev_neg ev_int
    · unfold sgn
      rw [if_neg (of_decide_eq_false h)]
      exact ev_int
    have hgl : (goal.getD a 0).natAbs ≤ 3 := getD_le V.gl a
    have hsg := sgn_abs (goal.getD a 0)
    refine runs_step (run_map1 6 (List.range goal.length) nD (fun k => rq (if k = a then 1 else 0)) 9 rfl sc_first_tableau.nd rfl rfl rfl (itr_range1 (ev_v 2 rfl) (by omega) rfl T.range) (blkOk_by rfl) (by rw [List.length_range]; show _ < sizeLine; unfold sizeLine; omega) rfl rfl (fun k hk X' hX => by
      obtain ⟨_, _, _, _, _, rfl⟩ := hX
      have e : rq (if k = a then 1 else 0) = .tup [.int (if decide ((k : Int) = (a : Int)) then 1 else 0), .int 1] := by
        by_cases z : k = a
        · subst z
          simp
          rfl
        · have : ¬ ((k : Int) = (a : Int)) := by omega
          rw [if_neg z]
          simp [this]
          rfl
      rw [e]
      exact (ev_tup (evA_cons (ev_intB (ev_cmp (ev_v 9 rfl) (ev_v 4 rfl) cop_eqI) rfl T.int) (evA_cons ev_int evA_nil)))) (by rintro _ ⟨⟩; exact h9)) ?_
    refine runs_step (run_app 3 rfl (.inl rfl) (d := rowD (row0 cols goal a)) (ρ1 := [.va (colsD cols), .va (ivD goal), .va (nD goal.length), .ml ((List.range a).map fun i => rowD (row0 cols goal i)), .va (nD a), .va (.int (sgn (goal.getD a 0))), .va (.lst ((List.range goal.length).map fun k => rq (if k = a then 1 else 0))), .un, .un, c9, c10, .un]) ?_ rfl (by intro h; cases h) rfl rfl ?_) ?_
    · have e : rowD (row0 cols goal a) = .lst ((cols.map (fun c => rq ((sgn (goal.getD a 0) * c.getD a 0 : Int) : Rat)) ++ (List.range goal.length).map (fun k => rq (if k = a then 1 else 0))) ++ [.tup [.int (sgn (goal.getD a 0) * goal.getD a 0), .int 1]]) := by
        unfold rowD row0 mk
        rw [List.map_append, List.map_append, List.map_map, List.map_map]
        rw [← rq_int]
        rfl
      rw [e]
      refine (ev_op (ev_op (ev_of_new (evN_map1 cols ivD (fun c => rq ((sgn (goal.getD a 0) * c.getD a 0 : Int) : Rat)) 10 rfl sc_first_tableau.nd (itr_lst (ev_v 0 rfl)) (blkOk_by rfl) (by show _ < sizeLine; unfold sizeLine; omega) rfl rfl (fun c hcm X' hX => by
        obtain ⟨_, _, _, _, _, rfl⟩ := hX
        rw [rq_int]
        have hcl := V.cl c hcm
        exact (ev_tup (evA_cons (ev_op (ev_v 5 rfl) (ev_ix (ev_v 10 rfl) (ev_v 4 rfl) (at_iv (by omega))) (bop_mul (small_mul (by omega) (getD_le hcl.2 a)))) (evA_cons ev_int evA_nil)))) (by rintro _ ⟨⟩; exact h10))) (ev_vF 6 rfl) (bop_cat ?_)) (ev_lst (evA_cons (ev_tup (evA_cons (ev_op (ev_v 5 rfl) (ev_ix (ev_v 1 rfl) (ev_v 4 rfl) (at_iv ha)) (bop_mul (small_mul (by omega) hgl))) (evA_cons ev_int evA_nil))) evA_nil)) (bop_cat ?_))
      · rw [List.length_map, List.length_map, List.length_range]
        show _ ≤ sizeLine
        unfold sizeLine
        omega
      · rw [List.length_append, List.length_map, List.length_map, List.length_range]
        show _ ≤ sizeLine
        unfold sizeLine
        simp only [List.length_cons, List.length_nil]
        omega
    · rw [List.length_map, List.length_range]
      show _ < sizeLine
      unfold sizeLine
      omega
    · refine runs_nil ⟨.va (nD a), .va (.int (sgn (goal.getD a 0))), .va (.lst ((List.range goal.length).map fun k => rq (if k = a then 1 else 0))), c9, c10, rfl, h9, h10, ?_⟩
      rw [List.length_append, ← ea]
      show _ = [_, _, _, C.ml ((List.range (a + 1)).map fun i => rowD (row0 cols goal i)), _, _, _, _, _, _, _, _]
      rw [List.range_succ, List.map_append]
      rfl
  rintro ρ' ⟨c4, c5, c6, c9, c10, h4, h9, h10, rfl⟩
  rw [List.length_range]
  have hrows : D.lst ((List.range goal.length).map fun i => rowD (row0 cols goal i)) = rowsD (firstT cols goal).rows := by
    unfold rowsD firstT
    rw [List.map_map]
    rfl
  refine runs_set 7 (ev_eq (d' := rowD (costsN cols goal 0)) (ev_op (ev_lst (evA_cons (ev_tup (evA_cons ev_int (evA_cons ev_int evA_nil))) evA_nil)) (ev_op (ev_op (ev_len (n := cols.length) (ev_v 0 rfl) (by simp [LenD, colsD]) rfl T.len) (ev_v 2 rfl) bop_add) ev_int bop_add) (bop_rep (n := cols.length + goal.length + 1) (by show 1 * _ ≤ sizeLine; unfold sizeLine; omega) (by omega))) (by
    unfold rowD costsN
    rw [List.map_replicate, rep_one]
    rfl)) sc_first_tableau.nd rfl (.inl rfl) ?_
  refine runs_for (List.range goal.length) (fun i => rowD (row0 cols goal i)) (fun pre ρ => ∃ c4 c5 c6 c7 c8 c9 c10 c11, c4.own = false ∧ c11.own = false ∧ ((pre = [] ∧ c7 = .va (rowD (costsN cols goal pre.length))) ∨ (pre ≠ [] ∧ c7 = .ml ((costsN cols goal pre.length).map rq))) ∧ ρ = [.va (colsD cols), .va (ivD goal), .va (nD goal.length), .va (rowsD (firstT cols goal).rows), c4, c5, c6, c7, c8, c9, c10, c11]) .never rfl (itr_lst (ev_vF 3 rfl)) ⟨c4, c5, c6, _, .un, c9, c10, .un, h4, rfl, .inl ⟨rfl, rfl⟩, ?_⟩ ?_ ?_
  · rw [← hrows]
    rfl
  · rintro pre a post ρ' hl ⟨c4, c5, c6, c7, c8, c9, c10, c11, h4, h11, h7, rfl⟩
    obtain ⟨ea, ha⟩ := range_split hl
    rw [← ea] at ha h7
    refine ⟨_, _, (tg_name 8 sc_first_tableau.nd rfl (.inr rfl)), ?_⟩
    have it : ∀ {p pos tpos : Pos} {elts : List Expr} {kk : Nat} {px : Pos}, Itr' (Bx P w K mg base ["columns", "goal", "height", "rows", "at", "turn", "signs", "costs", "row", "k", "one", "cost"] "first_tableau" (defScope s_first_tableau) f cdv A' outer s H E) (.Tuple elts kk tpos) (.Call (.Name "enumerate" p) [.Name "costs" px] [] pos) [.va (colsD cols), .va (ivD goal), .va (nD goal.length), .va (rowsD (firstT cols goal).rows), c4, c5, c6, c7, .va (rowD (row0 cols goal a)), c9, c10, c11] ((List.range (costsN cols goal a).length).map fun i => .tup [nD i, rq ((costsN cols goal a).getD i 0)]) [.va (colsD cols), .va (ivD goal), .va (nD goal.length), .va (rowsD (firstT cols goal).rows), c4, c5, c6, .va (rowD (costsN cols goal a)), .va (rowD (row0 cols goal a)), c9, c10, c11] := by
      intros
      rcases h7 with ⟨_, rfl⟩ | ⟨_, rfl⟩
      · exact itr_enumLr rq (costsN cols goal a) 0 (ev_v 7 rfl) rfl T.enumerate
      · exact itr_enumLr rq (costsN cols goal a) 0 (ev_vF 7 rfl) rfl T.enumerate
    refine runs_step (run_map2 7 (List.range (costsN cols goal a).length) nD (fun i => rq ((costsN cols goal a).getD i 0)) (fun j => rq (gt (costsN cols goal a) j - gt (row0 cols goal a) j)) 4 11 rfl sc_first_tableau.nd rfl rfl rfl it (blkOk_by rfl) (by rw [List.length_range, costsN_length]; show _ < sizeLine; unfold sizeLine; omega) rfl rfl rfl rfl (fun j hj X' hX => by
      obtain ⟨_, _, _, _, _, rfl⟩ := hX
      have hj := List.mem_range.mp hj
      have hj' := hj
      rw [costsN_length] at hj'
      exact (ev_call G_minus (hr.mono (by decide)) rfl (evA_cons (ev_v 11 rfl) (evA_cons (ev_ix (ev_v 8 rfl) (ev_v 4 rfl) (at_row (by rw [row0_length]; exact hj'))) evA_nil)) ⟨_, _, ((costsN_sz V a).gt hj).mono (by omega), ((row0_sz V a).gt (by rw [row0_length]; exact hj')).mono (by decide), rfl, rfl⟩)) (by decide) (by rintro _ ⟨⟩; exact h4) (by rintro _ ⟨⟩; exact h11)) ?_
    refine runs_nil ⟨c4, c5, c6, _, .va (rowD (row0 cols goal a)), c9, c10, c11, h4, h11, .inr ⟨by simp, rfl⟩, ?_⟩
    rw [List.length_append, ← ea]
    show _ = [_, _, _, _, _, _, _, C.ml ((costsN cols goal (a + 1)).map rq), _, _, _, _]
    rw [costsN]
    unfold mk
    rw [List.map_map]
    rfl
  rintro ρ' ⟨c4, c5, c6, c7, c8, c9, c10, c11, h4, h11, h7, rfl⟩
  rw [List.length_range] at h7
  rcases h7 with ⟨h7, _⟩ | ⟨_, rfl⟩
  · have := congrArg List.length h7
    simp at this
    rw [this] at hg0
    simp at hg0
  refine runs_for (List.range goal.length) nD (fun pre ρ => ∃ c4, c4.own = false ∧ ρ = [.va (colsD cols), .va (ivD goal), .va (nD goal.length), .va (rowsD (firstT cols goal).rows), c4, c5, c6, .ml ((zeroN cols goal pre.length).map rq), c8, c9, c10, c11]) .never rfl (itr_range1 (ev_v 2 rfl) (by omega) rfl T.range) ⟨c4, h4, rfl⟩ ?_ ?_
  · rintro pre a post ρ' hl ⟨c4, h4, rfl⟩
    obtain ⟨ea, ha⟩ := range_split hl
    rw [← ea] at ha ⊢
    refine ⟨_, _, (tg_name 4 sc_first_tableau.nd rfl (.inr rfl)), ?_⟩
    refine runs_step (run_setIx (c0 := .un) 7 (j := cols.length + a) rfl (.inl rfl) (ev_tup (evA_cons ev_int (evA_cons ev_int evA_nil))) (ev_op (ev_len (n := cols.length) (ev_v 0 rfl) (by simp [LenD, colsD]) rfl T.len) (ev_v 4 rfl) bop_add) rfl (by intro h; cases h) rfl rfl (by rw [List.length_map, zeroN_length]; exact ix_nat (by omega))) ?_
    refine runs_nil ⟨.va (nD a), rfl, ?_⟩
    rw [List.length_append, ← ea]
    show _ = [_, _, _, _, _, _, _, C.ml ((zeroN cols goal (a + 1)).map rq), _, _, _, _]
    rw [zeroN, List.map_set]
    rfl
  rintro ρ' ⟨c4, h4, rfl⟩
  rw [List.length_range]
  refine runs_ret (ev_tup (evA_cons (ev_v 3 rfl) (evA_cons (ev_vF 7 rfl) (evA_cons (ev_of_new (evN_map1 (List.range goal.length) nD (fun a => nD (cols.length + a)) 4 rfl sc_first_tableau.nd (itr_range1 (ev_v 2 rfl) (by omega) rfl T.range) (blkOk_by rfl) (by rw [List.length_range]; show _ < sizeLine; unfold sizeLine; omega) rfl rfl (fun a ha X' hX => by
    obtain ⟨_, _, _, _, _, rfl⟩ := hX
    exact (ev_op (ev_len (n := cols.length) (ev_v 0 rfl) (by simp [LenD, colsD]) rfl T.len) (ev_v 4 rfl) bop_add)) (by rintro _ ⟨⟩; exact h4))) evA_nil)))) (rt_eq ?_)
  unfold tabD nsD
  show D.tup [_, _, _] = D.tup [_, D.lst ((zeroN cols goal goal.length).map rq), D.lst (((List.range goal.length).map (cols.length + ·)).map nD)]
  rw [List.map_map]
  rfl
end
end K8
namespace K8
open PySem PySem.Spec PyProof.Rows L2
theorem at_zero {α : Type} {x : α} {xs : List α} : atI (x :: xs) 0 = some x := atI_nat (j := 0) rfl
def solD : Sol → D
  | .inl x => .tup [rowD x, .non]
  | .inr y => .tup [.non, rowD y]
section
variable {P : Program} {w : World} {K : PySem.W.Frag} {mg : Str → Option Value} {base : Heap}
theorem tabSz_of {cols : List (List Int)} {goal : List Int} (V : VC cols goal) (hh : goal.length = 2 ∨ goal.length = 3) {k : Nat} (hk : k ≤ lastK cols goal) : TabSz 10 (runT cols.length (firstT cols goal) k) := by
  obtain ⟨W, I⟩ := way hk
  obtain ⟨s1, s2⟩ := I.sizes hh (a := a0 cols goal) fun k _ j _ => ⟨rfl, V.a0 k j⟩
  constructor
  · intro r hr x hx
    obtain ⟨i, hi, e⟩ := List.mem_iff_getElem.mp hr
    obtain ⟨j, hj, rfl⟩ := mem_gt hx
    have hl := W.row r hr
    have hi' := hi
    rw [W.rows] at hi'
    have := s1 i hi' j (by omega)
    unfold Tab.T at this
    rw [List.getD_eq_getElem?_getD, List.getElem?_eq_getElem hi] at this
    rw [← e]
    exact this
  · intro x hx
    obtain ⟨j, hj, rfl⟩ := mem_gt hx
    rw [W.costs] at hj
    exact s2 j (by omega)
theorem sc_solve : FnScope ["columns", "goal", "rows", "costs", "basis", "at", "some", "found", "column", "told", "one"] ["columns", "goal"] (defScope s_solve) := ⟨rfl, rfl, rfl, by decide +kernel, rfl, by decide +kernel, by decide +kernel⟩
def R_solve (ds : List D) (d : D) : Prop := ∃ cols goal, VC cols goal ∧ (goal.length = 2 ∨ goal.length = 3) ∧ cols.length ≤ 90 ∧ ds = [colsD cols, ivD goal] ∧ d = solD (solF cols goal)
theorem ok_solve (T : Gb K mg) (A : DefAt K mg "solve" s_solve) (G_first_tableau : DefOk P w K mg base "first_tableau" 4 ["columns", "goal"] (spD K R_first_tableau)) (G_less : DefOk P w K mg base "less" 1 ["one", "other"] (spD K R_less)) (G_leaving : DefOk P w K mg base "leaving" 4 ["rows", "basis", "column"] (spD K R_leaving)) (G_turned : DefOk P w K mg base "turned" 5 ["rows", "costs", "basis", "row", "column"] (spD K R_turned)) (G_times : DefOk P w K mg base "times" 3 ["one", "other"] (spD K R_times)) (G_minus : DefOk P w K mg base "minus" 3 ["one", "other"] (spD K R_minus)) : DefOk P w K mg base "solve" 6 ["columns", "goal"] (spD K R_solve) := by
  refine fn_ok A sc_solve (by decide) (fun _ _ _ _ _ _ us hl => match us, hl with | [_, _], _ => rfl) (fun ds d h => by obtain ⟨_, _, _, _, _, rfl, _⟩ := h; rfl) ?_
  intro f cdv A' outer s H E hr ds d ⟨cols, goal, V, hh, hc, e1, e2⟩
  subst e1 e2
  have hn3 : goal.length ≤ 3 := by omega
  have sz0 : Sz 4000 (0 : Rat) := sz_int 0 4000 (by decide) (by decide)
  refine runs_step (run_asg (ev_call G_first_tableau (hr.mono (by decide)) rfl (evA_cons (ev_v 0 rfl) (evA_cons (ev_v 1 rfl) evA_nil)) ⟨cols, goal, V, hn3, by omega, hc, rfl, rfl⟩) (tg_tup rfl (tgs_cons (tg_name 2 sc_solve.nd rfl (.inl rfl)) (tgs_cons (tg_name 3 sc_solve.nd rfl (.inr rfl)) (tgs_cons (tg_name 4 sc_solve.nd rfl (.inl rfl)) tgs_nil))))) ?_
  refine runs_while (fun m ρ => ∃ k c5 c6, k ≤ lastK cols goal ∧ m = lastK cols goal - k ∧ c5.own = false ∧ ρ = [.va (colsD cols), .va (ivD goal), .va (rowsD (runT cols.length (firstT cols goal) k).rows), .va (rowD (runT cols.length (firstT cols goal) k).costs), .va (nsD (runT cols.length (firstT cols goal) k).basis), c5, c6, .un, .un, .un, .un]) .never ⟨0, .un, .un, by omega, rfl, rfl, rfl⟩ ?_
  rintro m ρ ⟨k, c5, c6, hk, hm, h5, rfl⟩
  refine ⟨true, _, (evB_val ev_bl), fun _ => ?_, fun hb => (Bool.noConfusion hb)⟩
  obtain ⟨W, I⟩ := way hk
  have S := tabSz_of V hh hk
  generalize ht : runT cols.length (firstT cols goal) k = t at *
  have hcl := W.costs
  refine runs_step (run_lc1 6 (List.range cols.length) nD (fun j => decide (gt t.costs j < 0)) nD 5 rfl sc_solve.nd rfl rfl rfl (itr_range1 (ev_len (n := cols.length) (ev_v 0 rfl) (by simp [LenD, colsD]) rfl T.len) (by omega) rfl T.range) (blkOk_by rfl) (by rw [List.length_range]; show _ < sizeLine; unfold sizeLine; omega) rfl rfl (fun a ha X' hX => by
    obtain ⟨_, _, _, _, _, rfl⟩ := hX
    have ha := List.mem_range.mp ha
    exact (evTs_one (evB_val (ev_call G_less (hr.mono (by decide)) rfl (evA_cons (ev_ix (ev_v 3 rfl) (ev_v 5 rfl) (at_row (by omega))) (evA_cons (ev_tup (evA_cons ev_int (evA_cons ev_int evA_nil))) evA_nil)) ⟨_, 0, (S.c.gt (by omega)).mono (by decide), sz0, rfl, rfl⟩)))) (fun a ha hb X' hX => by obtain ⟨_, _, _, _, _, rfl⟩ := hX; exact (ev_v 5 rfl)) (by rintro _ ⟨⟩; exact h5)) ?_
  change Runs _ _ [_, _, _, _, _, _, .ml ((negs cols.length t).map nD), _, _, _, _] _
  refine runs_if (evB_cmp (ev_vF 6 rfl) (ev_lst evA_nil) (cop_eqD (n := 1) hr (okn_lst (okn_map fun _ => okn_nD)) (okn_lst (by intro x hx; cases hx)))) (fun hb => ?_) (fun hb => ?_)
  · rw [beq_nil _ 0 (okn_map fun _ => okn_nD)] at hb
    have hne : negs cols.length t = [] := by simpa using hb
    have hkK : k = lastK cols goal := by
      rcases Nat.lt_or_ge k (lastK cols goal) with h | h
      · have := lastK_fin.2 k h
        rw [ht] at this
        exact absurd hne this
      · omega
    have htl : lastT cols goal = t := by rw [← ht, hkK]; rfl
    refine runs_break ?_
    show Runs _ _ _ _
    have hgl := getLastD_gt hcl
    refine runs_if (evB_cmp (ev_ix (ev_ix (ev_v 3 rfl) (ev_neg ev_int) (at_rowL (by omega))) ev_int (iop_tup rfl)) ev_int cop_eqI) (fun hb => ?_) (fun hb => ?_)
    · have hz : (lastT cols goal).costs.getLastD 0 = 0 := by
        rw [htl]
        exact Rat.num_eq_zero.mp (of_decide_eq_true hb)
      have es : solF cols goal = .inl (foundN cols.length t goal.length) := by
        unfold solF
        rw [if_pos hz, htl]
      rw [es]
      refine runs_setN 7 (evN_eq (c' := .ml ((foundN cols.length t 0).map rq)) (evN_rep (n := cols.length) (ev_lst (evA_cons (ev_tup (evA_cons ev_int (evA_cons ev_int evA_nil))) evA_nil)) (ev_len (n := cols.length) (ev_v 0 rfl) (by simp [LenD, colsD]) rfl T.len) (by show 1 * _ ≤ sizeLine; unfold sizeLine; omega) (by omega)) (by
        rw [rep_one, foundN, List.map_replicate]
        rfl)) rfl sc_solve.nd rfl (.inl rfl) ?_
      refine runs_for (List.range t.basis.length) (fun i => .tup [nD i, nD (t.basis.getD i 0)]) (fun pre ρ => ∃ c5 c8, ρ = [.va (colsD cols), .va (ivD goal), .va (rowsD t.rows), .va (rowD t.costs), .va (nsD t.basis), c5, .va (.lst ((negs cols.length t).map nD)), .ml ((foundN cols.length t pre.length).map rq), c8, .un, .un]) .never rfl (itr_enumLr nD t.basis 0 (ev_v 4 rfl) rfl T.enumerate) ⟨c5, .un, rfl⟩ ?_ ?_
      · rintro pre a post ρ' hl ⟨c5, c8, rfl⟩
        obtain ⟨ea, ha⟩ := range_split hl
        rw [← ea] at ha ⊢
        have ha' := ha
        rw [W.basis] at ha'
        have eN : (pre ++ [a]).length = a + 1 := by rw [List.length_append, ← ea]; rfl
        refine ⟨_, _, (tg_tup rfl (tgs_cons (tg_name 5 sc_solve.nd rfl (.inl rfl)) (tgs_cons (tg_name 8 sc_solve.nd rfl (.inl rfl)) tgs_nil))), ?_⟩
        refine runs_if (evB_cmp (ev_v 8 rfl) (ev_len (n := cols.length) (ev_v 0 rfl) (by simp [LenD, colsD]) rfl T.len) cop_lt) (fun hb => ?_) (fun hb => ?_)
        · have hlt : t.b a < cols.length := by
            have := of_decide_eq_true hb
            show t.basis.getD a 0 < _
            omega
          refine runs_step (run_setIx (c0 := .un) 7 (j := t.basis.getD a 0) rfl (.inl rfl) (ev_ix (ev_ix (ev_v 2 rfl) (ev_v 5 rfl) (iop_lst (at_map (d0 := []) (by rw [W.rows]; omega)))) (ev_neg ev_int) (at_rowL (by rw [W.rowlen ha']; omega))) (ev_v 8 rfl) rfl (by intro h; cases h) rfl rfl (by rw [List.length_map, foundN_length]; exact ix_nat hlt)) ?_
          repeat refine runs_nil ?_
          refine ⟨.va (nD a), .va (nD (t.basis.getD a 0)), ?_⟩
          rw [eN, foundN, if_pos hlt, List.map_set]
          rfl
        · have hlt : ¬ t.b a < cols.length := by
            have := of_decide_eq_false hb
            show ¬ t.basis.getD a 0 < _
            omega
          repeat refine runs_nil ?_
          refine ⟨.va (nD a), .va (nD (t.basis.getD a 0)), ?_⟩
          rw [eN, foundN, if_neg hlt]
          rfl
      rintro ρ' ⟨c5, c8, rfl⟩
      rw [List.length_range, W.basis]
      exact runs_ret (ev_tup (evA_cons (ev_vF 7 rfl) (evA_cons ev_non evA_nil))) (rt_eq rfl)
    · have hz : ¬ (lastT cols goal).costs.getLastD 0 = 0 := by
        rw [htl]
        intro z
        rw [z] at hb
        exact absurd hb (by decide)
      have es : solF cols goal = .inr (toldF cols goal t) := by
        unfold solF
        rw [if_neg hz, htl]
      rw [es]
      refine runs_nil ?_
      refine runs_setN 9 (evN_lst evA_nil) rfl sc_solve.nd rfl (.inl rfl) ?_
      refine runs_for (List.range goal.length) (fun i => .tup [nD i, .int (goal.getD i 0)]) (fun pre ρ => ∃ c5 c10, ρ = [.va (colsD cols), .va (ivD goal), .va (rowsD t.rows), .va (rowD t.costs), .va (nsD t.basis), c5, .va (.lst ((negs cols.length t).map nD)), .un, .un, .ml ((List.range pre.length).map fun k => rq ((sgn (goal.getD k 0) : Rat) * (1 - gt t.costs (cols.length + k)))), c10]) .never rfl (itr_enumLr D.int goal 0 (ev_v 1 rfl) rfl T.enumerate) ⟨c5, .un, rfl⟩ ?_ ?_
      · rintro pre a post ρ' hl ⟨c5, c10, rfl⟩
        obtain ⟨ea, ha⟩ := range_split hl
        rw [← ea] at ha ⊢
        refine ⟨_, _, (tg_tup rfl (tgs_cons (tg_name 5 sc_solve.nd rfl (.inl rfl)) (tgs_cons (tg_name 10 sc_solve.nd rfl (.inl rfl)) tgs_nil))), ?_⟩
        have szs : Sz 2 ((sgn (goal.getD a 0) : Int) : Rat) := sz_int _ 2 (by rw [sgn_abs]; decide) (by decide)
        have szc : Sz 10 (gt t.costs (cols.length + a)) := S.c.gt (by omega)
        have sz1 : Sz 1 (1 : Rat) := by unfold Sz; decide
        refine runs_step (run_app 9 rfl (.inl rfl) (ev_call G_times (hr.mono (by decide)) rfl (evA_cons (ev_eq (d' := rq ((sgn (goal.getD a 0) : Int) : Rat)) (ev_tup (evA_cons (ev_ifexpP (d := .int (sgn (goal.getD a 0))) (evB_cmp (ev_v 10 rfl) ev_int cop_lt) (fun h => ?_) (fun h => ?_)) (evA_cons ev_int evA_nil))) (rq_int _).symm) (evA_cons (ev_call G_minus (hr.mono (by decide)) rfl (evA_cons (ev_tup (evA_cons ev_int (evA_cons ev_int evA_nil))) (evA_cons (ev_ix (ev_v 3 rfl) (ev_op (ev_len (n := cols.length) (ev_v 0 rfl) (by simp [LenD, colsD]) rfl T.len) (ev_v 5 rfl) bop_add) (at_row (j := cols.length + a) (by omega))) evA_nil)) ⟨1, _, sz1.mono (by decide), szc.mono (by decide), rfl, rfl⟩) evA_nil)) ⟨_, _, szs.mono (by decide), (sz1.sub szc).mono (by decide), rfl, rfl⟩) rfl (by intro h; cases h) rfl rfl ?_) ?_
        · unfold sgn
          rw [if_pos (of_decide_eq_true h)]
          exact ev_neg ev_int
        · unfold sgn
          rw [if_neg (of_decide_eq_false h)]
          exact ev_int
        · rw [List.length_map, List.length_range]
          show _ < sizeLine
          unfold sizeLine
          omega
        refine runs_nil ⟨.va (nD a), .va (.int (goal.getD a 0)), ?_⟩
        rw [List.length_append, ← ea]
        show _ = [_, _, _, _, _, _, _, _, _, C.ml ((List.range (a + 1)).map fun k => rq ((sgn (goal.getD k 0) : Rat) * (1 - gt t.costs (cols.length + k)))), _]
        rw [List.range_succ, List.map_append]
        rfl
      rintro ρ' ⟨c5, c10, rfl⟩
      rw [List.length_range]
      refine runs_ret (ev_tup (evA_cons ev_non (evA_cons (ev_vF 9 rfl) evA_nil))) (rt_eq ?_)
      show D.tup [_, _] = D.tup [_, D.lst ((toldF cols goal t).map rq)]
      unfold toldF
      rw [List.map_map]
      rfl
  · rw [beq_nil _ 0 (okn_map fun _ => okn_nD)] at hb
    have hne : negs cols.length t ≠ [] := by
      intro z
      rw [z] at hb
      cases hb
    have hkK : k < lastK cols goal := by
      rcases Nat.lt_or_ge k (lastK cols goal) with h | h
      · exact h
      · have e : k = lastK cols goal := by omega
        have := lastK_fin (cols := cols) (goal := goal).1
        rw [← e, ht] at this
        exact absurd this hne
    obtain ⟨p, q, tl, x, eq, el, ep, en, hp, hq, hpq, _, _⟩ := next_piv W I hne
    rw [eq]
    refine runs_nil ?_
    refine runs_step (run_asg (ev_call G_turned (hr.mono (by decide)) rfl (evA_cons (ev_v 2 rfl) (evA_cons (ev_v 3 rfl) (evA_cons (ev_v 4 rfl) (evA_cons (ev_call G_leaving (hr.mono (by decide)) rfl (evA_cons (ev_v 2 rfl) (evA_cons (ev_v 4 rfl) (evA_cons (ev_ix (ev_v 6 rfl) ev_int (iop_lst at_zero)) evA_nil))) ⟨_, _, t, q, x, W, hq, S, by omega, el, rfl, rfl⟩) (evA_cons (ev_ix (ev_v 6 rfl) ev_int (iop_lst at_zero)) evA_nil))))) ⟨_, _, t, p, q, W, hp, hq, hpq, S, by omega, by rw [ep], rfl⟩) (tg_tup rfl (tgs_cons (tg_name 2 sc_solve.nd rfl (.inl rfl)) (tgs_cons (tg_name 3 sc_solve.nd rfl (.inr rfl)) (tgs_cons (tg_name 4 sc_solve.nd rfl (.inl rfl)) tgs_nil))))) ?_
    refine runs_nil ⟨lastK cols goal - (k + 1), by omega, k + 1, c5, .va (.lst ((q :: tl).map nD)), by omega, rfl, h5, ?_⟩
    have er : runT cols.length (firstT cols goal) (k + 1) = turnedT t p q := by
      show next _ (runT _ _ k) = _
      rw [ht, en]
    rw [er]
    rfl
end
end K8
/-! Books as data. -/
namespace K8
open PySem PySem.Spec PyProof.Rows L2
structure Bk where
  m : Nat
  rs : List Rule
def ruD (r : Rule) : D := .tup [wd r.1, wd r.2]
def bkD (b : Bk) : D := .tup [nD b.m, .tup (b.rs.map ruD)]
structure Ru (m : Nat) (r : Rule) : Prop where
  len : r.2.length = r.1.length
  l1 : 1 ≤ r.1.length
  l3 : r.1.length ≤ 3
  a : ∀ x ∈ r.1, x < m
  b : ∀ x ∈ r.2, x < m
  ne : r.1 ≠ r.2
structure BkOk (b : Bk) : Prop where
  m2 : 2 ≤ b.m
  m3 : b.m ≤ 3
  few : b.rs.length ≤ 12
  tot : (b.rs.map fun r => r.1.length).sum ≤ 12
  ru : ∀ r ∈ b.rs, Ru b.m r
  asc : b.rs.Pairwise fun r s => dlt (ruD r) (ruD s) = true
theorem okn_ruD {r : Rule} : D.okn 2 (ruD r) := okn_tup2 okn_wd okn_wd
theorem ruD_inj {a b : Rule} (h : ruD a = ruD b) : a = b := by
  unfold ruD at h
  injection h with h
  simp at h
  exact Prod.ext (wd_inj h.1) (wd_inj h.2)
theorem alike_ruD (a b : Rule) : PySem.W.alike (ruD a).py (ruD b).py = true := alike_two (alike_wd _ _) (alike_wd _ _)
theorem at_tup {α : Type} {X : Cx} {l : List α} {f : α → D} {i : Nat} {d0 : α} (h : i < l.length) : Iop X (.tup (l.map f)) (.int (i : Int)) (f (l.getD i d0)) := iop_tup (at_map h)
theorem at_wd {X : Cx} {w : List Nat} {i : Nat} (h : i < w.length) : Iop X (wd w) (.int (i : Int)) (nD (w.getD i 0)) := at_tup h
theorem at_rules {X : Cx} {b : Bk} {i : Nat} (h : i < b.rs.length) : Iop X (.tup (b.rs.map ruD)) (.int (i : Int)) (ruD (b.rs.getD i ([], []))) := at_tup h
/-- enumerate of a tuple -/
theorem itr_enumTr {α : Type} {X : Cx} {e : Expr} {p pos tpos : Pos} {ρ ρ1 : List C} {elts : List Expr} {kk : Nat} (f : α → D) (l : List α) (d0 : α) (h : Ev X e ρ (.tup (l.map f)) ρ1) (hg : Gl X "enumerate") (hm : X.mg "enumerate" = none) (hs : starEach [e] X.env = [(false, eval e X.env)] := by rfl) :
    Itr' X (.Tuple elts kk tpos) (.Call (.Name "enumerate" p) [e] [] pos) ρ ((List.range l.length).map fun i => .tup [nD i, f (l.getD i d0)]) ρ1 := itr_eq (itr_enumT h hg hm hs) (enumD_range f l d0)
end K8
/-! Books: the judging of books and words. -/
namespace K8
open PySem PySem.Spec PyProof.Rows L2
section
variable {P : Program} {w : World} {K : PySem.W.Frag} {mg : Str → Option Value} {base : Heap}
theorem sc_is_row : FnScope ["value", "many", "one"] ["value", "many"] (defScope s_is_row) := ⟨rfl, rfl, rfl, by decide +kernel, rfl, by decide +kernel, by decide +kernel⟩
def R_is_row (ds : List D) (d : D) : Prop := ∃ (u : List Nat) (m : Nat), (∀ x ∈ u, x < m) ∧ u.length ≤ 100 ∧ ds = [wd u, nD m] ∧ d = .bl true
theorem ok_is_row (T : Gb K mg) (A : DefAt K mg "is_row" s_is_row) (G_is_in : DefOk P w K mg base "is_in" 1 ["value", "least", "most"] (spD K R_is_in)) : DefOk P w K mg base "is_row" 2 ["value", "many"] (spD K R_is_row) := by
  refine fn_ok A sc_is_row (by decide) (fun _ _ _ _ _ _ us hl => match us, hl with | [_, _], _ => rfl) (fun ds d h => by obtain ⟨_, _, _, _, rfl, _⟩ := h; rfl) ?_
  intro f cdv A' outer s H E hr ds d ⟨u, m, hu, hul, e1, e2⟩
  subst e1 e2
  refine runs_ret (ev_and (k1 := true) (ev_isi (ev_v 0 rfl) (ev_ty (n := "tuple") rfl T.tuple (by decide +kernel)) rfl rfl rfl T.isinstance) fun h => (ev_one (ev_cmp (ev_of_new (evN_lc1 u nD (fun x => !(decide ((0 : Int) ≤ (x : Int)) && decide ((x : Int) ≤ (m : Int) - 1))) nD 2 rfl sc_is_row.nd (itr_tup (ev_v 0 rfl)) (blkOk_by rfl) (by show _ < sizeLine; unfold sizeLine; omega) rfl rfl (fun a ha X' hX => by
    obtain ⟨_, _, _, _, _, rfl⟩ := hX
    exact (evTs_one (evB_not (evB_val (ev_call G_is_in (hr.mono (by decide)) rfl (evA_cons (ev_v 2 rfl) (evA_cons ev_int (evA_cons (ev_op (ev_v 1 rfl) ev_int bop_sub) evA_nil))) ⟨_, _, _, rfl, rfl⟩))))) (fun a ha hb X' hX => by obtain ⟨_, _, _, _, _, rfl⟩ := hX; exact (ev_v 2 rfl)) (by rintro _ ⟨⟩; rfl))) (ev_lst evA_nil) (cop_eqD (n := 1) hr (okn_lst (okn_map fun _ => okn_nD)) (okn_lst (by intro x hx; cases hx)))))) (rt_eq ?_)
  rw [beq_nil _ 0 (okn_map fun _ => okn_nD)]
  have : u.filter (fun x : Nat => !(decide ((0 : Int) ≤ (x : Int)) && decide ((x : Int) ≤ (m : Int) - 1))) = [] := by
    rw [List.filter_eq_nil_iff]
    intro x hx
    have := hu x hx
    simp
    omega
  rw [this]
  rfl
theorem sc_is_rule : FnScope ["value", "many"] ["value", "many"] (defScope s_is_rule) := ⟨rfl, rfl, rfl, by decide +kernel, rfl, by decide +kernel, by decide +kernel⟩
def R_is_rule (ds : List D) (d : D) : Prop := ∃ (r : Rule) (m : Nat), Ru m r ∧ ds = [ruD r, nD m] ∧ d = .bl true
theorem ok_is_rule (T : Gb K mg) (A : DefAt K mg "is_rule" s_is_rule) (G_is_row : DefOk P w K mg base "is_row" 2 ["value", "many"] (spD K R_is_row)) : DefOk P w K mg base "is_rule" 3 ["value", "many"] (spD K R_is_rule) := by
  refine fn_ok A sc_is_rule (by decide) (fun _ _ _ _ _ _ us hl => match us, hl with | [_, _], _ => rfl) (fun ds d h => by obtain ⟨_, _, _, rfl, _⟩ := h; rfl) ?_
  intro f cdv A' outer s H E hr ds d ⟨r, m, U, e1, e2⟩
  subst e1 e2
  have h3 := U.l3
  have hl := U.len
  refine runs_if (PW.pt (evW_or (evB_not (evB_val (ev_isi (ev_v 0 rfl) (ev_ty (n := "tuple") rfl T.tuple (by decide +kernel)) rfl rfl rfl T.isinstance))) fun h => (evW_or (evB_cmp (ev_len (n := 2) (ev_v 0 rfl) rfl rfl T.len) ev_int cop_neI) fun h => (evW_or (evB_not (evB_val (ev_call G_is_row (hr.mono (by decide)) rfl (evA_cons (ev_ix (d := wd r.1) (ev_v 0 rfl) ev_int (iop_tup rfl)) (evA_cons (ev_v 1 rfl) evA_nil)) ⟨r.1, m, U.a, by omega, rfl, rfl⟩))) fun h => (evW_or1 (evB_not (evB_val (ev_call G_is_row (hr.mono (by decide)) rfl (evA_cons (ev_ix (d := wd r.2) (ev_v 0 rfl) ev_int (iop_tup rfl)) (evA_cons (ev_v 1 rfl) evA_nil)) ⟨r.2, m, U.b, by omega, rfl, rfl⟩)))))))) (fun hb => absurd hb (by decide)) (fun hb => ?_)
  refine runs_nil ?_
  refine runs_ret (ev_and (ev_chain ev_int (ev_len (n := r.1.length) (ev_ix (d := wd r.1) (ev_v 0 rfl) ev_int (iop_tup rfl)) (by simp [LenD, wd]) rfl T.len) (ev_gint rfl T.mo) cop_le cop_le) fun h => (ev_and (ev_cmp (ev_len (n := r.2.length) (ev_ix (d := wd r.2) (ev_v 0 rfl) ev_int (iop_tup rfl)) (by simp [LenD, wd]) rfl T.len) (ev_len (n := r.1.length) (ev_ix (d := wd r.1) (ev_v 0 rfl) ev_int (iop_tup rfl)) (by simp [LenD, wd]) rfl T.len) cop_eqI) fun h => (ev_one (ev_cmp (ev_ix (d := wd r.1) (ev_v 0 rfl) ev_int (iop_tup rfl)) (ev_ix (d := wd r.2) (ev_v 0 rfl) ev_int (iop_tup rfl)) (cop_neD (n := 1) hr okn_wd okn_wd))))) (rt_eq ?_)
  rw [beq_dec (fun a => okn_wd (w := a) (k := 0)) (fun a b => wd_inj)]
  have h1 := U.l1
  have hne := U.ne
  simp only [D.bl.injEq, Bool.and_eq_true, decide_eq_true_eq, Bool.not_eq_true', decide_eq_false_iff_not]
  exact ⟨⟨by omega, by omega⟩, by omega, hne⟩
theorem sc_need_book : FnScope ["book", "index", "one"] ["book"] (defScope s_need_book) := ⟨rfl, rfl, rfl, by decide +kernel, rfl, by decide +kernel, by decide +kernel⟩
def R_need_book (ds : List D) (d : D) : Prop := ∃ b, BkOk b ∧ ds = [bkD b] ∧ d = .non
theorem ok_need_book (T : Gb K mg) (A : DefAt K mg "need_book" s_need_book) (G_is_in : DefOk P w K mg base "is_in" 1 ["value", "least", "most"] (spD K R_is_in)) (G_is_rule : DefOk P w K mg base "is_rule" 3 ["value", "many"] (spD K R_is_rule)) : DefOk P w K mg base "need_book" 4 ["book"] (spD K R_need_book) := by
  refine fn_ok A sc_need_book (by decide) (fun _ _ _ _ _ _ us hl => match us, hl with | [_], _ => rfl) (fun ds d h => by obtain ⟨_, _, rfl, _⟩ := h; rfl) ?_
  intro f cdv A' outer s H E hr ds d ⟨b, B, e1, e2⟩
  subst e1 e2
  have m2 := B.m2
  have m3 := B.m3
  have few := B.few
  refine runs_if (PW.pt (evW_or (evB_not (evB_val (ev_isi (ev_v 0 rfl) (ev_ty (n := "tuple") rfl T.tuple (by decide +kernel)) rfl rfl rfl T.isinstance))) fun h => (evW_or (evB_cmp (ev_len (n := 2) (ev_v 0 rfl) rfl rfl T.len) ev_int cop_neI) fun h => (evW_or1 (evB_not (evB_val (ev_call G_is_in (hr.mono (by decide)) rfl (evA_cons (ev_ix (d := nD b.m) (ev_v 0 rfl) ev_int (iop_tup rfl)) (evA_cons ev_int (evA_cons (ev_gint rfl T.ml) evA_nil))) ⟨_, _, _, rfl, rfl⟩))))))) (fun hb => ?_) (fun hb => ?_)
  · simp at hb
    omega
  refine runs_nil ?_
  refine runs_if (PW.pt (evW_or (evB_not (evB_val (ev_isi (ev_ix (d := .tup (b.rs.map ruD)) (ev_v 0 rfl) ev_int (iop_tup rfl)) (ev_ty (n := "tuple") rfl T.tuple (by decide +kernel)) rfl rfl rfl T.isinstance))) fun h => (evW_or1 (evB_cmp (ev_len (n := b.rs.length) (ev_ix (d := .tup (b.rs.map ruD)) (ev_v 0 rfl) ev_int (iop_tup rfl)) (by simp [LenD]) rfl T.len) (ev_gint rfl T.mr) cop_gt)))) (fun hb => ?_) (fun hb => ?_)
  · simp at hb
    omega
  refine runs_nil ?_
  refine runs_for (List.range b.rs.length) (fun i => .tup [nD i, ruD (b.rs.getD i ([], []))]) (fun pre ρ => ∃ c1 c2, ρ = [.va (bkD b), c1, c2]) .never rfl (itr_enumTr ruD b.rs ([], []) (ev_ix (d := .tup (b.rs.map ruD)) (ev_v 0 rfl) ev_int (iop_tup rfl)) rfl T.enumerate) ⟨.un, .un, rfl⟩ ?_ ?_
  · rintro pre a post ρ' hl ⟨c1, c2, rfl⟩
    obtain ⟨ea, ha⟩ := range_split hl
    rw [← ea] at ha
    have U := B.ru _ (getD_mem (d0 := ([], [])) ha)
    refine ⟨_, _, (tg_tup rfl (tgs_cons (tg_name 1 sc_need_book.nd rfl (.inl rfl)) (tgs_cons (tg_name 2 sc_need_book.nd rfl (.inl rfl)) tgs_nil))), ?_⟩
    by_cases a0 : a = 0
    · refine runs_if (PW.pt (evW_or (evB_not (evB_val (ev_call G_is_rule (hr.mono (by decide)) rfl (evA_cons (ev_v 2 rfl) (evA_cons (ev_ix (d := nD b.m) (ev_v 0 rfl) ev_int (iop_tup rfl)) evA_nil)) ⟨_, _, U, rfl, rfl⟩))) fun h => (evW_or1 (PW.pt (evW_and (k2 := true) (evB_cmp (ev_v 1 rfl) ev_int cop_gt) fun h => ?_))))) (fun hb => ?_) (fun hb => ?_)
      · subst a0
        exact absurd h (by decide)
      · subst a0
        exact absurd hb (by decide)
      · exact runs_nil (runs_nil ⟨_, _, rfl⟩)
    · have hp : a - 1 < b.rs.length := by omega
      have em : (a : Int) - 1 = ((a - 1 : Nat) : Int) := by omega
      refine runs_if (PW.pt (evW_or (evB_not (evB_val (ev_call G_is_rule (hr.mono (by decide)) rfl (evA_cons (ev_v 2 rfl) (evA_cons (ev_ix (d := nD b.m) (ev_v 0 rfl) ev_int (iop_tup rfl)) evA_nil)) ⟨_, _, U, rfl, rfl⟩))) fun h => (evW_or1 (PW.pt (evW_and (evB_cmp (ev_v 1 rfl) ev_int cop_gt) fun h => (evW_and1 (evB_cmp (ev_v 2 rfl) (ev_ix (ev_ix (d := .tup (b.rs.map ruD)) (ev_v 0 rfl) ev_int (iop_tup rfl)) (ev_op (ev_v 1 rfl) ev_int bop_sub) (em ▸ at_rules hp)) (cop_leD (n := 2) hr okn_ruD okn_ruD (alike_ruD _ _) (by intro h; cases h))))))))) (fun hb => ?_) (fun hb => ?_)
      · have lt : dlt (ruD (b.rs.getD (a - 1) ([], []))) (ruD (b.rs.getD a ([], []))) = true := by
          have := List.pairwise_iff_getElem.mp B.asc (a - 1) a hp ha (by omega)
          rw [List.getD_eq_getElem?_getD, List.getD_eq_getElem?_getD, List.getElem?_eq_getElem hp, List.getElem?_eq_getElem ha]
          exact this
        rw [lt] at hb
        simp at hb
      · exact runs_nil (runs_nil ⟨_, _, rfl⟩)
  rintro ρ' ⟨c1, c2, rfl⟩
  exact runs_nil (.inr ⟨rfl, _, rfl⟩)
theorem sc_need_word : FnScope ["book", "word", "most", "index", "one"] ["book", "word", "most"] (defScope s_need_word) := ⟨rfl, rfl, rfl, by decide +kernel, rfl, by decide +kernel, by decide +kernel⟩
def R_need_word (ds : List D) (d : D) : Prop := ∃ (b : Bk) (u : List Nat) (k : Nat), (∀ x ∈ u, x < b.m) ∧ u.length ≤ k ∧ ds = [bkD b, wd u, nD k] ∧ d = .non
theorem ok_need_word (T : Gb K mg) (A : DefAt K mg "need_word" s_need_word) (G_is_in : DefOk P w K mg base "is_in" 1 ["value", "least", "most"] (spD K R_is_in)) : DefOk P w K mg base "need_word" 2 ["book", "word", "most"] (spD K R_need_word) := by
  refine fn_ok A sc_need_word (by decide) (fun _ _ _ _ _ _ us hl => match us, hl with | [_, _, _], _ => rfl) (fun ds d h => by obtain ⟨_, _, _, _, _, rfl, _⟩ := h; rfl) ?_
  intro f cdv A' outer s H E hr ds d ⟨b, u, k, hu, hk, e1, e2⟩
  subst e1 e2
  refine runs_if (PW.pt (evW_or (evB_not (evB_val (ev_isi (ev_v 1 rfl) (ev_ty (n := "tuple") rfl T.tuple (by decide +kernel)) rfl rfl rfl T.isinstance))) fun h => (evW_or1 (evB_cmp (ev_len (n := u.length) (ev_v 1 rfl) (by simp [LenD, wd]) rfl T.len) (ev_v 2 rfl) cop_gt)))) (fun hb => ?_) (fun hb => ?_)
  · simp at hb
    omega
  refine runs_nil ?_
  refine runs_for (List.range u.length) (fun i => .tup [nD i, nD (u.getD i 0)]) (fun pre ρ => ∃ c1 c2, ρ = [.va (bkD b), .va (wd u), .va (nD k), c1, c2]) .never rfl (itr_enumTr nD u 0 (ev_v 1 rfl) rfl T.enumerate) ⟨.un, .un, rfl⟩ ?_ ?_
  · rintro pre a post ρ' hl ⟨c1, c2, rfl⟩
    obtain ⟨ea, ha⟩ := range_split hl
    rw [← ea] at ha
    have hx := hu _ (getD_mem (d0 := 0) ha)
    refine ⟨_, _, (tg_tup rfl (tgs_cons (tg_name 3 sc_need_word.nd rfl (.inl rfl)) (tgs_cons (tg_name 4 sc_need_word.nd rfl (.inl rfl)) tgs_nil))), ?_⟩
    refine runs_if (evB_not (evB_val (ev_call G_is_in (hr.mono (by decide)) rfl (evA_cons (ev_v 4 rfl) (evA_cons ev_int (evA_cons (ev_op (ev_ix (d := nD b.m) (ev_v 0 rfl) ev_int (iop_tup rfl)) ev_int bop_sub) evA_nil))) ⟨_, _, _, rfl, rfl⟩))) (fun hb => ?_) (fun hb => ?_)
    · simp only [Bool.not_eq_true', Bool.and_eq_false_imp, decide_eq_true_eq, decide_eq_false_iff_not] at hb
      omega
    · exact runs_nil (runs_nil ⟨_, _, rfl⟩)
  rintro ρ' ⟨c1, c2, rfl⟩
  exact runs_nil (.inr ⟨rfl, _, rfl⟩)
end
end K8
/-! Books: spots, steps, falls, changes. -/
namespace K8
open PySem PySem.Spec PyProof.Rows L2
section
variable {P : Program} {w : World} {K : PySem.W.Frag} {mg : Str → Option Value} {base : Heap}
theorem sc_spots_of : FnScope ["left", "word", "found", "letter", "more", "line", "first", "at"] ["left", "word"] (defScope s_spots_of) := ⟨rfl, rfl, rfl, by decide +kernel, rfl, by decide +kernel, by decide +kernel⟩
def R_spots_of (ds : List D) (d : D) : Prop := ∃ left u : List Nat, left.length ≤ 3 ∧ u.length ≤ 20 ∧ ds = [wd left, wd u] ∧ d = .lst ((spotsF left u).map wd)
theorem ok_spots_of (T : Gb K mg) (A : DefAt K mg "spots_of" s_spots_of) : DefOk P w K mg base "spots_of" 1 ["left", "word"] (spD K R_spots_of) := by
  refine fn_ok A sc_spots_of (by decide) (fun _ _ _ _ _ _ us hl => match us, hl with | [_, _], _ => rfl) (fun ds d h => by obtain ⟨_, _, _, _, rfl, _⟩ := h; rfl) ?_
  intro f cdv A' outer s H E hr ds d ⟨left, u, h3, hu, e1, e2⟩
  subst e1 e2
  refine runs_set 2 (ev_lst (evA_cons (ev_tup evA_nil) evA_nil)) sc_spots_of.nd rfl (.inl rfl) ?_
  refine runs_for left nD (fun pre ρ => ∃ c3 c4 c5 c6 c7, c7.own = false ∧ ρ = [.va (wd left), .va (wd u), .va (.lst ((spotsF pre u).map wd)), c3, c4, c5, c6, c7]) .never rfl (itr_tup (ev_v 0 rfl)) ⟨.un, .un, .un, .un, .un, rfl, rfl⟩ ?_ ?_
  · rintro pre x post ρ' hl ⟨c3, c4, c5, c6, c7, h7, rfl⟩
    have hpre : pre.length + 1 ≤ 3 := by
      rw [hl] at h3
      simp at h3
      omega
    have bound : ∀ q : List (List Nat), q.length ≤ (spotsF pre u).length → (q.flatMap (spotLine u x)).length ≤ 8000 := fun q hq => by
      refine Nat.le_trans (flatMap_length (fun a => spotLine_length u x a) q) ?_
      have := spotsF_length u _ pre rfl
      refine Nat.le_trans (Nat.mul_le_mul (Nat.le_trans hq this) hu) ?_
      refine Nat.le_trans (Nat.mul_le_mul_right _ (Nat.pow_le_pow_left hu _)) ?_
      rw [← Nat.pow_succ]
      exact Nat.le_trans (Nat.pow_le_pow_right (by decide) hpre) (by decide)
    refine ⟨_, _, (tg_name 3 sc_spots_of.nd rfl (.inr rfl)), ?_⟩
    refine runs_set 4 (ev_lst evA_nil) sc_spots_of.nd rfl (.inl rfl) ?_
    refine runs_for (spotsF pre u) wd (fun q ρ => ∃ c5 c6 c7, c7.own = false ∧ ρ = [.va (wd left), .va (wd u), .va (.lst ((spotsF pre u).map wd)), .va (nD x), .va (.lst ((q.flatMap (spotLine u x)).map wd)), c5, c6, c7]) .never rfl (itr_lst (ev_v 2 rfl)) ⟨c5, c6, c7, h7, rfl⟩ ?_ ?_
    · rintro q line rest ρ' hl2 ⟨c5, c6, c7, h7, rfl⟩
      have hq : q.length + 1 ≤ (spotsF pre u).length := by
        rw [hl2]
        simp
      refine ⟨_, _, (tg_name 5 sc_spots_of.nd rfl (.inr rfl)), ?_⟩
      refine runs_set 6 (d := nD (firstOf line)) (ev_ifexpP (evB_cmp (ev_v 5 rfl) (ev_tup evA_nil) (cop_neD (n := 1) hr okn_wd (okn_tup (by intro x hx; cases hx)))) (fun h => ?_) (fun h => ?_)) sc_spots_of.nd rfl (.inl rfl) ?_
      · have hne : line ≠ [] := by
          rw [show wd line = .tup (line.map nD) from rfl, beq_nilT _ 0 (okn_map fun _ => okn_nD)] at h
          intro z
          rw [z] at h
          cases h
        unfold firstOf
        rw [if_neg hne]
        exact ev_op (ev_ix (ev_v (d := wd line) 5 rfl) (ev_neg ev_int) (iop_tup (at_last (d0 := 0) (List.length_pos_iff.mpr hne)))) ev_int bop_add
      · have hne : line = [] := by
          rw [show wd line = .tup (line.map nD) from rfl, beq_nilT _ 0 (okn_map fun _ => okn_nD)] at h
          simpa using h
        unfold firstOf
        rw [if_pos hne]
        exact ev_int
      have sp : IsSpot pre u line := (mem_spots rfl).mp (by rw [hl2]; simp)
      have hfirst := firstOf_le sp.inb
      have hll := sp.len
      refine runs_set 4 (ev_op (ev_v 4 rfl) (ev_of_new (evN_lc1 (List.range (u.length - firstOf line)) (fun i => nD (firstOf line + i)) (fun i => decide (u.getD (firstOf line + i) 0 = x)) (fun i => wd (line ++ [firstOf line + i])) 7 rfl sc_spots_of.nd (itr_range2 (n := u.length) (ev_v 6 rfl) (ev_len (n := u.length) (ev_v 1 rfl) (by simp [LenD, wd]) rfl T.len) (by omega) (by omega) rfl T.range) (blkOk_by rfl) (by rw [List.length_range]; show _ < sizeLine; unfold sizeLine; omega) rfl rfl (fun a ha X' hX => by
          obtain ⟨_, _, _, _, _, rfl⟩ := hX
          have ha := List.mem_range.mp ha
          have e : decide (u.getD (firstOf line + a) 0 = x) = decide (((u.getD (firstOf line + a) 0 : Nat) : Int) = (x : Int)) := by
            apply decide_eq_decide.mpr
            omega
          rw [e]
          exact (evTs_one (evB_cmp (ev_ix (ev_v 1 rfl) (ev_v 7 rfl) (at_wd (by omega))) (ev_v 3 rfl) cop_eqI))) (fun a ha hb X' hX => by
          obtain ⟨_, _, _, _, _, rfl⟩ := hX
          have e : wd (line ++ [firstOf line + a]) = .tup (line.map nD ++ [nD (firstOf line + a)]) := by
            unfold wd
            rw [List.map_append]
            rfl
          rw [e]
          refine (ev_op (ev_v 5 rfl) (ev_tup (evA_cons (ev_v 7 rfl) evA_nil)) (bop_catT ?_))
          rw [List.length_map]
          show _ + 1 ≤ sizeLine
          unfold sizeLine
          omega) (by rintro _ ⟨⟩; exact h7))) (bop_cat ?_)) sc_spots_of.nd rfl (.inl rfl) ?_
      · have h1 := bound q (by omega)
        have h2 := Nat.le_trans (List.length_filter_le (fun i => decide (u.getD (firstOf line + i) 0 = x)) (List.range (u.length - firstOf line))) (Nat.le_of_eq List.length_range)
        rw [List.length_map, List.length_map]
        show _ ≤ sizeLine
        unfold sizeLine
        omega
      refine runs_nil ⟨.va (wd line), .va (nD (firstOf line)), c7, h7, ?_⟩
      have e : D.lst ((q.flatMap (spotLine u x)).map wd ++ ((List.range (u.length - firstOf line)).filter fun i => decide (u.getD (firstOf line + i) 0 = x)).map fun i => wd (line ++ [firstOf line + i])) = .lst (((q ++ [line]).flatMap (spotLine u x)).map wd) := by
        rw [List.flatMap_append, List.map_append]
        congr 2
        show _ = ([line].flatMap (spotLine u x)).map wd
        rw [List.flatMap_cons, List.flatMap_nil, List.append_nil]
        unfold spotLine
        rw [List.map_map]
        rfl
      rw [← e]
      rfl
    rintro ρ' ⟨c5, c6, c7, h7, rfl⟩
    refine runs_set 2 (ev_v 4 rfl) sc_spots_of.nd rfl (.inl rfl) (runs_nil ⟨.va (nD x), .va (.lst (((spotsF pre u).flatMap (spotLine u x)).map wd)), c5, c6, c7, h7, ?_⟩)
    rw [spotsF_snoc]
    rfl
  rintro ρ' ⟨c3, c4, c5, c6, c7, h7, rfl⟩
  exact runs_ret (ev_v 2 rfl) (rt_eq rfl)

def longF (b : Bk) : Nat := b.rs.foldl (fun n r => max n r.1.length) 0
theorem foldl_max (rs : List Rule) : ∀ n, n ≤ rs.foldl (fun n r => max n r.1.length) n ∧ (∀ r ∈ rs, r.1.length ≤ rs.foldl (fun n r => max n r.1.length) n) ∧ (rs.foldl (fun n r => max n r.1.length) n = n ∨ ∃ r ∈ rs, rs.foldl (fun n r => max n r.1.length) n = r.1.length) := by
  induction rs with
  | nil => exact fun n => ⟨Nat.le_refl _, fun r hr => (by cases hr), .inl rfl⟩
  | cons a rs ih =>
    intro n
    rw [List.foldl_cons]
    obtain ⟨h1, h2, h3⟩ := ih (max n a.1.length)
    refine ⟨by omega, fun r hr => ?_, ?_⟩
    · rcases List.mem_cons.mp hr with rfl | hr
      · omega
      · exact h2 r hr
    · rcases h3 with h3 | ⟨r, hr, h3⟩
      · by_cases z : n ≤ a.1.length
        · exact .inr ⟨a, List.mem_cons_self, by omega⟩
        · exact .inl (by omega)
      · exact .inr ⟨r, List.mem_cons_of_mem _ hr, h3⟩
theorem longF_ge {b : Bk} {r : Rule} (h : r ∈ b.rs) : r.1.length ≤ longF b := (foldl_max b.rs 0).2.1 r h
theorem longF_le {b : Bk} (B : BkOk b) : longF b ≤ 3 := by
  rcases (foldl_max b.rs 0).2.2 with h | ⟨r, hr, h⟩
  · show b.rs.foldl _ 0 ≤ 3
    omega
  · have := (B.ru r hr).l3
    show b.rs.foldl _ 0 ≤ 3
    omega
theorem sc_longest_rule : FnScope ["book", "left", "right"] ["book"] (defScope s_longest_rule) := ⟨rfl, rfl, rfl, by decide +kernel, rfl, by decide +kernel, by decide +kernel⟩
def R_longest_rule (ds : List D) (d : D) : Prop := ∃ b, BkOk b ∧ ds = [bkD b] ∧ d = nD (longF b)
theorem ok_longest_rule (T : Gb K mg) (A : DefAt K mg "longest_rule" s_longest_rule) : DefOk P w K mg base "longest_rule" 1 ["book"] (spD K R_longest_rule) := by
  refine fn_ok A sc_longest_rule (by decide) (fun _ _ _ _ _ _ us hl => match us, hl with | [_], _ => rfl) (fun ds d h => by obtain ⟨_, _, rfl, _⟩ := h; rfl) ?_
  intro f cdv A' outer s H E hr ds d ⟨b, B, e1, e2⟩
  subst e1 e2
  have few := B.few
  obtain ⟨h1, h2, h3⟩ := foldl_max b.rs 0
  refine runs_ret (ev_max (ns := (0 : Int) :: b.rs.map fun r => (r.1.length : Int)) (m := (longF b : Int)) (ev_eq (ev_op (ev_lst (evA_cons ev_int evA_nil)) (ev_of_new (evN_map2 b.rs (fun r => wd r.1) (fun r => wd r.2) (fun r => nD r.1.length) 1 2 rfl sc_longest_rule.nd (itr_tup (ds := b.rs.map ruD) (ev_ix (d := .tup (b.rs.map ruD)) (ev_v 0 rfl) ev_int (iop_tup rfl))) (blkOk_by rfl) (by show _ < sizeLine; unfold sizeLine; omega) rfl rfl rfl rfl (fun r hr X' hX => by
    obtain ⟨_, _, _, _, _, rfl⟩ := hX
    exact (ev_len (n := r.1.length) (ev_v (d := wd r.1) 1 rfl) (by simp [LenD, wd]) rfl T.len)) (by decide) (by rintro _ ⟨⟩; rfl) (by rintro _ ⟨⟩; rfl))) (bop_cat (by
      rw [List.length_map]
      show 1 + _ ≤ sizeLine
      unfold sizeLine
      omega))) (by rw [List.map_cons, List.map_map]; rfl)) ?_ ?_ rfl rfl T.max) (rt_eq rfl)
  · rcases h3 with h3 | ⟨r, hr, h3⟩
    · have : (longF b : Int) = 0 := by
        show ((b.rs.foldl _ 0 : Nat) : Int) = 0
        omega
      rw [this]
      exact List.mem_cons_self
    · refine List.mem_cons_of_mem _ (List.mem_map.mpr ⟨r, hr, ?_⟩)
      show (r.1.length : Int) = ((b.rs.foldl _ 0 : Nat) : Int)
      rw [h3]
  · intro y hy
    rcases List.mem_cons.mp hy with rfl | hy
    · omega
    · obtain ⟨r, hr, rfl⟩ := List.mem_map.mp hy
      have := longF_ge hr
      omega
theorem zipD_map (a b : List Nat) : zipD (a.map nD) (b.map nD) = (a.zip b).map fun p => .tup [nD p.1, nD p.2] := by
  unfold zipD
  rw [List.zip_map, List.map_map]
  rfl
theorem itr_zipW {X : Cx} {a b : Expr} {p pos tpos : Pos} {ρ ρ1 ρ2 : List C} {elts : List Expr} {kk : Nat} {u v : List Nat} (ha : Ev X a ρ (wd u) ρ1) (hb : Ev X b ρ1 (wd v) ρ2) (hg : Gl X "zip") (hm : X.mg "zip" = none)
    (hs : starEach [a, b] X.env = (false, eval a X.env) :: starEach [b] X.env := by rfl) (hs2 : starEach [b] X.env = (false, eval b X.env) :: starEach [] X.env := by rfl) (hpl : (backTo pos (starEach [b] X.env)).any (·.1) = false := by rfl) :
    Itr' X (.Tuple elts kk tpos) (.Call (.Name "zip" p) [a, b] [] pos) ρ ((u.zip v).map fun p => .tup [nD p.1, nD p.2]) ρ2 := itr_eq (itr_zip ha hb (.inr ⟨rfl, rfl⟩) hg hm hs hs2 hpl) (zipD_map u v)
/-- how much each place falls -/
def fallL (ws : List Int) (r : Rule) : List Int := (r.1.zip r.2).map fun p => ws.getD p.1 0 - ws.getD p.2 0
def fallsF (b : Bk) (ws : List Int) : List (List Int) := b.rs.map (fallL ws)
theorem sc_falls : FnScope ["book", "weights", "found", "left", "right", "one", "other"] ["book", "weights"] (defScope s_falls) := ⟨rfl, rfl, rfl, by decide +kernel, rfl, by decide +kernel, by decide +kernel⟩
def R_falls (ds : List D) (d : D) : Prop := ∃ b ws, BkOk b ∧ ws.length = b.m ∧ ds = [bkD b, .tup (ws.map D.int)] ∧ d = .lst ((fallsF b ws).map ivD)
theorem zip_mem {u v : List Nat} {p : Nat × Nat} (h : p ∈ u.zip v) : p.1 ∈ u ∧ p.2 ∈ v := List.of_mem_zip h
theorem ok_falls (T : Gb K mg) (A : DefAt K mg "falls" s_falls) : DefOk P w K mg base "falls" 1 ["book", "weights"] (spD K R_falls) := by
  refine fn_ok A sc_falls (by decide) (fun _ _ _ _ _ _ us hl => match us, hl with | [_, _], _ => rfl) (fun ds d h => by obtain ⟨_, _, _, _, rfl, _⟩ := h; rfl) ?_
  intro f cdv A' outer s H E hr ds d ⟨b, ws, B, hw, e1, e2⟩
  subst e1 e2
  have few := B.few
  refine runs_setN 2 (evN_lst evA_nil) rfl sc_falls.nd rfl (.inl rfl) ?_
  refine runs_for b.rs ruD (fun pre ρ => ∃ c3 c4 c5 c6, c5.own = false ∧ c6.own = false ∧ ρ = [.va (bkD b), .va (.tup (ws.map D.int)), .ml (pre.map fun r => ivD (fallL ws r)), c3, c4, c5, c6]) .never rfl (itr_tup (ds := b.rs.map ruD) (ev_ix (d := .tup (b.rs.map ruD)) (ev_v 0 rfl) ev_int (iop_tup rfl))) ⟨.un, .un, .un, .un, rfl, rfl, rfl⟩ ?_ ?_
  · rintro pre r post ρ' hl ⟨c3, c4, c5, c6, h5, h6, rfl⟩
    have hmem : r ∈ b.rs := by rw [hl]; simp
    have U := B.ru r hmem
    have hpl : pre.length ≤ 12 := by
      rw [hl] at few
      simp at few
      omega
    have U1 := U.l3
    have U2 := U.len
    refine ⟨_, _, (tg_tup rfl (tgs_cons (tg_name 3 sc_falls.nd rfl (.inl rfl)) (tgs_cons (tg_name 4 sc_falls.nd rfl (.inl rfl)) tgs_nil))), ?_⟩
    refine runs_step (run_app 2 rfl (.inl rfl) (ev_of_new (evN_map2 (r.1.zip r.2) (fun p => nD p.1) (fun p => nD p.2) (fun p => D.int (ws.getD p.1 0 - ws.getD p.2 0)) 5 6 rfl sc_falls.nd (itr_zipW (ev_v 3 rfl) (ev_v 4 rfl) rfl T.zip) (blkOk_by rfl) (by rw [List.length_zip]; show _ < sizeLine; unfold sizeLine; omega) rfl rfl rfl rfl (fun p hp X' hX => by
      obtain ⟨_, _, _, _, _, rfl⟩ := hX
      have hz := zip_mem hp
      have h1 := U.a _ hz.1
      have h2 := U.b _ hz.2
      exact (ev_op (ev_ix (ev_v 1 rfl) (ev_v 5 rfl) (at_tup (d0 := 0) (by omega))) (ev_ix (ev_v 1 rfl) (ev_v 6 rfl) (at_tup (d0 := 0) (by omega))) bop_sub)) (by decide) (by rintro _ ⟨⟩; exact h5) (by rintro _ ⟨⟩; exact h6))) rfl (by intro h; cases h) rfl rfl (by rw [List.length_map]; show _ < sizeLine; unfold sizeLine; omega)) ?_
    refine runs_nil ⟨.va (wd r.1), .va (wd r.2), c5, c6, h5, h6, ?_⟩
    have e : ivD (fallL ws r) = .lst ((r.1.zip r.2).map fun p => D.int (ws.getD p.1 0 - ws.getD p.2 0)) := by
      unfold ivD fallL
      rw [List.map_map]
      rfl
    rw [List.map_append, List.map_cons, List.map_nil, e]
    rfl
  rintro ρ' ⟨c3, c4, c5, c6, h5, h6, rfl⟩
  refine runs_ret (ev_vF 2 rfl) (rt_eq ?_)
  unfold fallsF
  rw [List.map_map]
  rfl
/-- what each place adds to each letter's count -/
def chg (m x y : Nat) : List Int := (List.range m).map fun l => (if l = x then 1 else 0) - (if l = y then 1 else 0)
def chgL (m : Nat) (r : Rule) : List (List Int) := (r.1.zip r.2).map fun p => chg m p.1 p.2
def chgF (b : Bk) : List (List (List Int)) := b.rs.map (chgL b.m)
theorem sc_changes : FnScope ["book", "found", "left", "right", "line", "one", "other", "letter"] ["book"] (defScope s_changes) := ⟨rfl, rfl, rfl, by decide +kernel, rfl, by decide +kernel, by decide +kernel⟩
def R_changes (ds : List D) (d : D) : Prop := ∃ b, BkOk b ∧ ds = [bkD b] ∧ d = .lst ((chgF b).map colsD)
theorem int_ite (p : Prop) [Decidable p] (k : Bool) (h : k = decide p) : (D.int (if k then 1 else 0)) = D.int (if p then 1 else 0) := by
  subst h
  by_cases z : p <;> simp [z]
theorem ok_changes (T : Gb K mg) (A : DefAt K mg "changes" s_changes) : DefOk P w K mg base "changes" 1 ["book"] (spD K R_changes) := by
  refine fn_ok A sc_changes (by decide) (fun _ _ _ _ _ _ us hl => match us, hl with | [_], _ => rfl) (fun ds d h => by obtain ⟨_, _, rfl, _⟩ := h; rfl) ?_
  intro f cdv A' outer s H E hr ds d ⟨b, B, e1, e2⟩
  subst e1 e2
  have few := B.few
  have m3 := B.m3
  refine runs_setN 1 (evN_lst evA_nil) rfl sc_changes.nd rfl (.inl rfl) ?_
  refine runs_for b.rs ruD (fun pre ρ => ∃ c2 c3 c4 c5 c6 c7, c7.own = false ∧ ρ = [.va (bkD b), .ml (pre.map fun r => colsD (chgL b.m r)), c2, c3, c4, c5, c6, c7]) .never rfl (itr_tup (ds := b.rs.map ruD) (ev_ix (d := .tup (b.rs.map ruD)) (ev_v 0 rfl) ev_int (iop_tup rfl))) ⟨.un, .un, .un, .un, .un, .un, rfl, rfl⟩ ?_ ?_
  · rintro pre r post ρ' hl ⟨c2, c3, c4, c5, c6, c7, h7, rfl⟩
    have hmem : r ∈ b.rs := by rw [hl]; simp
    have U := B.ru r hmem
    have hpl : pre.length ≤ 12 := by
      rw [hl] at few
      simp at few
      omega
    have U1 := U.l3
    have U2 := U.len
    refine ⟨_, _, (tg_tup rfl (tgs_cons (tg_name 2 sc_changes.nd rfl (.inl rfl)) (tgs_cons (tg_name 3 sc_changes.nd rfl (.inl rfl)) tgs_nil))), ?_⟩
    refine runs_setN 4 (evN_lst evA_nil) rfl sc_changes.nd rfl (.inl rfl) ?_
    refine runs_for (r.1.zip r.2) (fun p => .tup [nD p.1, nD p.2]) (fun q ρ => ∃ c5 c6 c7, c7.own = false ∧ ρ = [.va (bkD b), .ml (pre.map fun r => colsD (chgL b.m r)), .va (wd r.1), .va (wd r.2), .ml (q.map fun p => ivD (chg b.m p.1 p.2)), c5, c6, c7]) .never rfl (itr_zipW (ev_v 2 rfl) (ev_v 3 rfl) rfl T.zip) ⟨c5, c6, c7, h7, rfl⟩ ?_ ?_
    · rintro q p rest ρ' hl2 ⟨c5, c6, c7, h7, rfl⟩
      have hql : q.length ≤ 3 := by
        have := congrArg List.length hl2
        rw [List.length_zip] at this
        simp at this
        omega
      refine ⟨_, _, (tg_tup rfl (tgs_cons (tg_name 5 sc_changes.nd rfl (.inr rfl)) (tgs_cons (tg_name 6 sc_changes.nd rfl (.inr rfl)) tgs_nil))), ?_⟩
      refine runs_step (run_app 4 rfl (.inl rfl) (ev_of_new (evN_map1 (List.range b.m) nD (fun l => D.int ((if l = p.1 then 1 else 0) - (if l = p.2 then 1 else 0))) 7 rfl sc_changes.nd (itr_range1 (ev_ix (d := nD b.m) (ev_v 0 rfl) ev_int (iop_tup rfl)) (by omega) rfl T.range) (blkOk_by rfl) (by rw [List.length_range]; show _ < sizeLine; unfold sizeLine; omega) rfl rfl (fun l hlm X' hX => by
        obtain ⟨_, _, _, _, _, rfl⟩ := hX
        exact (ev_op (ev_eq (ev_intB (ev_cmp (ev_v 7 rfl) (ev_v 5 rfl) cop_eqI) rfl T.int) (int_ite (l = p.1) _ (decide_eq_decide.mpr (by omega)))) (ev_eq (ev_intB (ev_cmp (ev_v 7 rfl) (ev_v 6 rfl) cop_eqI) rfl T.int) (int_ite (l = p.2) _ (decide_eq_decide.mpr (by omega)))) bop_sub)) (by rintro _ ⟨⟩; exact h7))) rfl (by intro h; cases h) rfl rfl (by rw [List.length_map]; show _ < sizeLine; unfold sizeLine; omega)) ?_
      refine runs_nil ⟨.va (nD p.1), .va (nD p.2), c7, h7, ?_⟩
      have e : ivD (chg b.m p.1 p.2) = .lst ((List.range b.m).map fun l => D.int ((if l = p.1 then 1 else 0) - (if l = p.2 then 1 else 0))) := by
        unfold ivD chg
        rw [List.map_map]
        rfl
      rw [List.map_append, List.map_cons, List.map_nil, e]
      rfl
    rintro ρ' ⟨c5, c6, c7, h7, rfl⟩
    refine runs_step (run_app 1 rfl (.inl rfl) (ev_vF 4 rfl) rfl (by intro h; cases h) rfl rfl (by rw [List.length_map]; show _ < sizeLine; unfold sizeLine; omega)) ?_
    refine runs_nil ⟨.va (wd r.1), .va (wd r.2), .va (.lst ((r.1.zip r.2).map fun p => ivD (chg b.m p.1 p.2))), c5, c6, c7, h7, ?_⟩
    have e : colsD (chgL b.m r) = .lst ((r.1.zip r.2).map fun p => ivD (chg b.m p.1 p.2)) := by
      unfold colsD chgL
      rw [List.map_map]
      rfl
    rw [List.map_append, List.map_cons, List.map_nil, e]
    rfl
  rintro ρ' ⟨c2, c3, c4, c5, c6, c7, h7, rfl⟩
  refine runs_ret (ev_vF 1 rfl) (rt_eq ?_)
  unfold chgF
  rw [List.map_map]
  rfl
end
end K8
/-! Books: the steps from a word. -/
namespace K8
open PySem PySem.Spec PyProof.Rows L2
def wi (u : List Nat) : List Int := u.map fun n : Nat => (n : Int)
theorem wi_inj {a b : List Nat} (h : wi a = wi b) : a = b := (List.map_inj_right (fun x y e => by exact_mod_cast e)).mp h
theorem wd_wi (u : List Nat) : wd u = wdI (wi u) := wd_wdI u
theorem wi_mem {u : List Nat} {ks : List (List Nat)} : wi u ∈ ks.map wi ↔ u ∈ ks := by
  rw [List.mem_map]
  exact ⟨fun ⟨v, hv, e⟩ => wi_inj e ▸ hv, fun h => ⟨u, h, rfl⟩⟩
theorem dputK_wi (ks : List (List Nat)) (u : List Nat) : dputK (ks.map wi) (wi u) = (putN ks u).map wi := by
  unfold dputK putN
  by_cases h : u ∈ ks
  · rw [if_pos (wi_mem.mpr h), if_pos h]
  · rw [if_neg (fun z => h (wi_mem.mp z)), if_neg h, List.map_append]
    rfl
theorem dputV_tt (ks : List (List Nat)) (u : List Nat) : dputV (ks.map wi) (ks.map fun _ => D.bl true) (wi u) (.bl true) = (putN ks u).map fun _ => D.bl true := by
  unfold dputV putN
  by_cases h : u ∈ ks
  · rw [if_pos (wi_mem.mpr h), if_pos h, List.zip_map', List.map_map]
    refine List.map_congr_left fun x _ => ?_
    show (if wi x = wi u then _ else _) = _
    split <;> rfl
  · rw [if_neg (fun z => h (wi_mem.mp z)), if_neg h, List.map_append]
    rfl
theorem room100 {k : Nat} {A : Around} (r : Room k A) : A.units + 100 < cLine := by
  have := r.un
  omega
/-- the steps' words, sorted -/
def stepsF (b : Bk) (u : List Nat) : List (List Nat) := sortBy wd (keysN (stepsL b.rs u))
theorem mem_stepsF {b : Bk} {u v : List Nat} : v ∈ stepsF b u ↔ Step b.rs u v := by
  unfold stepsF
  rw [(sortBy_perm _ _).mem_iff, mem_keysN, mem_stepsL]
theorem nodup_stepsF (b : Bk) (u : List Nat) : (stepsF b u).Nodup := by
  unfold stepsF
  rw [(sortBy_perm _ _).nodup_iff]
  exact nodup_keysN _
theorem stepsL_small {b : Bk} (B : BkOk b) {u : List Nat} (hu : u.length ≤ 20) : ∀ rs : List Rule, (∀ r ∈ rs, r ∈ b.rs) → (stepsL rs u).length ≤ rs.length * 8000
  | [], _ => by simp [stepsL]
  | r :: rs, h => by
    have e : stepsL (r :: rs) u = ((spotsF r.1 u).map fun line => writeAt u line r.2) ++ stepsL rs u := by
      unfold stepsL
      rw [List.flatMap_cons]
    rw [e, List.length_append, List.length_map, List.length_cons]
    have h1 := spots_small (B.ru r (h r (by simp))).l3 hu
    have h2 := stepsL_small B hu rs fun s hs => h s (by simp [hs])
    omega
section
variable {P : Program} {w : World} {K : PySem.W.Frag} {mg : Str → Option Value} {base : Heap}
theorem sc_steps_in : FnScope ["book", "word", "found", "left", "right", "line", "there", "at", "letter"] ["book", "word"] (defScope s_steps_in) := ⟨rfl, rfl, rfl, by decide +kernel, rfl, by decide +kernel, by decide +kernel⟩
def R_steps_in (ds : List D) (d : D) : Prop := ∃ b u, BkOk b ∧ 1 ≤ u.length ∧ u.length ≤ 20 ∧ ds = [bkD b, wd u] ∧ d = .lst ((stepsF b u).map wd)
theorem ok_steps_in (T : Gb K mg) (A : DefAt K mg "steps_in" s_steps_in) (G_spots_of : DefOk P w K mg base "spots_of" 1 ["left", "word"] (spD K R_spots_of)) : DefOk P w K mg base "steps_in" 2 ["book", "word"] (spD K R_steps_in) := by
  refine fn_ok A sc_steps_in (by decide) (fun _ _ _ _ _ _ us hl => match us, hl with | [_, _], _ => rfl) (fun ds d h => by obtain ⟨_, _, _, _, _, rfl, _⟩ := h; rfl) ?_
  intro f cdv A' outer s H E hr ds d ⟨b, u, B, hu1, hu, e1, e2⟩
  subst e1 e2
  have few := B.few
  refine runs_setN 2 evN_dict rfl sc_steps_in.nd rfl (.inl rfl) ?_
  refine runs_for b.rs ruD (fun pre ρ => ∃ c3 c4 c5 c6 c7 c8, ρ = [.va (bkD b), .va (wd u), .md ((keysN (stepsL pre u)).map wi) ((keysN (stepsL pre u)).map fun _ => .bl true), c3, c4, c5, c6, c7, c8]) .never rfl (itr_tup (ds := b.rs.map ruD) (ev_ix (d := .tup (b.rs.map ruD)) (ev_v 0 rfl) ev_int (iop_tup rfl))) ⟨.un, .un, .un, .un, .un, .un, rfl⟩ ?_ ?_
  · rintro pre r post ρ' hl ⟨c3, c4, c5, c6, c7, c8, rfl⟩
    have hmem : r ∈ b.rs := by rw [hl]; simp
    have U := B.ru r hmem
    have U1 := U.l3
    have U2 := U.len
    have small1 := stepsL_small B hu pre fun s hs => by rw [hl]; simp [hs]
    have hpl : pre.length ≤ 12 := by
      rw [hl] at few
      simp at few
      omega
    have small2 := spots_small U1 hu
    have small3 : (keysN (stepsL pre u)).length ≤ 96000 := by
      have := length_foldl_putN (stepsL pre u) []
      simp at this
      unfold keysN
      omega
    refine ⟨_, _, (tg_tup rfl (tgs_cons (tg_name 3 sc_steps_in.nd rfl (.inl rfl)) (tgs_cons (tg_name 4 sc_steps_in.nd rfl (.inl rfl)) tgs_nil))), ?_⟩
    refine runs_for (spotsF r.1 u) wd (fun q ρ => ∃ c5 c6 c7 c8, ρ = [.va (bkD b), .va (wd u), .md (((q.map fun line => writeAt u line r.2).foldl putN (keysN (stepsL pre u))).map wi) (((q.map fun line => writeAt u line r.2).foldl putN (keysN (stepsL pre u))).map fun _ => .bl true), .va (wd r.1), .va (wd r.2), c5, c6, c7, c8]) .never rfl (itr_lst (ev_call G_spots_of (hr.mono (by decide)) rfl (evA_cons (ev_v 3 rfl) (evA_cons (ev_v 1 rfl) evA_nil)) ⟨_, _, U1, hu, rfl, rfl⟩)) ⟨c5, c6, c7, c8, rfl⟩ ?_ ?_
    · rintro q line rest ρ' hl2 ⟨c5, c6, c7, c8, rfl⟩
      have sp : IsSpot r.1 u line := (mem_spots rfl).mp (by rw [hl2]; simp)
      have hq : q.length ≤ 8000 := by
        rw [hl2] at small2
        simp at small2
        omega
      have small4 := length_foldl_putN (q.map fun line => writeAt u line r.2) (keysN (stepsL pre u))
      rw [List.length_map] at small4
      generalize hK : (q.map fun line => writeAt u line r.2).foldl putN (keysN (stepsL pre u)) = ks at *
      refine ⟨_, _, (tg_name 5 sc_steps_in.nd rfl (.inl rfl)), ?_⟩
      refine runs_setN 6 (evN_list (ev_v (d := wd u) 1 rfl) (.inr rfl) rfl T.list) rfl sc_steps_in.nd rfl (.inl rfl) ?_
      refine runs_for (line.zip r.2) (fun p => .tup [nD p.1, nD p.2]) (fun ps ρ => ∃ c7 c8, ρ = [.va (bkD b), .va (wd u), .md (ks.map wi) (ks.map fun _ => .bl true), .va (wd r.1), .va (wd r.2), .va (wd line), .ml ((ps.foldl (fun (t : List Nat) p => t.set p.1 p.2) u).map nD), c7, c8]) .never rfl (itr_zipW (ev_v 5 rfl) (ev_v 4 rfl) rfl T.zip) ⟨c7, c8, rfl⟩ ?_ ?_
      · rintro ps p rest2 ρ' hl3 ⟨c7, c8, rfl⟩
        have hp : p.1 < u.length := sp.inb p.1 (zip_mem (v := r.2) (p := p) (by rw [hl3]; simp)).1
        refine ⟨_, _, (tg_tup rfl (tgs_cons (tg_name 7 sc_steps_in.nd rfl (.inl rfl)) (tgs_cons (tg_name 8 sc_steps_in.nd rfl (.inl rfl)) tgs_nil))), ?_⟩
        refine runs_step (run_setIx (c0 := .un) 6 (j := p.1) rfl (.inl rfl) (ev_v 8 rfl) (ev_v 7 rfl) rfl (by intro h; cases h) rfl rfl (by rw [List.length_map, writeAt_length]; exact ix_nat hp)) ?_
        refine runs_nil ⟨.va (nD p.1), .va (nD p.2), ?_⟩
        rw [List.foldl_append, List.foldl_cons, List.foldl_nil, List.map_set]
        rfl
      rintro ρ' ⟨c7, c8, rfl⟩
      change Runs _ _ [_, _, _, _, _, _, .ml ((writeAt u line r.2).map nD), _, _] _
      refine runs_step (run_put (ρ3 := []) 2 hr rfl (.inl rfl) ev_bl (ev_eq (ev_tupleL (ev_vF 6 rfl) rfl T.tuple) (wd_key (writeAt u line r.2))) rfl rfl (by rw [List.length_map]; show _ < sizeLine; unfold sizeLine; omega)) ?_
      refine runs_nil ⟨.va (wd line), .va (.lst ((writeAt u line r.2).map nD)), c7, c8, ?_⟩
      have e : ((q ++ [line]).map fun line => writeAt u line r.2).foldl putN (keysN (stepsL pre u)) = putN ks (writeAt u line r.2) := by
        rw [List.map_append, List.foldl_append, hK]
        rfl
      rw [e, ← dputK_wi, ← dputV_tt]
      rfl
    rintro ρ' ⟨c5, c6, c7, c8, rfl⟩
    refine runs_nil ⟨.va (wd r.1), .va (wd r.2), c5, c6, c7, c8, ?_⟩
    have e : keysN (stepsL (pre ++ [r]) u) = ((spotsF r.1 u).map fun line => writeAt u line r.2).foldl putN (keysN (stepsL pre u)) := by
      unfold keysN stepsL
      rw [List.flatMap_append, List.foldl_append, List.flatMap_cons, List.flatMap_nil, List.append_nil]
    rw [e]
  rintro ρ' ⟨c3, c4, c5, c6, c7, c8, rfl⟩
  have ek : ((keysN (stepsL b.rs u)).map wi).map wdI = (keysN (stepsL b.rs u)).map wd := by
    rw [List.map_map]
    exact List.map_congr_left fun v _ => (wd_wi v).symm
  refine runs_ret (ev_of_new (evN_sortedKeysO 2 rfl rfl (room100 hr) (by
    rw [ek]
    refine srtb_of (enc := wd) (n := 1) (fun _ => okn_wd) alike_wd fun v hv => ?_
    have hs := mem_stepsL.mp (mem_keysN.mp hv)
    obtain ⟨r, _, line, _, rfl⟩ := hs
    have hl := writeAt_length u (line.zip r.2)
    change (writeAt u line r.2).length = u.length at hl
    cases hz : writeAt u line r.2 with
    | nil =>
      rw [hz] at hl
      simp at hl
      omega
    | cons x xs => exact ⟨nD x, xs.map nD, rfl⟩) rfl T.sorted)) (rt_eq ?_)
  rw [ek, sortBy_map]
  rfl
end
end K8
/-! Towers: what the defs compute, in plain Lean. -/
namespace K8
open PySem PySem.Spec PyProof.Rows L2
inductive Wr where
  | early | even | late
deriving DecidableEq
def Wr.s : Wr → Str
  | .early => "early"
  | .even => "even"
  | .late => "late"
def Wr.d (w : Wr) : D := .str w.s
def negV (v : List Int) : List Int := v.map fun z => -z
noncomputable def oppF (some : List (List Int)) : List Sol := some.map fun v => solF some (negV v)
def wstep (f : Rw) : Sol → Rw
  | .inl _ => f
  | .inr y => mk f.length fun i => gt f i - gt y i
def wtsF (m : Nat) (told : List Sol) : Rw := told.foldl wstep (List.replicate m 0)
def SolSz (m : Nat) : Sol → Prop
  | .inl x => AllSz 10 x
  | .inr y => y.length = m ∧ AllSz 12 y
theorem wstep_length (f : Rw) (s : Sol) : (wstep f s).length = f.length := by
  cases s with
  | inl x => rfl
  | inr y => exact mk_length
theorem foldl_wstep_length : ∀ (told : List Sol) (f : Rw), (told.foldl wstep f).length = f.length
  | [], _ => rfl
  | s :: told, f => by rw [List.foldl_cons, foldl_wstep_length told, wstep_length]
theorem wtsF_length (m : Nat) (told : List Sol) : (wtsF m told).length = m := by
  unfold wtsF
  rw [foldl_wstep_length, List.length_replicate]
theorem wstep_sz {m k : Nat} {f : Rw} {s : Sol} (hf : AllSz k f) (hl : f.length = m) (hs : SolSz m s) : AllSz (k + 13) (wstep f s) := by
  cases s with
  | inl x => exact fun x hx => (hf x hx).mono (by omega)
  | inr y =>
    intro x hx
    obtain ⟨i, hi, rfl⟩ := mem_gt hx
    rw [wstep_length] at hi
    show Sz _ (gt (mk f.length fun i => gt f i - gt y i) i)
    rw [gt_mk hi]
    exact ((hf.gt hi).sub (hs.2.gt (by rw [hs.1]; omega))).mono (by omega)
theorem foldl_wstep_sz {m : Nat} : ∀ {told : List Sol} {k : Nat} {f : Rw}, AllSz k f → f.length = m → (∀ s ∈ told, SolSz m s) → AllSz (k + 13 * told.length) (told.foldl wstep f)
  | [], k, f, hf, _, _ => by simpa using hf
  | s :: told, k, f, hf, hl, hs => by
    have := foldl_wstep_sz (told := told) (wstep_sz hf hl (hs s (by simp))) (by rw [wstep_length]; exact hl) fun t ht => hs t (by simp [ht])
    rw [List.foldl_cons, List.length_cons]
    exact fun x hx => (this x hx).mono (by omega)
theorem allSz_zero (m : Nat) : AllSz 1 (List.replicate m 0) := by
  intro x hx
  rw [List.eq_of_mem_replicate hx]
  exact sz_int 0 1 (by decide) (by decide)
theorem wtsF_sz {m : Nat} {told : List Sol} (hs : ∀ s ∈ told, SolSz m s) : AllSz (1 + 13 * told.length) (wtsF m told) := foldl_wstep_sz (allSz_zero m) (by simp) hs
/-- a place: a rule's number and how deep it lies -/
abbrev Pl := Nat × Nat
def prD (p : Pl) : D := .tup [nD p.1, nD p.2]
def ruleOf (b : Bk) (r : Nat) : Rule := b.rs.getD r ([], [])
def placeAt (b : Bk) (w : Wr) (p : Pl) : Nat := if w = .early then p.2 else (ruleOf b p.1).1.length - 1 - p.2
structure PlOk (b : Bk) (p : Pl) : Prop where
  r : p.1 < b.rs.length
  d : p.2 < (ruleOf b p.1).1.length
def atL (b : Bk) (left : List Nat) (closed : List Pl) : List Pl := left.map (fun r => (r, 0)) ++ (closed.filter fun p => decide (p.2 + 1 < (ruleOf b p.1).1.length)).map fun p => (p.1, p.2 + 1)
def atF (b : Bk) (left : List Nat) (closed : List Pl) : List Pl := sortBy prD (atL b left closed)
theorem okn_prD {p : Pl} : D.okn 1 (prD p) := okn_tup2 okn_nD okn_nD
theorem prD_inj {a b : Pl} (h : prD a = prD b) : a = b := by
  unfold prD at h
  injection h with h
  simp at h
  exact Prod.ext (nD_inj h.1) (nD_inj h.2)
theorem alike_prD (a b : Pl) : PySem.W.alike (prD a).py (prD b).py = true := alike_two (alike_nD _ _) (alike_nD _ _)
theorem rule_ok {b : Bk} (B : BkOk b) {r : Nat} (h : r < b.rs.length) : Ru b.m (ruleOf b r) := B.ru _ (getD_mem h)
theorem plok_at {b : Bk} (B : BkOk b) {left : List Nat} {closed : List Pl} (hl : ∀ r ∈ left, r < b.rs.length) (hc : ∀ p ∈ closed, PlOk b p) : ∀ p ∈ atF b left closed, PlOk b p := by
  intro p hp
  have hp := (sortBy_perm prD _).mem_iff.mp hp
  unfold atL at hp
  rcases List.mem_append.mp hp with h | h
  · obtain ⟨r, hr, rfl⟩ := List.mem_map.mp h
    have := (rule_ok B (hl r hr)).l1
    exact ⟨hl r hr, this⟩
  · obtain ⟨q, hq, rfl⟩ := List.mem_map.mp h
    rw [List.mem_filter] at hq
    exact ⟨(hc q hq.1).r, of_decide_eq_true hq.2⟩
end K8
/-! Towers: walks of opposites, weights_of, place_at, at_hand. -/
namespace K8
open PySem PySem.Spec PyProof.Rows L2
def solA : Sol → D
  | .inl x => rowD x
  | .inr _ => .non
def solB : Sol → D
  | .inl _ => .non
  | .inr y => rowD y
theorem solD_two (s : Sol) : solD s = .tup [solA s, solB s] := by cases s <;> rfl
theorem map_solD (l : List Sol) : l.map solD = l.map fun s => .tup [solA s, solB s] := List.map_congr_left fun s _ => solD_two s
section
variable {P : Program} {w : World} {K : PySem.W.Frag} {mg : Str → Option Value} {base : Heap}
theorem sc_opposites : FnScope ["some", "one", "vector"] ["some"] (defScope s_opposites) := ⟨rfl, rfl, rfl, by decide +kernel, rfl, by decide +kernel, by decide +kernel⟩
def ColsOk (h : Nat) (cols : List (List Int)) : Prop := ∀ c ∈ cols, c.length = h ∧ ∀ z ∈ c, z.natAbs ≤ 3
def R_opposites (ds : List D) (d : D) : Prop := ∃ (cols : List (List Int)) (h : Nat), (h = 2 ∨ h = 3) ∧ ColsOk h cols ∧ cols.length ≤ 90 ∧ ds = [colsD cols] ∧ d = .lst ((oppF cols).map solD)
theorem vc_of {h : Nat} {cols : List (List Int)} (C : ColsOk h cols) {v : List Int} (hv : v ∈ cols) : VC cols (negV v) ∧ (negV v).length = h := by
  have hl : (negV v).length = h := by
    unfold negV
    rw [List.length_map]
    exact (C v hv).1
  refine ⟨⟨fun c hc => ⟨by rw [hl]; exact (C c hc).1, (C c hc).2⟩, fun z hz => ?_⟩, hl⟩
  unfold negV at hz
  obtain ⟨y, hy, rfl⟩ := List.mem_map.mp hz
  have := (C v hv).2 y hy
  omega
theorem ok_opposites (T : Gb K mg) (A : DefAt K mg "opposites" s_opposites) (G_solve : DefOk P w K mg base "solve" 6 ["columns", "goal"] (spD K R_solve)) : DefOk P w K mg base "opposites" 7 ["some"] (spD K R_opposites) := by
  refine fn_ok A sc_opposites (by decide) (fun _ _ _ _ _ _ us hl => match us, hl with | [_], _ => rfl) (fun ds d h => by obtain ⟨_, _, _, _, _, rfl, _⟩ := h; rfl) ?_
  intro f cdv A' outer s H E hr ds d ⟨cols, h, hh, C, hn, e1, e2⟩
  subst e1 e2
  refine runs_ret (ev_of_new (evN_map1 cols ivD (fun v => solD (solF cols (negV v))) 2 rfl sc_opposites.nd (itr_lst (ev_v 0 rfl)) (blkOk_by rfl) (by show _ < sizeLine; unfold sizeLine; omega) rfl rfl (fun v hv X' hX => by
    obtain ⟨_, _, _, _, _, rfl⟩ := hX
    obtain ⟨V, hl⟩ := vc_of C hv
    have hvl := (C v hv).1
    exact (ev_call G_solve (hr.mono (by decide)) rfl (evA_cons (ev_v 0 rfl) (evA_cons (ev_eq (d' := ivD (negV v)) (ev_of_new (evN_map1 v D.int (fun z => D.int (-z)) 1 rfl sc_opposites.nd (itr_lst (ev_v 2 rfl)) (blkOk_by rfl) (by show _ < sizeLine; unfold sizeLine; omega) rfl rfl (fun z hz X' hX => by
      obtain ⟨_, _, _, _, _, rfl⟩ := hX
      exact (ev_neg (ev_v 1 rfl))) (by rintro _ ⟨⟩; rfl))) (by unfold ivD negV; rw [List.map_map]; rfl)) evA_nil)) ⟨cols, negV v, V, by rw [hl]; exact hh, hn, rfl, rfl⟩)) (by rintro _ ⟨⟩; rfl))) (rt_eq ?_)
  unfold oppF
  rw [List.map_map]
  rfl
theorem sc_weights_of : FnScope ["many", "told", "found", "multiples", "against", "at", "one"] ["many", "told"] (defScope s_weights_of) := ⟨rfl, rfl, rfl, by decide +kernel, rfl, by decide +kernel, by decide +kernel⟩
def R_weights_of (ds : List D) (d : D) : Prop := ∃ (m : Nat) (told : List Sol), m ≤ 3 ∧ told.length ≤ 90 ∧ (∀ s ∈ told, SolSz m s) ∧ ds = [nD m, .lst (told.map solD)] ∧ d = .tup ((wholeF (wtsF m told)).map D.int)
theorem ok_weights_of (T : Gb K mg) (A : DefAt K mg "weights_of" s_weights_of) (G_plus : DefOk P w K mg base "plus" 3 ["one", "other"] (spD K R_plus)) (G_whole : DefOk P w K mg base "whole" 2 ["ratios"] (spD K R_whole)) : DefOk P w K mg base "weights_of" 4 ["many", "told"] (spD K R_weights_of) := by
  refine fn_ok A sc_weights_of (by decide) (fun _ _ _ _ _ _ us hl => match us, hl with | [_, _], _ => rfl) (fun ds d h => by obtain ⟨_, _, _, _, _, rfl, _⟩ := h; rfl) ?_
  intro f cdv A' outer s H E hr ds d ⟨m, told, hm, hn, hs, e1, e2⟩
  subst e1 e2
  refine runs_set 2 (ev_eq (d' := rowD (wtsF m [])) (ev_op (ev_lst (evA_cons (ev_tup (evA_cons ev_int (evA_cons ev_int evA_nil))) evA_nil)) (ev_v 0 rfl) (bop_rep (n := m) (by show 1 * _ ≤ sizeLine; unfold sizeLine; omega) (by omega))) (by
    rw [rep_one]
    unfold rowD wtsF
    rw [List.foldl_nil, List.map_replicate]
    rfl)) sc_weights_of.nd rfl (.inl rfl) ?_
  refine runs_for told (fun s => .tup [solA s, solB s]) (fun pre ρ => ∃ c2 c3 c4 c5 c6, (c2 = .va (rowD (wtsF m pre)) ∨ c2 = .ml ((wtsF m pre).map rq)) ∧ c5.own = false ∧ c6.own = false ∧ ρ = [.va (nD m), .va (.lst (told.map solD)), c2, c3, c4, c5, c6]) .never rfl (itr_eq (itr_lst (ev_v 1 rfl)) (map_solD told)) ⟨_, .un, .un, .un, .un, .inl rfl, rfl, rfl, rfl⟩ ?_ ?_
  · rintro pre sl post ρ' hl ⟨c2, c3, c4, c5, c6, h2, h5, h6, rfl⟩
    have hsl := hs sl (by rw [hl]; simp)
    have hpl : pre.length ≤ 90 := by
      rw [hl] at hn
      simp at hn
      omega
    have hps : AllSz (1 + 13 * pre.length) (wtsF m pre) := wtsF_sz fun t ht => hs t (by rw [hl]; simp [ht])
    have hwl := wtsF_length m pre
    have ew : wtsF m (pre ++ [sl]) = wstep (wtsF m pre) sl := by
      unfold wtsF
      rw [List.foldl_append]
      rfl
    refine ⟨_, _, (tg_tup rfl (tgs_cons (tg_name 3 sc_weights_of.nd rfl (.inl rfl)) (tgs_cons (tg_name 4 sc_weights_of.nd rfl (.inr rfl)) tgs_nil))), ?_⟩
    cases sl with
    | inl x =>
      refine runs_if (evB_notNone (d := .non) (ev_v 4 rfl)) (fun hb => absurd hb (by decide)) (fun hb => ?_)
      refine runs_nil (runs_nil ⟨c2, .va (rowD x), .va .non, c5, c6, ?_, h5, h6, rfl⟩)
      rw [ew]
      exact h2
    | inr y =>
      refine runs_if (evB_notNone (d := rowD y) (ev_v 4 rfl)) (fun hb => ?_) (fun hb => Bool.noConfusion (show true = false from hb))
      have it : ∀ {p pos tpos : Pos} {elts : List Expr} {kk : Nat} {px : Pos}, Itr' (Bx P w K mg base ["many", "told", "found", "multiples", "against", "at", "one"] "weights_of" (defScope s_weights_of) f cdv A' outer s H E) (.Tuple elts kk tpos) (.Call (.Name "enumerate" p) [.Name "found" px] [] pos) [.va (nD m), .va (.lst (told.map solD)), c2, .va .non, .va (rowD y), c5, c6] ((List.range (wtsF m pre).length).map fun i => .tup [nD i, rq ((wtsF m pre).getD i 0)]) [.va (nD m), .va (.lst (told.map solD)), .va (rowD (wtsF m pre)), .va .non, .va (rowD y), c5, c6] := by
        intros
        rcases h2 with rfl | rfl
        · exact itr_enumLr rq (wtsF m pre) 0 (ev_v 2 rfl) rfl T.enumerate
        · exact itr_enumLr rq (wtsF m pre) 0 (ev_vF 2 rfl) rfl T.enumerate
      refine runs_step (run_map2 2 (List.range (wtsF m pre).length) nD (fun i => rq ((wtsF m pre).getD i 0)) (fun i => rq (gt (wtsF m pre) i - gt y i)) 5 6 rfl sc_weights_of.nd rfl rfl rfl it (blkOk_by rfl) (by rw [List.length_range, hwl]; show _ < sizeLine; unfold sizeLine; omega) rfl rfl rfl rfl (fun i hi X' hX => by
        obtain ⟨_, _, _, _, _, rfl⟩ := hX
        have hi := List.mem_range.mp hi
        have hy := hsl.1
        have hiy : i < y.length := by omega
        have e : rq (gt (wtsF m pre) i - gt y i) = rq (gt (wtsF m pre) i + -(gt y i)) := by rw [Rat.sub_eq_add_neg]
        rw [e]
        exact (ev_call G_plus (hr.mono (by decide)) rfl (evA_cons (ev_v 6 rfl) (evA_cons (ev_tup (evA_cons (ev_neg (ev_ix (ev_ix (ev_v 4 rfl) (ev_v 5 rfl) (at_row hiy)) ev_int (iop_tup rfl))) (evA_cons (ev_ix (ev_ix (ev_v 4 rfl) (ev_v 5 rfl) (at_row hiy)) ev_int (iop_tup rfl)) evA_nil))) evA_nil)) ⟨_, -(gt y i), (hps.gt hi).mono (by omega), ((hsl.2.gt hiy).neg).mono (by omega), rfl, rfl⟩)) (by decide) (by rintro _ ⟨⟩; exact h5) (by rintro _ ⟨⟩; exact h6)) ?_
      refine runs_nil (runs_nil ⟨_, .va .non, .va (rowD y), c5, c6, .inr rfl, h5, h6, ?_⟩)
      rw [ew]
      show _ = [_, _, C.ml ((mk (wtsF m pre).length fun i => gt (wtsF m pre) i - gt y i).map rq), _, _, _, _]
      unfold mk
      rw [List.map_map]
      rfl
  rintro ρ' ⟨c2, c3, c4, c5, c6, h2, h5, h6, rfl⟩
  have hz := wtsF_sz hs
  have hl := wtsF_length m told
  rcases h2 with rfl | rfl
  · refine runs_ret (ev_tupleL (ev_call G_whole (hr.mono (by decide)) rfl (evA_cons (ev_v 2 rfl) evA_nil) ⟨wtsF m told, 1 + 13 * told.length, hz, by omega, ?_, rfl, rfl⟩) rfl T.tuple) (rt_eq rfl)
    rw [hl]
    have : m * (1 + 13 * told.length) ≤ 3 * (1 + 13 * told.length) := Nat.mul_le_mul_right _ hm
    omega
  · refine runs_ret (ev_tupleL (ev_call G_whole (hr.mono (by decide)) rfl (evA_cons (ev_vF 2 rfl) evA_nil) ⟨wtsF m told, 1 + 13 * told.length, hz, by omega, ?_, rfl, rfl⟩) rfl T.tuple) (rt_eq rfl)
    rw [hl]
    have : m * (1 + 13 * told.length) ≤ 3 * (1 + 13 * told.length) := Nat.mul_le_mul_right _ hm
    omega
theorem sc_place_at : FnScope ["book", "rule", "depth", "word"] ["book", "rule", "depth", "word"] (defScope s_place_at) := ⟨rfl, rfl, rfl, by decide +kernel, rfl, by decide +kernel, by decide +kernel⟩
def R_place_at (ds : List D) (d : D) : Prop := ∃ (b : Bk) (p : Pl) (v : Wr), PlOk b p ∧ ds = [bkD b, nD p.1, nD p.2, v.d] ∧ d = nD (placeAt b v p)
theorem str_early (v : Wr) : decide (v.s = ("early" : Str)) = decide (v = .early) := by cases v <;> decide +kernel
theorem str_even (v : Wr) : decide (v.s = ("even" : Str)) = decide (v = .even) := by cases v <;> decide +kernel
theorem at_left {X : Cx} {r : Rule} : Iop X (ruD r) (.int 0) (wd r.1) := iop_tup rfl
theorem at_bk1 {X : Cx} {b : Bk} : Iop X (bkD b) (.int 1) (.tup (b.rs.map ruD)) := iop_tup rfl
theorem at_bk0 {X : Cx} {b : Bk} : Iop X (bkD b) (.int 0) (nD b.m) := iop_tup rfl
theorem len_wd (u : List Nat) : LenD (wd u) = some u.length := by simp [LenD, wd]
theorem ok_place_at (T : Gb K mg) (A : DefAt K mg "place_at" s_place_at) : DefOk P w K mg base "place_at" 1 ["book", "rule", "depth", "word"] (spD K R_place_at) := by
  refine fn_ok A sc_place_at (by decide) (fun _ _ _ _ _ _ us hl => match us, hl with | [_, _, _, _], _ => rfl) (fun ds d h => by obtain ⟨_, _, _, _, rfl, _⟩ := h; rfl) ?_
  intro f cdv A' outer s H E hr ds d ⟨b, p, v, ok, e1, e2⟩
  subst e1 e2
  have h1 := ok.r
  have h2 := ok.d
  refine runs_ret (d := nD (placeAt b v p)) (ev_ifexpP (evB_cmp (ev_v 3 rfl) ev_str cop_eqS) (fun h => ?_) (fun h => ?_)) (rt_eq rfl)
  · rw [str_early] at h
    unfold placeAt
    rw [if_pos (of_decide_eq_true h)]
    exact ev_v 2 rfl
  · rw [str_early] at h
    have e : nD (placeAt b v p) = .int (((ruleOf b p.1).1.length : Int) - 1 - (p.2 : Int)) := by
      unfold placeAt
      rw [if_neg (of_decide_eq_false h)]
      unfold nD
      congr 1
      omega
    rw [e]
    exact (ev_op (ev_op (ev_len (n := (ruleOf b p.1).1.length) (ev_ix (ev_ix (ev_ix (ev_v 0 rfl) ev_int at_bk1) (ev_v 1 rfl) (at_rules h1)) ev_int at_left) (len_wd _) rfl T.len) ev_int bop_sub) (ev_v 2 rfl) bop_sub)
theorem sc_at_hand : FnScope ["book", "left", "closed", "word", "rule", "found", "depth"] ["book", "left", "closed", "word"] (defScope s_at_hand) := ⟨rfl, rfl, rfl, by decide +kernel, rfl, by decide +kernel, by decide +kernel⟩
def R_at_hand (ds : List D) (d : D) : Prop := ∃ (b : Bk) (left : List Nat) (closed : List Pl) (v : Wr), left.length ≤ 100 ∧ closed.length ≤ 100 ∧ (∀ p ∈ closed, p.1 < b.rs.length) ∧ ds = [bkD b, nsD left, .lst (closed.map prD), v.d] ∧ d = .lst ((atF b left closed).map prD)
theorem ok_at_hand (T : Gb K mg) (A : DefAt K mg "at_hand" s_at_hand) : DefOk P w K mg base "at_hand" 1 ["book", "left", "closed", "word"] (spD K R_at_hand) := by
  refine fn_ok A sc_at_hand (by decide) (fun _ _ _ _ _ _ us hl => match us, hl with | [_, _, _, _], _ => rfl) (fun ds d h => by obtain ⟨_, _, _, _, _, _, _, rfl, _⟩ := h; rfl) ?_
  intro f cdv A' outer s H E hr ds d ⟨b, left, closed, v, hl1, hl2, hc, e1, e2⟩
  subst e1 e2
  refine runs_step (run_map1 5 left nD (fun r => prD (r, 0)) 4 rfl sc_at_hand.nd rfl rfl rfl (itr_lst (ev_v 1 rfl)) (blkOk_by rfl) (by show _ < sizeLine; unfold sizeLine; omega) rfl rfl (fun r hrm X' hX => by
    obtain ⟨_, _, _, _, _, rfl⟩ := hX
    exact (ev_tup (evA_cons (ev_v 4 rfl) (evA_cons ev_int evA_nil)))) (by rintro _ ⟨⟩; rfl)) ?_
  refine runs_for closed prD (fun pre ρ => ∃ c4 c6, ρ = [.va (bkD b), .va (nsD left), .va (.lst (closed.map prD)), .va v.d, c4, .ml ((atL b left pre).map prD), c6]) .never rfl (itr_lst (ev_v 2 rfl)) ⟨.un, .un, ?_⟩ ?_ ?_
  · unfold atL
    rw [List.filter_nil, List.map_nil, List.append_nil, List.map_map]
    rfl
  · rintro pre p post ρ' hl ⟨c4, c6, rfl⟩
    have hp := hc p (by rw [hl]; simp)
    have hpl : pre.length ≤ 100 := by
      rw [hl] at hl2
      simp at hl2
      omega
    have small : (atL b left pre).length ≤ 200 := by
      unfold atL
      rw [List.length_append, List.length_map, List.length_map]
      have := List.length_filter_le (fun p : Pl => decide (p.2 + 1 < (ruleOf b p.1).1.length)) pre
      omega
    have ea : atL b left (pre ++ [p]) = atL b left pre ++ ((if p.2 + 1 < (ruleOf b p.1).1.length then [p] else []).map fun p => (p.1, p.2 + 1)) := by
      unfold atL
      rw [List.filter_append, List.map_append, ← List.append_assoc]
      congr 2
      by_cases h : p.2 + 1 < (ruleOf b p.1).1.length
      · rw [if_pos h, List.filter_cons_of_pos (by simpa using h), List.filter_nil]
      · rw [if_neg h, List.filter_cons_of_neg (by simpa using h), List.filter_nil]
    refine ⟨_, _, (tg_tup rfl (tgs_cons (tg_name 4 sc_at_hand.nd rfl (.inl rfl)) (tgs_cons (tg_name 6 sc_at_hand.nd rfl (.inl rfl)) tgs_nil))), ?_⟩
    refine runs_if (evB_cmp (ev_op (ev_v 6 rfl) ev_int bop_add) (ev_len (n := (ruleOf b p.1).1.length) (ev_ix (ev_ix (ev_ix (ev_v 0 rfl) ev_int at_bk1) (ev_v 4 rfl) (at_rules hp)) ev_int at_left) (len_wd _) rfl T.len) cop_lt) (fun hb => ?_) (fun hb => ?_)
    · have h : p.2 + 1 < (ruleOf b p.1).1.length := by
        have := of_decide_eq_true hb
        omega
      refine runs_step (run_app 5 rfl (.inl rfl) (ev_tup (evA_cons (ev_v 4 rfl) (evA_cons (ev_op (ev_v 6 rfl) ev_int bop_add) evA_nil))) rfl (by intro h; cases h) rfl rfl (by rw [List.length_map]; show _ < sizeLine; unfold sizeLine; omega)) ?_
      refine runs_nil (runs_nil ⟨.va (nD p.1), .va (nD p.2), ?_⟩)
      rw [ea, if_pos h, List.map_append]
      rfl
    · have h : ¬ p.2 + 1 < (ruleOf b p.1).1.length := by
        have := of_decide_eq_false hb
        omega
      refine runs_nil (runs_nil ⟨.va (nD p.1), .va (nD p.2), ?_⟩)
      rw [ea, if_neg h, List.map_nil, List.append_nil]
      rfl
  rintro ρ' ⟨c4, c6, rfl⟩
  refine runs_ret (ev_of_new (evN_sorted (n := 1) (ev_vF 5 rfl) (room100 hr) (okn_map fun _ => okn_prD) (srtb_of (n := 1) (fun _ => okn_prD) alike_prD fun p _ => ⟨nD p.1, [nD p.2], rfl⟩) rfl T.sorted)) (rt_eq ?_)
  rw [sortBy_map]
  rfl
end
end K8
/-! Towers: walks of sums_of, turn_of. -/
namespace K8
open PySem PySem.Spec PyProof.Rows L2
def letL (cs : List (List Int)) (l : Nat) : List Int := cs.map fun c => c.getD l 0
def sumC (b : Bk) (r : Nat) : List Int := (List.range b.m).map fun l => (letL (chgL b.m (ruleOf b r)) l).sum
def sumsF (b : Bk) (left : List Nat) : List (List Int) := left.map (sumC b)
def turnF (v : Wr) (line : List Int) : Int := match v with
  | .even => line.sum
  | .early => (line.filter fun x => decide (x ≠ 0)).headD 0
  | .late => (line.filter fun x => decide (x ≠ 0)).getLastD 0
theorem chg_length (m x y : Nat) : (chg m x y).length = m := by simp [chg]
theorem chgL_length (m : Nat) (r : Rule) (h : r.2.length = r.1.length) : (chgL m r).length = r.1.length := by
  unfold chgL
  rw [List.length_map, List.length_zip]
  omega
section
variable {P : Program} {w : World} {K : PySem.W.Frag} {mg : Str → Option Value} {base : Heap}
theorem sc_sums_of : FnScope ["book", "left", "counts", "found", "rule", "line", "letter"] ["book", "left"] (defScope s_sums_of) := ⟨rfl, rfl, rfl, by decide +kernel, rfl, by decide +kernel, by decide +kernel⟩
def R_sums_of (ds : List D) (d : D) : Prop := ∃ (b : Bk) (left : List Nat), BkOk b ∧ left.length ≤ 100 ∧ (∀ r ∈ left, r < b.rs.length) ∧ ds = [bkD b, nsD left] ∧ d = colsD (sumsF b left)
theorem ok_sums_of (T : Gb K mg) (A : DefAt K mg "sums_of" s_sums_of) (G_changes : DefOk P w K mg base "changes" 1 ["book"] (spD K R_changes)) : DefOk P w K mg base "sums_of" 2 ["book", "left"] (spD K R_sums_of) := by
  refine fn_ok A sc_sums_of (by decide) (fun _ _ _ _ _ _ us hl => match us, hl with | [_, _], _ => rfl) (fun ds d h => by obtain ⟨_, _, _, _, _, rfl, _⟩ := h; rfl) ?_
  intro f cdv A' outer s H E hr ds d ⟨b, left, B, hll, hlr, e1, e2⟩
  subst e1 e2
  have m3 := B.m3
  refine runs_step (run_asgC 2 3 (evP_cons (ev_call G_changes (hr.mono (by decide)) rfl (evA_cons (ev_v 0 rfl) evA_nil) ⟨b, B, rfl, rfl⟩) (evP_consN (evN_lst evA_nil) evP_nil)) rfl sc_sums_of.nd rfl rfl (.inr rfl) (.inl rfl) (.inr ⟨_, rfl⟩) (.inl rfl) (Nat.le_of_ble_eq_true rfl)) ?_
  refine runs_for left nD (fun pre ρ => ∃ c4 c5 c6, c5.own = false ∧ c6.own = false ∧ ρ = [.va (bkD b), .va (nsD left), .va (.lst ((chgF b).map colsD)), .ml ((sumsF b pre).map ivD), c4, c5, c6]) .never rfl (itr_lst (ev_v 1 rfl)) ⟨.un, .un, .un, rfl, rfl, rfl⟩ ?_ ?_
  · rintro pre r post ρ' hl ⟨c4, c5, c6, h5, h6, rfl⟩
    have hrr := hlr r (by rw [hl]; simp)
    have U := rule_ok B hrr
    have U1 := U.l3
    have U2 := U.len
    have hpl : pre.length ≤ 100 := by
      rw [hl] at hll
      simp at hll
      omega
    have eL := chgL_length b.m (ruleOf b r) U2
    have eR : (chgF b).getD r [] = chgL b.m (ruleOf b r) := by
      unfold chgF ruleOf
      rw [List.getD_eq_getElem?_getD, List.getElem?_map, List.getD_eq_getElem?_getD, List.getElem?_eq_getElem hrr]
      rfl
    have hcl : r < (chgF b).length := by
      unfold chgF
      rw [List.length_map]
      exact hrr
    refine ⟨_, _, (tg_name 4 sc_sums_of.nd rfl (.inr rfl)), ?_⟩
    refine runs_step (run_app 3 rfl (.inl rfl) (ev_of_new (evN_map1c (List.range b.m) nD (fun l => D.int (letL (chgL b.m (ruleOf b r)) l).sum) 6 rfl sc_sums_of.nd (itr_range1 (ev_ix (ev_v 0 rfl) ev_int at_bk0) (by omega) rfl T.range) (blkOk_by rfl) (by rw [List.length_range]; show _ < sizeLine; unfold sizeLine; omega) rfl rfl (fun l hlm X' hX => by
      obtain ⟨_, _, _, _, _, rfl⟩ := hX
      have hlm := List.mem_range.mp hlm
      refine (ev_sum (ns := letL (chgL b.m (ruleOf b r)) l) (ev_eq (ev_of_new (evN_map1 (chgL b.m (ruleOf b r)) ivD (fun c => D.int (c.getD l 0)) 5 rfl sc_sums_of.nd (itr_lst (ev_ix (d := colsD (chgL b.m (ruleOf b r))) (ev_v 2 rfl) (ev_v 4 rfl) (by
        have := at_map (f := colsD) (d0 := []) hcl
        rw [eR] at this
        exact iop_lst this))) (blkOk_by rfl) (by rw [eL]; show _ < sizeLine; unfold sizeLine; omega) rfl rfl (fun c hc X' hX => by
          obtain ⟨_, _, _, _, _, rfl⟩ := hX
          have hcl : c.length = b.m := by
            unfold chgL at hc
            obtain ⟨p, _, rfl⟩ := List.mem_map.mp hc
            exact chg_length ..
          exact (ev_ix (ev_v 5 rfl) (ev_v 6 rfl) (at_iv (by omega)))) (by rintro _ ⟨⟩; exact h5))) (by unfold letL; rw [List.map_map]; rfl)) rfl rfl T.sum)) (by rintro _ ⟨⟩; exact h6))) rfl (by intro h; cases h) rfl rfl (by rw [List.length_map]; unfold sumsF; rw [List.length_map]; show _ < sizeLine; unfold sizeLine; omega)) ?_
    refine runs_nil ⟨.va (nD r), c5, c6, h5, h6, ?_⟩
    have e : (sumsF b (pre ++ [r])).map ivD = (sumsF b pre).map ivD ++ [.lst ((List.range b.m).map fun l => D.int (letL (chgL b.m (ruleOf b r)) l).sum)] := by
      unfold sumsF
      rw [List.map_append, List.map_append, List.map_cons, List.map_nil, List.map_cons, List.map_nil]
      congr 2
      unfold sumC ivD
      rw [List.map_map]
      rfl
    rw [e]
    rfl
  rintro ρ' ⟨c4, c5, c6, h5, h6, rfl⟩
  exact runs_ret (ev_vF 3 rfl) (rt_eq rfl)
theorem sc_turn_of : FnScope ["word", "line", "some", "one"] ["word", "line"] (defScope s_turn_of) := ⟨rfl, rfl, rfl, by decide +kernel, rfl, by decide +kernel, by decide +kernel⟩
def R_turn_of (ds : List D) (d : D) : Prop := ∃ (v : Wr) (line : List Int), line.length ≤ 100 ∧ ds = [v.d, ivD line] ∧ d = .int (turnF v line)
theorem ok_turn_of (T : Gb K mg) (A : DefAt K mg "turn_of" s_turn_of) : DefOk P w K mg base "turn_of" 1 ["word", "line"] (spD K R_turn_of) := by
  refine fn_ok A sc_turn_of (by decide) (fun _ _ _ _ _ _ us hl => match us, hl with | [_, _], _ => rfl) (fun ds d h => by obtain ⟨_, _, _, rfl, _⟩ := h; rfl) ?_
  intro f cdv A' outer s H E hr ds d ⟨v, line, hl, e1, e2⟩
  subst e1 e2
  refine runs_if (evB_cmp (ev_v 0 rfl) ev_str cop_eqS) (fun hb => ?_) (fun hb => ?_)
  · rw [str_even] at hb
    obtain rfl := of_decide_eq_true hb
    exact runs_ret (ev_sum (ev_v 1 rfl) rfl rfl T.sum) (rt_eq rfl)
  rw [str_even] at hb
  have hne := of_decide_eq_false hb
  refine runs_nil ?_
  refine runs_step (run_lc1 2 line D.int (fun x => decide (x ≠ 0)) D.int 3 rfl sc_turn_of.nd rfl rfl rfl (itr_lst (ev_v 1 rfl)) (blkOk_by rfl) (by show _ < sizeLine; unfold sizeLine; omega) rfl rfl (fun x hx X' hX => by
    obtain ⟨_, _, _, _, _, rfl⟩ := hX
    have e : decide (x ≠ 0) = !decide (x = 0) := by by_cases z : x = 0 <;> simp [z]
    rw [e]
    exact (evTs_one (evB_cmp (ev_v 3 rfl) ev_int cop_neI))) (fun x hx hb X' hX => by obtain ⟨_, _, _, _, _, rfl⟩ := hX; exact (ev_v 3 rfl)) (by rintro _ ⟨⟩; rfl)) ?_
  generalize hS : line.filter (fun x => decide (x ≠ 0)) = some
  refine runs_if (evB_cmp (ev_vF 2 rfl) (ev_lst evA_nil) (cop_eqD (n := 1) hr (okn_lst (okn_map fun _ => okn_int)) (okn_lst (by intro x hx; cases hx)))) (fun hb => ?_) (fun hb => ?_)
  · rw [beq_nil _ 0 (okn_map fun _ => okn_int)] at hb
    have e : some = [] := by simpa using hb
    have et : turnF v line = 0 := by
      cases v with
      | even => exact absurd rfl hne
      | early => show (line.filter _).headD 0 = 0; rw [hS, e]; rfl
      | late => show (line.filter _).getLastD 0 = 0; rw [hS, e]; rfl
    rw [et]
    exact runs_ret ev_int (rt_eq rfl)
  rw [beq_nil _ 0 (okn_map fun _ => okn_int)] at hb
  have hsome : some ≠ [] := by
    intro z
    rw [z] at hb
    cases hb
  refine runs_nil ?_
  refine runs_ret (d := .int (turnF v line)) (ev_ifexpP (evB_cmp (ev_v 0 rfl) ev_str cop_eqS) (fun h => ?_) (fun h => ?_)) (rt_eq rfl)
  · rw [str_early] at h
    obtain rfl := of_decide_eq_true h
    cases some with
    | nil => exact absurd rfl hsome
    | cons x xs =>
      have e : turnF .early line = x := by show (line.filter _).headD 0 = x; rw [hS]; rfl
      rw [e]
      exact ev_ix (ev_v (d := .lst ((x :: xs).map D.int)) 2 rfl) ev_int (iop_lst at_zero)
  · rw [str_early] at h
    have hl : v = .late := by
      cases v with
      | even => exact absurd rfl hne
      | early => exact absurd rfl (of_decide_eq_false h)
      | late => rfl
    subst hl
    have e : turnF .late line = some.getLastD 0 := by show (line.filter _).getLastD 0 = _; rw [hS]
    rw [e]
    exact ev_ix (ev_v (d := .lst (some.map D.int)) 2 rfl) (ev_neg ev_int) (iop_lst (at_last (List.length_pos_iff.mpr hsome)))
end
end K8
set_option maxHeartbeats 2000000
/-! Towers: spread_of. -/
namespace K8
open PySem PySem.Spec PyProof.Rows L2
def addAt (b : Bk) (v : Wr) (f : List Rw) (p : Pl) (x : Rat) : List Rw := f.set p.1 ((f.getD p.1 []).set (placeAt b v p) (gt (f.getD p.1 []) (placeAt b v p) + x))
def spread0 (b : Bk) : List Rw := b.rs.map fun r => List.replicate r.1.length 0
def spreadStep (b : Bk) (v : Wr) (ps : List Pl) (told : List Sol) (f : List Rw) (i : Nat) : List Rw := match told.getD i (.inr []) with
  | .inr _ => f
  | .inl xs => (ps.zip xs).foldl (fun f t => addAt b v f t.1 t.2) (addAt b v f (ps.getD i (0, 0)) 1)
def spreadN (b : Bk) (v : Wr) (ps : List Pl) (told : List Sol) : Nat → List Rw
  | 0 => spread0 b
  | n + 1 => spreadStep b v ps told (spreadN b v ps told n) n
def cutR : List Rule → List Int → List (List Int)
  | [], _ => []
  | r :: rs, z => z.take r.1.length :: cutR rs (z.drop r.1.length)
def spreadD (b : Bk) (v : Wr) (ps : List Pl) (told : List Sol) : D := .tup ((cutR b.rs (wholeF (spreadN b v ps told ps.length).flatten)).map fun z => .tup (z.map D.int))
/-- a spread's shape, with how great its numbers are -/
structure FSz (b : Bk) (f : List Rw) (t : Nat → Nat → Nat) : Prop where
  len : f.length = b.rs.length
  row : ∀ r, r < b.rs.length → (f.getD r []).length = (ruleOf b r).1.length
  sz : ∀ r s, r < b.rs.length → s < (ruleOf b r).1.length → Sz (t r s) (gt (f.getD r []) s)
theorem placeAt_lt {b : Bk} {v : Wr} {p : Pl} (ok : PlOk b p) : placeAt b v p < (ruleOf b p.1).1.length := by
  have := ok.d
  unfold placeAt
  split <;> omega
theorem placeAt_inj {b : Bk} {v : Wr} {p q : Pl} (okp : PlOk b p) (okq : PlOk b q) (h1 : p.1 = q.1) (h2 : placeAt b v p = placeAt b v q) : p = q := by
  have a := okp.d
  have c := okq.d
  unfold placeAt at h2
  rw [h1] at h2 a
  refine Prod.ext h1 ?_
  split at h2 <;> omega
theorem getD_set {α : Type} {l : List α} {i j : Nat} {x d0 : α} (hi : i < l.length) : (l.set i x).getD j d0 = if j = i then x else l.getD j d0 := by
  rw [List.getD_eq_getElem?_getD, List.getElem?_set, List.getD_eq_getElem?_getD]
  by_cases z : i = j
  · subst z
    rw [if_pos rfl, if_pos hi, if_pos rfl]
    rfl
  · rw [if_neg z, if_neg (fun y => z y.symm)]
theorem FSz.add {b : Bk} {v : Wr} {f : List Rw} {t : Nat → Nat → Nat} (F : FSz b f t) {p : Pl} (ok : PlOk b p) {x : Rat} {k : Nat} (hx : Sz k x) : FSz b (addAt b v f p x) (fun r s => if r = p.1 ∧ s = placeAt b v p then t r s + k + 1 else t r s) := by
  have hp : p.1 < f.length := by rw [F.len]; exact ok.r
  have hs := placeAt_lt (v := v) ok
  have hrow := F.row p.1 ok.r
  refine ⟨by unfold addAt; rw [List.length_set]; exact F.len, fun r hr => ?_, fun r s hr hsr => ?_⟩
  · unfold addAt
    rw [getD_set hp]
    split
    · rename_i z
      rw [List.length_set, hrow, z]
    · exact F.row r hr
  · unfold addAt
    rw [getD_set hp]
    by_cases z : r = p.1
    · subst z
      rw [if_pos rfl, gt_set (by rw [hrow]; exact hs)]
      by_cases y : s = placeAt b v p
      · rw [if_pos y, if_pos ⟨rfl, y⟩, y]
        exact (F.sz _ _ ok.r hs).add hx
      · rw [if_neg y, if_neg fun h => y h.2]
        exact F.sz _ _ hr hsr
    · rw [if_neg z, if_neg fun h => z h.1]
      exact F.sz _ _ hr hsr
theorem FSz.mono {b : Bk} {f : List Rw} {t t' : Nat → Nat → Nat} (F : FSz b f t) (h : ∀ r s, t r s ≤ t' r s) : FSz b f t' :=
  ⟨F.len, F.row, fun r s hr hs => (F.sz r s hr hs).mono (h r s)⟩
theorem spread0_sz (b : Bk) : FSz b (spread0 b) fun _ _ => 1 := by
  have e : ∀ r, r < b.rs.length → (spread0 b).getD r [] = List.replicate (ruleOf b r).1.length 0 := fun r hr => by
    unfold spread0 ruleOf
    rw [List.getD_eq_getElem?_getD, List.getElem?_map, List.getD_eq_getElem?_getD, List.getElem?_eq_getElem hr]
    rfl
  refine ⟨by simp [spread0], fun r hr => by rw [e r hr, List.length_replicate], fun r s hr hs => ?_⟩
  rw [e r hr]
  exact (allSz_zero _).gt (by rw [List.length_replicate]; exact hs)
/-- of a solution: how many and how great -/
def SolFit (n : Nat) : Sol → Prop
  | .inl xs => AllSz 10 xs
  | .inr _ => True
/-- the inner loop, over what it has done -/
theorem fold_sz {b : Bk} {v : Wr} {f : List Rw} {k : Nat} (F : FSz b f fun _ _ => k) : ∀ (q : List (Pl × Rat)), (∀ t ∈ q, PlOk b t.1 ∧ Sz 10 t.2) → (q.map (·.1)).Nodup →
    FSz b (q.foldl (fun f t => addAt b v f t.1 t.2) f) (fun r s => if ∃ t ∈ q, r = t.1.1 ∧ s = placeAt b v t.1 then k + 12 else k) := by
  intro q
  induction hq : q.length generalizing q with
  | zero =>
    intro _ _
    have : q = [] := List.eq_nil_of_length_eq_zero hq
    subst this
    refine F.mono fun r s => ?_
    simp
  | succ n ih =>
    intro ok nd
    obtain ⟨q', t, rfl⟩ := snoc_of hq
    have hq' : q'.length = n := by simpa using hq
    have nd' : (q'.map (·.1)).Nodup ∧ t.1 ∉ q'.map (·.1) := by
      rw [List.map_append, List.nodup_append] at nd
      refine ⟨nd.1, fun hm => nd.2.2 _ hm t.1 (by simp) rfl⟩
    have F' := ih q' hq' (fun x hx => ok x (List.mem_append_left _ hx)) nd'.1
    obtain ⟨okt, szt⟩ := ok t (by simp)
    rw [List.foldl_append, List.foldl_cons, List.foldl_nil]
    refine (F'.add okt szt).mono fun r s => ?_
    by_cases h1 : r = t.1.1 ∧ s = placeAt b v t.1
    · have h2 : ¬ ∃ x ∈ q', r = x.1.1 ∧ s = placeAt b v x.1 := by
        rintro ⟨x, hx, e1, e2⟩
        have := placeAt_inj (ok x (List.mem_append_left _ hx)).1 okt (e1.symm.trans h1.1) (e2.symm.trans h1.2)
        exact nd'.2 (by rw [← this]; exact List.mem_map.mpr ⟨x, hx, rfl⟩)
      rw [if_pos h1, if_neg h2, if_pos ⟨t, by simp, h1⟩]
      omega
    · rw [if_neg h1]
      by_cases h2 : ∃ x ∈ q', r = x.1.1 ∧ s = placeAt b v x.1
      · obtain ⟨x, hx, e⟩ := h2
        rw [if_pos ⟨x, hx, e⟩, if_pos ⟨x, List.mem_append_left _ hx, e⟩]
        exact Nat.le_refl _
      · rw [if_neg h2]
        split <;> omega
theorem zip_take_nodup {α β : Type} : ∀ {l : List α} {m : List β}, l.Nodup → ((l.zip m).map (·.1)).Nodup
  | [], m, _ => by simp
  | a :: l, [], _ => by simp
  | a :: l, b :: m, h => by
    rw [List.zip_cons_cons, List.map_cons, List.nodup_cons]
    rw [List.nodup_cons] at h
    refine ⟨fun hm => h.1 ?_, zip_take_nodup h.2⟩
    obtain ⟨x, hx, e⟩ := List.mem_map.mp hm
    have e : x.1 = a := e
    rw [← e]
    exact (List.of_mem_zip hx).1
structure SpIn (b : Bk) (ps : List Pl) (told : List Sol) : Prop where
  ok : ∀ p ∈ ps, PlOk b p
  nd : ps.Nodup
  few : ps.length ≤ 12
  tl : told.length = ps.length
  fit : ∀ s ∈ told, SolFit ps.length s
theorem spreadN_sz {b : Bk} {v : Wr} {ps : List Pl} {told : List Sol} (S : SpIn b ps told) : ∀ n, n ≤ ps.length → FSz b (spreadN b v ps told n) fun _ _ => 1 + 24 * n
  | 0, _ => spread0_sz b
  | n + 1, h => by
    have F := spreadN_sz (v := v) S n (by omega)
    rw [spreadN]
    unfold spreadStep
    cases hs : told.getD n (.inr []) with
    | inr y => exact F.mono fun _ _ => by omega
    | inl xs =>
      have hxs : AllSz 10 xs := by
        have := S.fit (told.getD n (.inr [])) (getD_mem (by rw [S.tl]; omega))
        rw [hs] at this
        exact this
      have okn : PlOk b (ps.getD n (0, 0)) := S.ok _ (getD_mem (by omega))
      have F1 : FSz b (addAt b v (spreadN b v ps told n) (ps.getD n (0, 0)) 1) fun _ _ => 1 + 24 * n + 12 := (F.add okn (x := 1) (k := 1) (by unfold Sz; decide)).mono fun r s => by split <;> omega
      refine (fold_sz F1 (ps.zip xs) (fun t ht => ⟨S.ok _ (List.of_mem_zip ht).1, hxs _ (List.of_mem_zip ht).2⟩) (zip_take_nodup S.nd)).mono fun r s => ?_
      split <;> omega
theorem flat_length {b : Bk} {f : List Rw} {t : Nat → Nat → Nat} (F : FSz b f t) : f.flatten.length = (b.rs.map fun r => r.1.length).sum := by
  rw [List.length_flatten]
  congr 1
  apply List.ext_getElem?
  intro i
  rw [List.getElem?_map, List.getElem?_map]
  by_cases h : i < b.rs.length
  · have h' : i < f.length := by rw [F.len]; exact h
    have := F.row i h
    rw [List.getD_eq_getElem?_getD, List.getElem?_eq_getElem h'] at this
    unfold ruleOf at this
    rw [List.getD_eq_getElem?_getD, List.getElem?_eq_getElem h] at this
    rw [List.getElem?_eq_getElem h, List.getElem?_eq_getElem h']
    exact congrArg some this
  · rw [List.getElem?_eq_none (by rw [F.len]; omega), List.getElem?_eq_none (by omega)]
    rfl
theorem flat_sz {b : Bk} {f : List Rw} {k : Nat} (F : FSz b f fun _ _ => k) : AllSz k f.flatten := by
  intro x hx
  obtain ⟨row, hr, hx⟩ := List.mem_flatten.mp hx
  obtain ⟨i, hi, e⟩ := List.mem_iff_getElem.mp hr
  obtain ⟨j, hj, rfl⟩ := mem_gt hx
  have hi' := hi
  rw [F.len] at hi'
  have e' : f.getD i [] = row := by rw [List.getD_eq_getElem?_getD, List.getElem?_eq_getElem hi]; exact e
  have := F.sz i j hi' (by rw [← F.row i hi', e']; exact hj)
  rw [e'] at this
  exact this
def mmD (f : List Rw) : List (List D) := f.map fun r => r.map rq
theorem mmD_get {f : List Rw} {r : Nat} (h : r < f.length) : (mmD f)[r]? = some ((f.getD r []).map rq) := by
  unfold mmD
  rw [List.getElem?_map, List.getElem?_eq_getElem h, List.getD_eq_getElem?_getD, List.getElem?_eq_getElem h]
  rfl
theorem row_get {r : Rw} {s : Nat} (h : s < r.length) : (r.map rq)[s]? = some (rq (gt r s)) := by
  unfold gt
  rw [List.getElem?_map, List.getElem?_eq_getElem h, List.getD_eq_getElem?_getD, List.getElem?_eq_getElem h]
  rfl
theorem mmD_add (b : Bk) (v : Wr) (f : List Rw) (p : Pl) (x : Rat) : (mmD f).set p.1 (((f.getD p.1 []).map rq).set (placeAt b v p) (rq (gt (f.getD p.1 []) (placeAt b v p) + x))) = mmD (addAt b v f p x) := by
  unfold mmD addAt
  rw [List.map_set, List.map_set]
section
variable {P : Program} {w : World} {K : PySem.W.Frag} {mg : Str → Option Value} {base : Heap}
theorem sc_spread_of : FnScope ["book", "places", "told", "word", "left", "right", "found", "at", "rule", "depth", "spot", "one", "deep", "more", "flat", "line", "rows"] ["book", "places", "told", "word"] (defScope s_spread_of) := ⟨rfl, rfl, rfl, by decide +kernel, rfl, by decide +kernel, by decide +kernel⟩
def R_spread_of (ds : List D) (d : D) : Prop := ∃ (b : Bk) (v : Wr) (ps : List Pl) (told : List Sol), BkOk b ∧ SpIn b ps told ∧ ds = [bkD b, .lst (ps.map prD), .lst (told.map solD), v.d] ∧ d = spreadD b v ps told
theorem zipD_pr (ps : List Pl) (xs : Rw) : zipD (ps.map prD) (xs.map rq) = (ps.zip xs).map fun t => .tup [prD t.1, rq t.2] := by
  unfold zipD
  rw [List.zip_map, List.map_map]
  rfl
theorem ok_spread_of (T : Gb K mg) (A : DefAt K mg "spread_of" s_spread_of) (G_place_at : DefOk P w K mg base "place_at" 1 ["book", "rule", "depth", "word"] (spD K R_place_at)) (G_plus : DefOk P w K mg base "plus" 3 ["one", "other"] (spD K R_plus)) (G_whole : DefOk P w K mg base "whole" 2 ["ratios"] (spD K R_whole)) : DefOk P w K mg base "spread_of" 4 ["book", "places", "told", "word"] (spD K R_spread_of) := by
  refine fn_ok A sc_spread_of (by decide) (fun _ _ _ _ _ _ us hl => match us, hl with | [_, _, _, _], _ => rfl) (fun ds d h => by obtain ⟨_, _, _, _, _, _, rfl, _⟩ := h; rfl) ?_
  intro f cdv A' outer s H E hr ds d ⟨b, v, ps, told, B, S, e1, e2⟩
  subst e1 e2
  have few := B.few
  have pfew := S.few
  have htl := S.tl
  refine runs_step (run_mapR2 6 b.rs (fun r => wd r.1) (fun r => wd r.2) (fun r => (List.replicate r.1.length (0 : Rat)).map rq) 4 5 rfl sc_spread_of.nd rfl rfl rfl (itr_tup (ds := b.rs.map ruD) (ev_ix (ev_v 0 rfl) ev_int at_bk1)) (blkOk_by rfl) (by show _ < sizeLine; unfold sizeLine; omega) rfl rfl rfl rfl (fun r hrm X' hX => by
    obtain ⟨_, _, _, _, _, rfl⟩ := hX
    have U1 := (B.ru r hrm).l3
    exact (evN_eq (evN_rep (n := r.1.length) (ev_lst (evA_cons (ev_tup (evA_cons ev_int (evA_cons ev_int evA_nil))) evA_nil)) (ev_len (n := r.1.length) (ev_v (d := wd r.1) 4 rfl) (len_wd _) rfl T.len) (by show 1 * _ ≤ sizeLine; unfold sizeLine; omega) (by omega)) (by
      rw [rep_one, List.map_replicate]
      rfl))) (by decide) (by rintro _ ⟨⟩; rfl) (by rintro _ ⟨⟩; rfl)) ?_
  have e0 : (b.rs.map fun r => (List.replicate r.1.length (0 : Rat)).map rq) = mmD (spreadN b v ps told 0) := by
    show _ = mmD (spread0 b)
    unfold mmD spread0
    rw [List.map_map]
    rfl
  rw [e0]
  refine runs_for (List.range ps.length) (fun i => .tup [nD i, prD (ps.getD i (0, 0))]) (fun pre ρ => ∃ c4 c5 c7 c8 c9 c10 c11 c12 c13, ρ = [.va (bkD b), .va (.lst (ps.map prD)), .va (.lst (told.map solD)), .va v.d, c4, c5, .mm (mmD (spreadN b v ps told pre.length)), c7, c8, c9, c10, c11, c12, c13, .un, .un, .un]) .never rfl (itr_enumLr prD ps (0, 0) (ev_v 1 rfl) rfl T.enumerate) ⟨.un, .un, .un, .un, .un, .un, .un, .un, .un, rfl⟩ ?_ ?_
  · rintro pre i post ρ' hl ⟨c4, c5, c7, c8, c9, c10, c11, c12, c13, rfl⟩
    obtain ⟨ea, ha⟩ := range_split hl
    rw [← ea] at ha ⊢
    have F := spreadN_sz (v := v) S i (by omega)
    have ok0 : PlOk b (ps.getD i (0, 0)) := S.ok _ (getD_mem (by omega))
    have eN : (pre ++ [i]).length = i + 1 := by rw [List.length_append, ← ea]; rfl
    rw [eN, spreadN]
    unfold spreadStep
    have hfit := S.fit (told.getD i (.inr [])) (getD_mem (by omega))
    have hat := at_map (f := solD) (l := told) (i := i) (d0 := .inr []) (by omega)
    refine ⟨_, _, (tg_tup rfl (tgs_cons (tg_name 7 sc_spread_of.nd rfl (.inl rfl)) (tgs_cons (tg_tup rfl (tgs_cons (tg_name 8 sc_spread_of.nd rfl (.inl rfl)) (tgs_cons (tg_name 9 sc_spread_of.nd rfl (.inl rfl)) tgs_nil))) tgs_nil))), ?_⟩
    generalize told.getD i (.inr []) = sl at *
    generalize hp : ps.getD i (0, 0) = p at *
    generalize hf : spreadN b v ps told i = g at *
    cases sl with
    | inr y =>
      refine runs_if (evB_notNone (ev_ix (d := .non) (ev_ix (ev_v 2 rfl) (ev_v 7 rfl) (iop_lst hat)) ev_int (iop_tup rfl))) (fun hb => absurd hb (by decide)) (fun hb => ?_)
      exact runs_nil (runs_nil ⟨c4, c5, .va (nD i), .va (nD p.1), .va (nD p.2), c10, c11, c12, c13, rfl⟩)
    | inl xs =>
      have hxs : AllSz 10 xs := hfit
      refine runs_if (evB_notNone (ev_ix (d := rowD xs) (ev_ix (ev_v 2 rfl) (ev_v 7 rfl) (iop_lst hat)) ev_int (iop_tup rfl))) (fun hb => ?_) (fun hb => Bool.noConfusion (show true = false from hb))
      have hp1 : p.1 < g.length := by rw [F.len]; exact ok0.r
      have hps := placeAt_lt (v := v) ok0
      refine runs_set 10 (ev_call G_place_at (hr.mono (by decide)) rfl (evA_cons (ev_v 0 rfl) (evA_cons (ev_v 8 rfl) (evA_cons (ev_v 9 rfl) (evA_cons (ev_v 3 rfl) evA_nil)))) ⟨b, p, v, ok0, rfl, rfl⟩) sc_spread_of.nd rfl (.inl rfl) ?_
      have szg := F.sz p.1 (placeAt b v p) ok0.r hps
      refine runs_step (run_setR (r := p.1) (t := placeAt b v p) 6 8 10 (ev_call G_plus (hr.mono (by decide)) rfl (evA_cons (ev_ixR (r := p.1) (t := placeAt b v p) 6 8 10 rfl rfl rfl (mmD_get hp1) (row_get (by rw [F.row _ ok0.r]; exact hps))) (evA_cons (ev_tup (evA_cons ev_int (evA_cons ev_int evA_nil))) evA_nil)) ⟨_, 1, szg.mono (by omega), by unfold Sz; decide, rfl, rfl⟩) rfl rfl rfl (mmD_get hp1) (by rw [List.length_map, F.row _ ok0.r]; exact hps)) ?_
      rw [mmD_add]
      have F1 : FSz b (addAt b v g p 1) fun _ _ => 1 + 24 * i + 12 := (F.add ok0 (x := 1) (k := 1) (by unfold Sz; decide)).mono fun r s => by split <;> omega
      refine runs_for (ps.zip xs) (fun t => .tup [prD t.1, rq t.2]) (fun q ρ => ∃ c10 c11 c12 c13, ρ = [.va (bkD b), .va (.lst (ps.map prD)), .va (.lst (told.map solD)), .va v.d, c4, c5, .mm (mmD (q.foldl (fun f t => addAt b v f t.1 t.2) (addAt b v g p 1))), .va (nD i), .va (nD p.1), .va (nD p.2), c10, c11, c12, c13, .un, .un, .un]) .never rfl (itr_eq (itr_zip (ev_v 1 rfl) (ev_ix (d := rowD xs) (ev_ix (ev_v 2 rfl) (ev_v 7 rfl) (iop_lst hat)) ev_int (iop_tup rfl)) (.inl ⟨rfl, rfl⟩) rfl T.zip) (zipD_pr ps xs)) ⟨_, c11, c12, c13, rfl⟩ ?_ ?_
      · rintro q t rest ρ' hl2 ⟨c10, c11, c12, c13, rfl⟩
        have hall : ∀ t ∈ ps.zip xs, PlOk b t.1 ∧ Sz 10 t.2 := fun t ht => ⟨S.ok _ (List.of_mem_zip ht).1, hxs _ (List.of_mem_zip ht).2⟩
        have hnd := zip_take_nodup (m := xs) S.nd
        obtain ⟨okt, szt⟩ := hall t (by rw [hl2]; simp)
        have F2 := fold_sz (v := v) F1 q (fun x hx => hall x (by rw [hl2]; simp [hx])) (by
          rw [hl2, List.map_append] at hnd
          exact (List.nodup_append.mp hnd).1)
        obtain ⟨g2, hg2⟩ : ∃ g2, g2 = q.foldl (fun f t => addAt b v f t.1 t.2) (addAt b v g p 1) := ⟨_, rfl⟩
        rw [← hg2] at F2 ⊢
        have F3 : FSz b g2 fun _ _ => 400 := F2.mono fun r s => by split <;> omega
        have hp2 : t.1.1 < g2.length := by rw [F3.len]; exact okt.r
        have hps2 := placeAt_lt (v := v) okt
        refine ⟨_, _, (tg_tup rfl (tgs_cons (tg_tup rfl (tgs_cons (tg_name 11 sc_spread_of.nd rfl (.inl rfl)) (tgs_cons (tg_name 12 sc_spread_of.nd rfl (.inl rfl)) tgs_nil))) (tgs_cons (tg_name 13 sc_spread_of.nd rfl (.inl rfl)) tgs_nil))), ?_⟩
        refine runs_set 10 (ev_call G_place_at (hr.mono (by decide)) rfl (evA_cons (ev_v 0 rfl) (evA_cons (ev_v 11 rfl) (evA_cons (ev_v 12 rfl) (evA_cons (ev_v 3 rfl) evA_nil)))) ⟨b, t.1, v, okt, rfl, rfl⟩) sc_spread_of.nd rfl (.inl rfl) ?_
        have szg2 := F3.sz t.1.1 (placeAt b v t.1) okt.r hps2
        refine runs_step (run_setR (r := t.1.1) (t := placeAt b v t.1) 6 11 10 (ev_call G_plus (hr.mono (by decide)) rfl (evA_cons (ev_ixR (r := t.1.1) (t := placeAt b v t.1) 6 11 10 rfl rfl rfl (mmD_get hp2) (row_get (by rw [F3.row _ okt.r]; exact hps2))) (evA_cons (ev_v 13 rfl) evA_nil)) ⟨_, t.2, szg2.mono (by decide), szt.mono (by decide), rfl, rfl⟩) rfl rfl rfl (mmD_get hp2) (by rw [List.length_map, F3.row _ okt.r]; exact hps2)) ?_
        rw [mmD_add]
        refine runs_nil ⟨.va (nD (placeAt b v t.1)), .va (nD t.1.1), .va (nD t.1.2), .va (rq t.2), ?_⟩
        rw [List.foldl_append, ← hg2]
        rfl
      rintro ρ' ⟨c10, c11, c12, c13, rfl⟩
      exact runs_nil (runs_nil ⟨c4, c5, .va (nD i), .va (nD p.1), .va (nD p.2), c10, c11, c12, c13, rfl⟩)
  rintro ρ' ⟨c4, c5, c7, c8, c9, c10, c11, c12, c13, rfl⟩
  rw [List.length_range]
  have F := spreadN_sz (v := v) S ps.length (Nat.le_refl _)
  have fl := flat_length F
  have fz := flat_sz F
  have tot := B.tot
  have flen := F.len
  show Runs _ _ _ (fun o => (∃ ρ, o = Out.rt (spreadD b v ps told) ρ) ∨ _)
  unfold spreadD
  generalize spreadN b v ps told ps.length = g at *
  refine runs_set 14 (ev_lst evA_nil) sc_spread_of.nd rfl (.inl rfl) ?_
  have emm : (mmD g).map D.lst = g.map rowD := by
    unfold mmD
    rw [List.map_map]
    rfl
  refine runs_for g rowD (fun pre ρ => ∃ c15, ρ = [.va (bkD b), .va (.lst (ps.map prD)), .va (.lst (told.map solD)), .va v.d, c4, c5, .va (.lst ((mmD g).map D.lst)), c7, c8, c9, c10, c11, c12, c13, .va (rowD pre.flatten), c15, .un]) .never rfl (itr_eq (itr_lst (ev_vR 6 rfl)) emm) ⟨.un, rfl⟩ ?_ ?_
  · rintro pre row post ρ' hl ⟨c15, rfl⟩
    refine ⟨_, _, (tg_name 15 sc_spread_of.nd rfl (.inl rfl)), ?_⟩
    refine runs_set 14 (ev_op (ev_v (d := rowD pre.flatten) 14 rfl) (ev_v (d := rowD row) 15 rfl) (bop_cat ?_)) sc_spread_of.nd rfl (.inl rfl) ?_
    · rw [List.length_map, List.length_map]
      have : (pre ++ row :: post).flatten.length ≤ 12 := by rw [← hl, fl]; exact tot
      rw [List.flatten_append, List.flatten_cons, List.length_append, List.length_append] at this
      show _ ≤ sizeLine
      unfold sizeLine
      omega
    refine runs_nil ⟨.va (rowD row), ?_⟩
    have e : rowD (pre ++ [row]).flatten = .lst (pre.flatten.map rq ++ row.map rq) := by
      rw [List.flatten_append, List.flatten_cons, List.flatten_nil, List.append_nil]
      unfold rowD
      rw [List.map_append]
    rw [e]
    rfl
  rintro ρ' ⟨c15, rfl⟩
  refine runs_step (run_parC 14 16 (evP_cons (ev_call G_whole (hr.mono (by decide)) rfl (evA_cons (ev_v 14 rfl) evA_nil) ⟨g.flatten, 1 + 24 * ps.length, fz, by omega, ?_, rfl, rfl⟩) (evP_consN (evN_lst evA_nil) evP_nil)) rfl sc_spread_of.nd rfl rfl (by decide) rfl rfl (.inr ⟨_, rfl⟩) (.inl rfl) (Nat.le_of_ble_eq_true rfl) rfl) ?_
  · have h1 : g.flatten.length * (1 + 24 * ps.length) ≤ 12 * (1 + 24 * 12) := Nat.mul_le_mul (by rw [fl]; exact tot) (by omega)
    omega
  obtain ⟨z, hz⟩ : ∃ z, z = wholeF g.flatten := ⟨_, rfl⟩
  rw [← hz]
  refine runs_for b.rs ruD (fun pre ρ => ∃ (c4 c5 : C) (done : List (List Int)) (rest : List Int), done.length ≤ pre.length ∧ cutR b.rs z = done ++ cutR (b.rs.drop pre.length) rest ∧ ρ = [.va (bkD b), .va (.lst (ps.map prD)), .va (.lst (told.map solD)), .va v.d, c4, c5, .va (.lst ((mmD g).map D.lst)), c7, c8, c9, c10, c11, c12, c13, .va (ivD rest), c15, .ml (done.map fun y => .tup (y.map D.int))]) .never rfl (itr_tup (ds := b.rs.map ruD) (ev_ix (ev_v 0 rfl) ev_int at_bk1)) ⟨c4, c5, [], z, Nat.le_refl _, rfl, rfl⟩ ?_ ?_
  · rintro pre r post ρ' hl ⟨c4, c5, done, rest, hd, ecut, rfl⟩
    have hpl : pre.length ≤ 12 := by
      rw [hl] at few
      simp at few
      omega
    have edrop : b.rs.drop pre.length = r :: b.rs.drop (pre.length + 1) := by
      rw [hl]
      simp
    refine ⟨_, _, (tg_tup rfl (tgs_cons (tg_name 4 sc_spread_of.nd rfl (.inl rfl)) (tgs_cons (tg_name 5 sc_spread_of.nd rfl (.inl rfl)) tgs_nil))), ?_⟩
    refine runs_step (run_app 16 rfl (.inl rfl) (ev_tupleL (ev_sliceL (ev_v (d := ivD rest) 14 rfl) evO_none (evO_some (ev_len (n := r.1.length) (ev_v (d := wd r.1) 4 rfl) (len_wd _) rfl T.len))) rfl T.tuple) rfl (by intro h; cases h) rfl rfl (by rw [List.length_map]; show _ < sizeLine; unfold sizeLine; omega)) ?_
    refine runs_set 14 (ev_sliceL (ev_v (d := ivD rest) 14 rfl) (evO_some (ev_len (n := r.1.length) (ev_v (d := wd r.1) 4 rfl) (len_wd _) rfl T.len)) evO_none) sc_spread_of.nd rfl (.inl rfl) ?_
    refine runs_nil ⟨.va (wd r.1), .va (wd r.2), done ++ [rest.take r.1.length], rest.drop r.1.length, by simp; omega, ?_, ?_⟩
    · rw [ecut, edrop, cutR, List.length_append, List.append_assoc]
      rfl
    · rw [cut_to, cut_from, ← List.map_take, ← List.map_drop, List.map_append]
      rfl
  rintro ρ' ⟨c4, c5, done, rest, hd, ecut, rfl⟩
  rw [List.drop_length] at ecut
  have ed : cutR b.rs z = done := by rw [ecut, cutR, List.append_nil]
  refine runs_ret (ev_tupleL (ev_vF 16 rfl) rfl T.tuple) (rt_eq ?_)
  rw [ed]
end
end K8
/-! Towers: the closing's plain laws. -/
namespace K8
open PySem PySem.Spec PyProof.Rows L2
def colOf (b : Bk) (v : Wr) (p : Pl) : List Int := (chgL b.m (ruleOf b p.1)).getD (placeAt b v p) []
def colsF (b : Bk) (v : Wr) (ps : List Pl) : List (List Int) := ps.map (colOf b v)
noncomputable def solP (b : Bk) (v : Wr) (ps : List Pl) (p : Pl) : Sol := solF (colsF b v ps) (negV (colOf b v p))
noncomputable def toldP (b : Bk) (v : Wr) (ps : List Pl) : List Sol := oppF (colsF b v ps)
def isL : Sol → Bool
  | .inl _ => true
  | .inr _ => false
noncomputable def moreF (b : Bk) (v : Wr) (left : List Nat) (c : List Pl) : List Pl := (atF b left c).filter fun p => isL (solP b v (atF b left c) p)
noncomputable def cl (b : Bk) (v : Wr) (left : List Nat) : Nat → List Pl
  | 0 => []
  | k + 1 => moreF b v left (cl b v left k)
theorem toldP_map (b : Bk) (v : Wr) (ps : List Pl) : toldP b v ps = ps.map (solP b v ps) := by
  unfold toldP oppF
  conv => lhs; unfold colsF
  rw [List.map_map]
  rfl
theorem chg_get {m x y k : Nat} (hk : k < m) : (chg m x y).getD k 0 = (if k = x then 1 else 0) - (if k = y then 1 else 0) := by
  unfold chg
  rw [List.getD_eq_getElem?_getD, List.getElem?_map, List.getElem?_range hk]
  rfl
theorem chg_small {m x y : Nat} : ∀ z ∈ chg m x y, z.natAbs ≤ 3 := by
  intro z hz
  unfold chg at hz
  obtain ⟨k, _, rfl⟩ := List.mem_map.mp hz
  split <;> split <;> decide
theorem colOf_chg {b : Bk} (B : BkOk b) {v : Wr} {p : Pl} (ok : PlOk b p) : colOf b v p = chg b.m ((ruleOf b p.1).1.getD (placeAt b v p) 0) ((ruleOf b p.1).2.getD (placeAt b v p) 0) := by
  have U := rule_ok B ok.r
  have h := placeAt_lt (v := v) ok
  have h2 : placeAt b v p < (ruleOf b p.1).2.length := by rw [U.len]; exact h
  have hz : ((ruleOf b p.1).1.zip (ruleOf b p.1).2)[placeAt b v p]? = some ((ruleOf b p.1).1.getD (placeAt b v p) 0, (ruleOf b p.1).2.getD (placeAt b v p) 0) := by
    rw [List.getElem?_zip_eq_some]
    have q1 : (ruleOf b p.1).1[placeAt b v p]? = some ((ruleOf b p.1).1.getD (placeAt b v p) 0) := by rw [List.getD_eq_getElem?_getD, List.getElem?_eq_getElem h]; rfl
    have q2 : (ruleOf b p.1).2[placeAt b v p]? = some ((ruleOf b p.1).2.getD (placeAt b v p) 0) := by rw [List.getD_eq_getElem?_getD, List.getElem?_eq_getElem h2]; rfl
    exact ⟨q1, q2⟩
  unfold colOf chgL
  rw [List.getD_eq_getElem?_getD, List.getElem?_map, hz]
  rfl
theorem colsF_ok {b : Bk} (B : BkOk b) {v : Wr} {ps : List Pl} (ok : ∀ p ∈ ps, PlOk b p) : ColsOk b.m (colsF b v ps) := by
  intro c hc
  obtain ⟨p, hp, rfl⟩ := List.mem_map.mp hc
  rw [colOf_chg B (ok p hp)]
  exact ⟨chg_length .., chg_small⟩
/-- y against c -/
def dot (m : Nat) (y : Rw) (c : List Int) : Rat := sm m fun k => gt y k * (c.getD k 0 : Rat)
theorem neg_get (v : List Int) (k : Nat) : (negV v).getD k 0 = -(v.getD k 0) := by
  unfold negV
  rw [List.getD_eq_getElem?_getD, List.getElem?_map, List.getD_eq_getElem?_getD]
  cases v[k]? <;> rfl
/-- what a solution of the opposite says, by columns -/
theorem sol_cols {h : Nat} (hh : h = 2 ∨ h = 3) {cols : List (List Int)} (C : ColsOk h cols) {v : List Int} (hv : v ∈ cols) : match solF cols (negV v) with
    | .inl x => AllSz 10 x ∧ x.length = cols.length ∧ (∀ q ∈ x, 0 ≤ q) ∧ ∀ k, k < h → (sm cols.length fun j => (colAt cols j k : Rat) * gt x j) = -(v.getD k 0 : Rat)
    | .inr y => y.length = h ∧ AllSz 12 y ∧ (∀ c ∈ cols, dot h y c ≤ 0) ∧ dot h y v < 0 := by
  obtain ⟨V, hl⟩ := vc_of C hv
  have s := sol_spec V (by rw [hl]; exact hh)
  cases hs : solF cols (negV v) with
  | inl x =>
    rw [hs] at s
    obtain ⟨s1, s2, s3⟩ := s
    refine ⟨fun q hq => (s2 q hq).2, s1, fun q hq => (s2 q hq).1, fun k hk => ?_⟩
    rw [s3 k (by rw [hl]; exact hk), neg_get]
    push_cast
    rfl
  | inr y =>
    rw [hs] at s
    obtain ⟨s1, s2, s3, s4⟩ := s
    rw [hl] at s1 s3 s4
    refine ⟨s1, s2, fun c hc => ?_, ?_⟩
    · obtain ⟨j, hj, e⟩ := List.mem_iff_getElem.mp hc
      have := s3 j hj
      unfold dot
      have ec : cols.getD j [] = c := by rw [List.getD_eq_getElem?_getD, List.getElem?_eq_getElem hj]; exact e
      unfold colAt at this
      rw [ec] at this
      exact this
    · have e : (sm h fun k => gt y k * ((negV v).getD k 0 : Rat)) = - dot h y v := by
        unfold dot
        have : (sm h fun k => gt y k * ((negV v).getD k 0 : Rat)) = sm h fun k => (-1) * (gt y k * (v.getD k 0 : Rat)) := sm_congr fun k _ => by
          rw [neg_get]
          push_cast
          grind
        rw [this, sm_mul]
        grind
      rw [e] at s4
      grind
theorem feas_mono {h : Nat} (hh : h = 2 ∨ h = 3) {cols cols' : List (List Int)} (C : ColsOk h cols) (C' : ColsOk h cols') {v : List Int} (hv : v ∈ cols) (hs : ∀ c ∈ cols, c ∈ cols') (hL : isL (solF cols (negV v)) = true) : isL (solF cols' (negV v)) = true := by
  have s := sol_cols hh C hv
  have s' := sol_cols hh C' (hs v hv)
  cases h1 : solF cols (negV v) with
  | inr y =>
    rw [h1] at hL
    cases hL
  | inl x =>
    rw [h1] at s
    cases h2 : solF cols' (negV v) with
    | inl x' => rfl
    | inr y =>
      rw [h2] at s'
      obtain ⟨_, xl, xp, xe⟩ := s
      obtain ⟨_, _, yc, yv⟩ := s'
      have e : dot h y v = - sm cols.length fun j => gt x j * dot h y (cols.getD j []) := by
        have a1 : dot h y v = sm h fun k => - sm cols.length fun j => gt y k * ((colAt cols j k : Rat) * gt x j) := by
          unfold dot
          refine sm_congr fun k hk => ?_
          rw [sm_mul, xe k hk]
          grind
        have a2 : (sm h fun k => - sm cols.length fun j => gt y k * ((colAt cols j k : Rat) * gt x j)) = - sm h fun k => sm cols.length fun j => gt y k * ((colAt cols j k : Rat) * gt x j) := by
          have : (sm h fun k => - sm cols.length fun j => gt y k * ((colAt cols j k : Rat) * gt x j)) = sm h fun k => (-1) * sm cols.length fun j => gt y k * ((colAt cols j k : Rat) * gt x j) := sm_congr fun k _ => by grind
          rw [this, sm_mul]
          grind
        rw [a1, a2, sm_swap]
        congr 1
        refine sm_congr fun j _ => ?_
        unfold dot
        rw [← sm_mul]
        exact sm_congr fun k _ => by
          unfold colAt
          grind
      have : (sm cols.length fun j => gt x j * dot h y (cols.getD j [])) ≤ 0 := by
        have : (sm cols.length fun j => gt x j * dot h y (cols.getD j [])) ≤ sm cols.length fun _ => 0 := sm_le fun j hj => by
          have p1 : 0 ≤ gt x j := by
            unfold gt
            rw [List.getD_eq_getElem?_getD, List.getElem?_eq_getElem (by rw [xl]; exact hj)]
            exact xp _ (List.getElem_mem _)
          have p2 := yc (cols.getD j []) (hs _ (getD_mem hj))
          have := Rat.mul_nonneg p1 (b := - dot h y (cols.getD j [])) (by grind)
          grind
        rw [sm_zero (h := cols.length) (f := fun _ => 0) fun _ _ => rfl] at this
        exact this
      grind
theorem mem_atF {b : Bk} {left : List Nat} {c : List Pl} {p : Pl} : p ∈ atF b left c ↔ (∃ r ∈ left, p = (r, 0)) ∨ ∃ q ∈ c, q.2 + 1 < (ruleOf b q.1).1.length ∧ p = (q.1, q.2 + 1) := by
  unfold atF
  rw [(sortBy_perm prD _).mem_iff]
  unfold atL
  rw [List.mem_append, List.mem_map, List.mem_map]
  constructor
  · rintro (⟨r, hr, rfl⟩ | ⟨q, hq, rfl⟩)
    · exact .inl ⟨r, hr, rfl⟩
    · rw [List.mem_filter] at hq
      exact .inr ⟨q, hq.1, of_decide_eq_true hq.2, rfl⟩
  · rintro (⟨r, hr, rfl⟩ | ⟨q, hq, h, rfl⟩)
    · exact .inl ⟨r, hr, rfl⟩
    · exact .inr ⟨q, List.mem_filter.mpr ⟨hq, decide_eq_true h⟩, rfl⟩
theorem nodup_map {α β : Type} {f : α → β} {l : List α} (hf : ∀ a ∈ l, ∀ b ∈ l, f a = f b → a = b) (h : l.Nodup) : (l.map f).Nodup := by
  rw [List.Nodup, List.pairwise_map]
  exact List.Pairwise.imp_of_mem (fun ha hb hne e => hne (hf _ ha _ hb e)) h
theorem nodup_atF {b : Bk} {left : List Nat} {c : List Pl} (hl : left.Nodup) (hc : c.Nodup) : (atF b left c).Nodup := by
  unfold atF
  rw [(sortBy_perm prD _).nodup_iff]
  unfold atL
  rw [List.nodup_append]
  refine ⟨nodup_map (fun a _ b _ e => (Prod.mk.inj e).1) hl, nodup_map (fun p _ q _ e => ?_) (List.Nodup.sublist List.filter_sublist hc), fun p hp q hq e => ?_⟩
  · have := Prod.mk.inj e
    exact Prod.ext this.1 (by omega)
  · obtain ⟨r, _, rfl⟩ := List.mem_map.mp hp
    obtain ⟨x, _, rfl⟩ := List.mem_map.mp hq
    have := (Prod.mk.inj e).2
    omega
/-- all places -/
def allP (b : Bk) : List Pl := (List.range b.rs.length).flatMap fun r => (List.range (ruleOf b r).1.length).map fun d => (r, d)
theorem mem_allP {b : Bk} {p : Pl} : p ∈ allP b ↔ PlOk b p := by
  unfold allP
  rw [List.mem_flatMap]
  constructor
  · rintro ⟨r, hr, hp⟩
    obtain ⟨d, hd, rfl⟩ := List.mem_map.mp hp
    exact ⟨List.mem_range.mp hr, List.mem_range.mp hd⟩
  · intro ok
    exact ⟨p.1, List.mem_range.mpr ok.r, List.mem_map.mpr ⟨p.2, List.mem_range.mpr ok.d, rfl⟩⟩
theorem allP_length {b : Bk} (B : BkOk b) : (allP b).length ≤ 12 := by
  unfold allP
  rw [List.length_flatMap]
  refine Nat.le_trans (Nat.le_of_eq ?_) B.tot
  congr 1
  apply List.ext_getElem?
  intro i
  rw [List.getElem?_map, List.getElem?_map]
  by_cases h : i < b.rs.length
  · rw [List.getElem?_range h, List.getElem?_eq_getElem h]
    simp only [Option.map_some, List.length_map, List.length_range]
    unfold ruleOf
    rw [List.getD_eq_getElem?_getD, List.getElem?_eq_getElem h]
    rfl
  · rw [List.getElem?_eq_none (by simpa using h), List.getElem?_eq_none (by simpa using h)]
    rfl
theorem places_few {b : Bk} (B : BkOk b) {ps : List Pl} (nd : ps.Nodup) (ok : ∀ p ∈ ps, PlOk b p) : ps.length ≤ 12 :=
  Nat.le_trans (List.Nodup.length_le_of_subset nd fun p hp => mem_allP.mpr (ok p hp)) (allP_length B)
structure LeftOk (b : Bk) (left : List Nat) : Prop where
  nd : left.Nodup
  r : ∀ x ∈ left, x < b.rs.length
structure ClOk (b : Bk) (c : List Pl) : Prop where
  nd : c.Nodup
  ok : ∀ p ∈ c, PlOk b p
  pw : c.Pairwise fun p q => dle (prD p) (prD q) = true
theorem atF_ok {b : Bk} (B : BkOk b) {left : List Nat} (L : LeftOk b left) {c : List Pl} (C : ClOk b c) : ClOk b (atF b left c) :=
  ⟨nodup_atF L.nd C.nd, plok_at B L.r C.ok, sortBy_pw _ _⟩
theorem moreF_ok {b : Bk} (B : BkOk b) {v : Wr} {left : List Nat} (L : LeftOk b left) {c : List Pl} (C : ClOk b c) : ClOk b (moreF b v left c) := by
  have A := atF_ok B L C
  exact ⟨List.Nodup.sublist List.filter_sublist A.nd, fun p hp => A.ok p (List.mem_filter.mp hp).1, List.Pairwise.sublist List.filter_sublist A.pw⟩
theorem cl_ok {b : Bk} (B : BkOk b) (v : Wr) {left : List Nat} (L : LeftOk b left) : ∀ k, ClOk b (cl b v left k)
  | 0 => ⟨List.nodup_nil, fun p hp => (by cases hp), List.Pairwise.nil⟩
  | k + 1 => moreF_ok B L (cl_ok B v L k)
theorem m23 {b : Bk} (B : BkOk b) : b.m = 2 ∨ b.m = 3 := by
  have := B.m2
  have := B.m3
  omega
theorem moreF_mono {b : Bk} (B : BkOk b) {v : Wr} {left : List Nat} (L : LeftOk b left) {c c' : List Pl} (C : ClOk b c) (C' : ClOk b c') (hs : ∀ p ∈ c, p ∈ c') : ∀ p ∈ moreF b v left c, p ∈ moreF b v left c' := by
  intro p hp
  have A := atF_ok B L C
  have A' := atF_ok B L C'
  have hsub : ∀ q ∈ atF b left c, q ∈ atF b left c' := fun q hq => by
    rcases mem_atF.mp hq with h | ⟨x, hx, h⟩
    · exact mem_atF.mpr (.inl h)
    · exact mem_atF.mpr (.inr ⟨x, hs x hx, h⟩)
  unfold moreF at hp ⊢
  rw [List.mem_filter] at hp ⊢
  refine ⟨hsub p hp.1, ?_⟩
  refine feas_mono (m23 B) (colsF_ok B A.ok) (colsF_ok B A'.ok) (List.mem_map.mpr ⟨p, hp.1, rfl⟩) (fun x hx => ?_) hp.2
  obtain ⟨q, hq, rfl⟩ := List.mem_map.mp hx
  exact List.mem_map.mpr ⟨q, hsub q hq, rfl⟩
theorem cl_mono {b : Bk} (B : BkOk b) (v : Wr) {left : List Nat} (L : LeftOk b left) : ∀ k, ∀ p ∈ cl b v left k, p ∈ cl b v left (k + 1)
  | 0, p, hp => by cases hp
  | k + 1, p, hp => moreF_mono B L (cl_ok B v L k) (cl_ok B v L (k + 1)) (cl_mono B v L k) p hp
theorem cl_grow {b : Bk} (B : BkOk b) (v : Wr) {left : List Nat} (L : LeftOk b left) {k : Nat} (hne : cl b v left (k + 1) ≠ cl b v left k) : (cl b v left k).length < (cl b v left (k + 1)).length := by
  have A := cl_ok B v L k
  have A' := cl_ok B v L (k + 1)
  have hle := List.Nodup.length_le_of_subset A.nd (cl_mono B v L k)
  rcases Nat.lt_or_ge (cl b v left k).length (cl b v left (k + 1)).length with h | h
  · exact h
  · refine absurd ?_ hne
    have hall : ∀ p, p ∈ cl b v left (k + 1) ↔ p ∈ cl b v left k := fun p => by
      refine ⟨fun hp => ?_, cl_mono B v L k p⟩
      by_cases z : p ∈ cl b v left k
      · exact z
      · have nd : (p :: cl b v left k).Nodup := List.nodup_cons.mpr ⟨z, A.nd⟩
        have := List.Nodup.length_le_of_subset nd (l₂ := cl b v left (k + 1)) fun q hq => by
          rcases List.mem_cons.mp hq with rfl | hq
          · exact hp
          · exact cl_mono B v L k q hq
        simp at this
        omega
    exact sorted_same (enc := prD) (n := 1) (fun _ => okn_prD) (fun _ _ => prD_inj) alike_prD A'.pw A.pw A'.nd A.nd hall
def ClFin (b : Bk) (v : Wr) (left : List Nat) (K : Nat) : Prop := cl b v left (K + 1) = cl b v left K ∧ ∀ l, l < K → cl b v left (l + 1) ≠ cl b v left l
noncomputable def clK (b : Bk) (v : Wr) (left : List Nat) : Nat := Classical.epsilon (ClFin b v left)
theorem clK_fin {b : Bk} (B : BkOk b) (v : Wr) {left : List Nat} (L : LeftOk b left) : ClFin b v left (clK b v left) := by
  refine Classical.epsilon_spec (p := ClFin b v left) ?_
  have ex : ∃ K, cl b v left (K + 1) = cl b v left K := Classical.byContradiction fun hc => by
    have grow : ∀ k, k ≤ (cl b v left k).length := fun k => by
      induction k with
      | zero => exact Nat.zero_le _
      | succ k ih =>
        have := cl_grow B v L (k := k) fun e => hc ⟨k, e⟩
        omega
    have := places_few B (cl_ok B v L 13).nd (cl_ok B v L 13).ok
    have := grow 13
    omega
  obtain ⟨K, hK⟩ := ex
  induction K using Nat.strongRecOn with
  | _ K ih =>
    by_cases z : ∃ l, l < K ∧ cl b v left (l + 1) = cl b v left l
    · obtain ⟨l, hl, e⟩ := z
      exact ih l hl e
    · exact ⟨K, hK, fun l hl e => z ⟨l, hl, e⟩⟩
noncomputable def lastP (b : Bk) (v : Wr) (left : List Nat) : List Pl := atF b left (cl b v left (clK b v left))
noncomputable def levelF (b : Bk) (v : Wr) (left : List Nat) : List Int := match v with
  | .even => wholeF (wtsF b.m (oppF (sumsF b left)))
  | _ => wholeF (wtsF b.m (toldP b v (lastP b v left)))
end K8
/-! Towers: closing, level. -/
namespace K8
open PySem PySem.Spec PyProof.Rows L2
noncomputable def spreadsL (b : Bk) (v : Wr) (left : List Nat) (k : Nat) : List D := (List.range k).map fun t => spreadD b v (atF b left (cl b v left t)) (toldP b v (atF b left (cl b v left t)))
theorem told_sz {h : Nat} (hh : h = 2 ∨ h = 3) {cols : List (List Int)} (C : ColsOk h cols) : ∀ s ∈ oppF cols, SolSz h s := by
  intro s hs
  unfold oppF at hs
  obtain ⟨c, hc, rfl⟩ := List.mem_map.mp hs
  have := sol_cols hh C hc
  cases e : solF cols (negV c) with
  | inl x =>
    rw [e] at this
    exact this.1
  | inr y =>
    rw [e] at this
    exact ⟨this.1, this.2.1⟩
theorem range_getD {α : Type} (l : List α) (d0 : α) : (List.range l.length).map (fun i => l.getD i d0) = l := by
  apply List.ext_getElem?
  intro i
  rw [List.getElem?_map]
  by_cases h : i < l.length
  · rw [List.getElem?_range h, List.getElem?_eq_getElem h, Option.map_some, List.getD_eq_getElem?_getD, List.getElem?_eq_getElem h]
    rfl
  · rw [List.getElem?_eq_none (by simpa using h), List.getElem?_eq_none (by omega)]
    rfl
theorem range_filter {α β : Type} (l : List α) (d0 : α) (q : α → Bool) (f : α → β) : ((List.range l.length).filter fun i => q (l.getD i d0)).map (fun i => f (l.getD i d0)) = (l.filter q).map f := by
  conv => rhs; rw [← range_getD l d0]
  rw [List.filter_map, List.map_map]
  rfl
section
variable {P : Program} {w : World} {K : PySem.W.Frag} {mg : Str → Option Value} {base : Heap}
theorem sc_closing : FnScope ["book", "left", "word", "counts", "closed", "spreads", "places", "told", "more", "rule", "depth", "at", "one"] ["book", "left", "word"] (defScope s_closing) := ⟨rfl, rfl, rfl, by decide +kernel, rfl, by decide +kernel, by decide +kernel⟩
def R_closing (ds : List D) (d : D) : Prop := ∃ (b : Bk) (v : Wr) (left : List Nat), BkOk b ∧ LeftOk b left ∧ v ≠ .even ∧ ds = [bkD b, nsD left, v.d] ∧ d = .tup [.tup ((levelF b v left).map D.int), .lst (spreadsL b v left (clK b v left))]
theorem left_few {b : Bk} (B : BkOk b) {left : List Nat} (L : LeftOk b left) : left.length ≤ 12 := by
  have := List.Nodup.length_le_of_subset L.nd (l₂ := List.range b.rs.length) fun x hx => List.mem_range.mpr (L.r x hx)
  rw [List.length_range] at this
  have := B.few
  omega
theorem ok_closing (T : Gb K mg) (A : DefAt K mg "closing" s_closing) (G_changes : DefOk P w K mg base "changes" 1 ["book"] (spD K R_changes)) (G_at_hand : DefOk P w K mg base "at_hand" 1 ["book", "left", "closed", "word"] (spD K R_at_hand)) (G_place_at : DefOk P w K mg base "place_at" 1 ["book", "rule", "depth", "word"] (spD K R_place_at)) (G_opposites : DefOk P w K mg base "opposites" 7 ["some"] (spD K R_opposites)) (G_weights_of : DefOk P w K mg base "weights_of" 4 ["many", "told"] (spD K R_weights_of)) (G_spread_of : DefOk P w K mg base "spread_of" 4 ["book", "places", "told", "word"] (spD K R_spread_of)) : DefOk P w K mg base "closing" 8 ["book", "left", "word"] (spD K R_closing) := by
  refine fn_ok A sc_closing (by decide) (fun _ _ _ _ _ _ us hl => match us, hl with | [_, _, _], _ => rfl) (fun ds d h => by obtain ⟨_, _, _, _, _, _, rfl, _⟩ := h; rfl) ?_
  intro f cdv A' outer s H E hr ds d ⟨b, v, left, B, L, hv, e1, e2⟩
  subst e1 e2
  have m3 := B.m3
  have lf := left_few B L
  have fin := clK_fin B v L
  refine runs_step (run_asgC3 3 4 5 (evP_cons (ev_call G_changes (hr.mono (by decide)) rfl (evA_cons (ev_v 0 rfl) evA_nil) ⟨b, B, rfl, rfl⟩) (evP_cons (ev_lst evA_nil) (evP_consN (evN_lst evA_nil) evP_nil))) rfl sc_closing.nd rfl rfl rfl (.inr rfl) (.inl rfl) (.inl rfl) (.inr ⟨_, rfl⟩) (.inr ⟨_, rfl⟩) (.inl rfl) (Nat.le_of_ble_eq_true rfl) (Nat.le_of_ble_eq_true rfl)) ?_
  refine runs_while (fun m ρ => ∃ k c6 c7 c8 c9 c10 c11 c12, k ≤ clK b v left ∧ m = clK b v left - k ∧ c9.own = false ∧ c10.own = false ∧ c11.own = false ∧ c12.own = false ∧ ρ = [.va (bkD b), .va (nsD left), .va v.d, .va (.lst ((chgF b).map colsD)), .va (.lst ((cl b v left k).map prD)), .ml (spreadsL b v left k), c6, c7, c8, c9, c10, c11, c12]) .never ⟨0, .un, .un, .un, .un, .un, .un, .un, Nat.zero_le _, rfl, rfl, rfl, rfl, rfl, rfl⟩ ?_
  rintro m ρ ⟨k, c6, c7, c8, c9, c10, c11, c12, hk, hm, h9, h10, h11, h12, rfl⟩
  refine ⟨true, _, (evB_val ev_bl), fun _ => ?_, fun hb => (Bool.noConfusion hb)⟩
  have C := cl_ok B v L k
  have Ap := atF_ok B L C
  have cfew := places_few B C.nd C.ok
  have pfew := places_few B Ap.nd Ap.ok
  have cols := colsF_ok B (v := v) Ap.ok
  refine runs_set 6 (ev_call G_at_hand (hr.mono (by decide)) rfl (evA_cons (ev_v 0 rfl) (evA_cons (ev_v 1 rfl) (evA_cons (ev_v 4 rfl) (evA_cons (ev_v 2 rfl) evA_nil)))) ⟨b, left, cl b v left k, v, by omega, by omega, fun p hp => (C.ok p hp).r, rfl, rfl⟩) sc_closing.nd rfl (.inl rfl) ?_
  have emore : cl b v left (k + 1) = (atF b left (cl b v left k)).filter fun p => isL (solP b v (atF b left (cl b v left k)) p) := rfl
  have esp : spreadsL b v left (k + 1) = spreadsL b v left k ++ [spreadD b v (atF b left (cl b v left k)) (toldP b v (atF b left (cl b v left k)))] := by
    unfold spreadsL
    rw [List.range_succ, List.map_append]
    rfl
  have elast : k = clK b v left → lastP b v left = atF b left (cl b v left k) := fun e => by rw [e]; rfl
  obtain ⟨ps, hps⟩ : ∃ ps, ps = atF b left (cl b v left k) := ⟨_, rfl⟩
  rw [← hps] at Ap pfew cols emore esp elast ⊢
  have htl : (toldP b v ps).length = ps.length := by rw [toldP_map, List.length_map]
  refine runs_set 7 (ev_call G_opposites (hr.mono (by decide)) rfl (evA_cons (ev_eq (d' := colsD (colsF b v ps)) (ev_of_new (evN_map2 ps (fun p => nD p.1) (fun p => nD p.2) (fun p => ivD (colOf b v p)) 9 10 rfl sc_closing.nd (itr_lst (ds := ps.map prD) (ev_v 6 rfl)) (blkOk_by rfl) (by show _ < sizeLine; unfold sizeLine; omega) rfl rfl rfl rfl (fun p hp X' hX => by
    obtain ⟨_, _, _, _, _, rfl⟩ := hX
    have ok := Ap.ok p hp
    have U := rule_ok B ok.r
    have hcl : p.1 < (chgF b).length := by
      unfold chgF
      rw [List.length_map]
      exact ok.r
    have eR : (chgF b).getD p.1 [] = chgL b.m (ruleOf b p.1) := by
      have okr := ok.r
      unfold chgF ruleOf
      rw [List.getD_eq_getElem?_getD, List.getElem?_map, List.getD_eq_getElem?_getD, List.getElem?_eq_getElem okr]
      rfl
    have a1 := at_map (f := colsD) (d0 := []) hcl
    rw [eR] at a1
    exact (ev_ix (ev_ix (ev_v 3 rfl) (ev_v 9 rfl) (iop_lst a1)) (ev_call G_place_at (hr.mono (by decide)) rfl (evA_cons (ev_v 0 rfl) (evA_cons (ev_v 9 rfl) (evA_cons (ev_v 10 rfl) (evA_cons (ev_v 2 rfl) evA_nil)))) ⟨b, p, v, ok, rfl, rfl⟩) (iop_lst (at_map (f := ivD) (d0 := []) (by rw [chgL_length _ _ U.len]; exact placeAt_lt ok))))) (by decide) (by rintro _ ⟨⟩; exact h9) (by rintro _ ⟨⟩; exact h10))) (by
      unfold colsD colsF
      rw [List.map_map]
      rfl)) evA_nil) ⟨colsF b v ps, b.m, m23 B, cols, by unfold colsF; rw [List.length_map]; omega, rfl, rfl⟩) sc_closing.nd rfl (.inr rfl) ?_
  change Runs _ _ [_, _, _, _, _, _, _, .va (.lst ((toldP b v ps).map solD)), _, _, _, _, _] _
  refine runs_step (run_lc2 8 (List.range ps.length) nD (fun i => prD (ps.getD i (0, 0))) (fun i => isL (solP b v ps (ps.getD i (0, 0)))) (fun i => prD (ps.getD i (0, 0))) 11 12 rfl sc_closing.nd rfl rfl rfl (itr_enumLr prD ps (0, 0) (ev_v 6 rfl) rfl T.enumerate) (blkOk_by rfl) (by rw [List.length_range]; show _ < sizeLine; unfold sizeLine; omega) rfl rfl rfl rfl (fun i hi X' hX => by
    obtain ⟨_, _, _, _, _, rfl⟩ := hX
    have hi := List.mem_range.mp hi
    have hat := at_map (f := solD) (l := toldP b v ps) (i := i) (d0 := .inr []) (by omega)
    have eg : (toldP b v ps).getD i (.inr []) = solP b v ps (ps.getD i (0, 0)) := by
      rw [toldP_map, List.getD_eq_getElem?_getD, List.getElem?_map, List.getD_eq_getElem?_getD, List.getElem?_eq_getElem hi]
      rfl
    rw [eg] at hat
    cases hs : solP b v ps (ps.getD i (0, 0)) with
    | inl x =>
      rw [hs] at hat
      exact (evTs_one (evB_notNone (ev_ix (d := rowD x) (ev_ix (ev_v 7 rfl) (ev_v 11 rfl) (iop_lst hat)) ev_int (iop_tup rfl))))
    | inr y =>
      rw [hs] at hat
      exact (evTs_one (evB_notNone (ev_ix (d := .non) (ev_ix (ev_v 7 rfl) (ev_v 11 rfl) (iop_lst hat)) ev_int (iop_tup rfl))))) (fun i hi hb X' hX => by obtain ⟨_, _, _, _, _, rfl⟩ := hX; exact (ev_v 12 rfl)) (by decide) (by rintro _ ⟨⟩; exact h11) (by rintro _ ⟨⟩; exact h12)) ?_
  rw [range_filter ps (0, 0) (fun p => isL (solP b v ps p)) prD, ← emore]
  refine runs_if (evB_cmp (ev_vF 8 rfl) (ev_v 4 rfl) (cop_eqD (n := 2) hr (okn_lst (okn_map fun _ => okn_prD)) (okn_lst (okn_map fun _ => okn_prD)))) (fun hb => ?_) (fun hb => ?_)
  · rw [beq_dec (enc := fun l : List Pl => D.lst (l.map prD)) (n := 2) (fun l => okn_lst (okn_map fun _ => okn_prD)) (fun a c e => (List.map_inj_right (fun x y z => prD_inj z)).mp (lst_inj e))] at hb
    have e := of_decide_eq_true hb
    have hkK : k = clK b v left := by
      rcases Nat.lt_or_ge k (clK b v left) with h | h
      · exact absurd e (fin.2 k h)
      · omega
    refine runs_ret (ev_tup (evA_cons (ev_call G_weights_of (hr.mono (by decide)) rfl (evA_cons (ev_ix (ev_v 0 rfl) ev_int at_bk0) (evA_cons (ev_v 7 rfl) evA_nil)) ⟨b.m, toldP b v ps, m3, by omega, told_sz (m23 B) cols, rfl, rfl⟩) (evA_cons (ev_vF 5 rfl) evA_nil))) (rt_eq ?_)
    rw [← hkK]
    unfold levelF
    rw [elast hkK]
    cases v with
    | even => exact absurd rfl hv
    | early => rfl
    | late => rfl
  · rw [beq_dec (enc := fun l : List Pl => D.lst (l.map prD)) (n := 2) (fun l => okn_lst (okn_map fun _ => okn_prD)) (fun a c e => (List.map_inj_right (fun x y z => prD_inj z)).mp (lst_inj e))] at hb
    have e := of_decide_eq_false hb
    have hkK : k < clK b v left := by
      rcases Nat.lt_or_ge k (clK b v left) with h | h
      · exact h
      · have : k = clK b v left := by omega
        rw [this] at e
        exact absurd fin.1 e
    have kfew : k ≤ 12 := by
      have grow : ∀ t, t ≤ clK b v left → t ≤ (cl b v left t).length := fun t => by
        induction t with
        | zero => exact fun _ => Nat.zero_le _
        | succ t ih =>
          intro ht
          have := cl_grow B v L (fin.2 t (by omega))
          have := ih (by omega)
          omega
      have := grow k (by omega)
      omega
    refine runs_nil ?_
    refine runs_step (run_app 5 rfl (.inl rfl) (ev_call G_spread_of (hr.mono (by decide)) rfl (evA_cons (ev_v 0 rfl) (evA_cons (ev_v 6 rfl) (evA_cons (ev_v 7 rfl) (evA_cons (ev_v 2 rfl) evA_nil)))) ⟨b, v, ps, toldP b v ps, B, ⟨Ap.ok, Ap.nd, pfew, htl, fun sl hsl => ?_⟩, rfl, rfl⟩) rfl (by intro h; cases h) rfl rfl (by unfold spreadsL; rw [List.length_map, List.length_range]; show _ < sizeLine; unfold sizeLine; omega)) ?_
    · have := told_sz (m23 B) cols sl hsl
      cases sl with
      | inl x => exact this
      | inr y => exact trivial
    rw [← esp]
    refine runs_set 4 (ev_v 8 rfl) sc_closing.nd rfl (.inl rfl) ?_
    exact runs_nil ⟨clK b v left - (k + 1), by omega, k + 1, .va (.lst (ps.map prD)), .va (.lst ((toldP b v ps).map solD)), .va (.lst ((cl b v left (k + 1)).map prD)), c9, c10, c11, c12, by omega, rfl, h9, h10, h11, h12, rfl⟩
theorem sc_level : FnScope ["book", "word", "left"] ["book", "word", "left"] (defScope s_level) := ⟨rfl, rfl, rfl, by decide +kernel, rfl, by decide +kernel, by decide +kernel⟩
def R_level (ds : List D) (d : D) : Prop := ∃ (b : Bk) (v : Wr) (left : List Nat), BkOk b ∧ LeftOk b left ∧ ds = [bkD b, v.d, nsD left] ∧ d = .tup ((levelF b v left).map D.int)
theorem sum_small {cs : List (List Int)} (hc : cs.length ≤ 3) (h : ∀ c ∈ cs, ∀ l, (c.getD l 0).natAbs ≤ 1) (l : Nat) : (letL cs l).sum.natAbs ≤ 3 := by
  have key : ∀ (cs : List (List Int)), (∀ c ∈ cs, ∀ l, (c.getD l 0).natAbs ≤ 1) → (letL cs l).sum.natAbs ≤ cs.length := by
    intro cs
    induction cs with
    | nil => intro _; simp [letL]
    | cons c cs ih =>
      intro h
      have h1 := h c (by simp) l
      have h2 := ih fun x hx => h x (by simp [hx])
      show (c.getD l 0 + (letL cs l).sum).natAbs ≤ _
      simp only [List.length_cons]
      omega
  exact Nat.le_trans (key cs h) hc
theorem sums_ok {b : Bk} (B : BkOk b) {left : List Nat} (L : LeftOk b left) : ColsOk b.m (sumsF b left) := by
  intro c hc
  obtain ⟨r, hr, rfl⟩ := List.mem_map.mp hc
  have U := rule_ok B (L.r r hr)
  refine ⟨by simp [sumC], fun z hz => ?_⟩
  unfold sumC at hz
  obtain ⟨l, _, rfl⟩ := List.mem_map.mp hz
  refine sum_small (by rw [chgL_length _ _ U.len]; exact U.l3) (fun c hc l => ?_) l
  unfold chgL at hc
  obtain ⟨p, _, rfl⟩ := List.mem_map.mp hc
  by_cases h : l < b.m
  · rw [chg_get h]
    split <;> split <;> decide
  · rw [List.getD_eq_getElem?_getD, List.getElem?_eq_none (by rw [chg_length]; omega)]
    decide
theorem ok_level (T : Gb K mg) (A : DefAt K mg "level" s_level) (G_sums_of : DefOk P w K mg base "sums_of" 2 ["book", "left"] (spD K R_sums_of)) (G_opposites : DefOk P w K mg base "opposites" 7 ["some"] (spD K R_opposites)) (G_weights_of : DefOk P w K mg base "weights_of" 4 ["many", "told"] (spD K R_weights_of)) (G_closing : DefOk P w K mg base "closing" 8 ["book", "left", "word"] (spD K R_closing)) : DefOk P w K mg base "level" 9 ["book", "word", "left"] (spD K R_level) := by
  refine fn_ok A sc_level (by decide) (fun _ _ _ _ _ _ us hl => match us, hl with | [_, _, _], _ => rfl) (fun ds d h => by obtain ⟨_, _, _, _, _, rfl, _⟩ := h; rfl) ?_
  intro f cdv A' outer s H E hr ds d ⟨b, v, left, B, L, e1, e2⟩
  subst e1 e2
  have lf := left_few B L
  have sok := sums_ok B L
  have sl : (sumsF b left).length = left.length := by unfold sumsF; rw [List.length_map]
  refine runs_if (evB_cmp (ev_v 1 rfl) ev_str cop_eqS) (fun hb => ?_) (fun hb => ?_)
  · rw [str_even] at hb
    obtain rfl := of_decide_eq_true hb
    exact runs_ret (ev_call G_weights_of (hr.mono (by decide)) rfl (evA_cons (ev_ix (ev_v 0 rfl) ev_int at_bk0) (evA_cons (ev_call G_opposites (hr.mono (by decide)) rfl (evA_cons (ev_call G_sums_of (hr.mono (by decide)) rfl (evA_cons (ev_v 0 rfl) (evA_cons (ev_v 2 rfl) evA_nil)) ⟨b, left, B, by omega, L.r, rfl, rfl⟩) evA_nil) ⟨sumsF b left, b.m, m23 B, sok, by omega, rfl, rfl⟩) evA_nil)) ⟨b.m, oppF (sumsF b left), B.m3, by unfold oppF; rw [List.length_map]; omega, told_sz (m23 B) sok, rfl, rfl⟩) (rt_eq rfl)
  · rw [str_even] at hb
    have hne := of_decide_eq_false hb
    exact runs_nil (runs_ret (ev_ix (ev_call G_closing (hr.mono (by decide)) rfl (evA_cons (ev_v 0 rfl) (evA_cons (ev_v 2 rfl) (evA_cons (ev_v 1 rfl) evA_nil))) ⟨b, v, left, B, L, hne, rfl, rfl⟩) ev_int (iop_tup rfl)) (rt_eq rfl))
end
end K8
/-! Towers: no rule in hand rises at a level. -/
namespace K8
open PySem PySem.Spec PyProof.Rows L2
theorem dot_wstep {m : Nat} {f : Rw} {s : Sol} {c : List Int} (hf : f.length = m) : dot m (wstep f s) c = match s with
    | .inl _ => dot m f c
    | .inr y => dot m f c - dot m y c := by
  cases s with
  | inl x => rfl
  | inr y =>
    show dot m (mk f.length fun i => gt f i - gt y i) c = dot m f c - dot m y c
    unfold dot
    rw [← sm_sub]
    refine sm_congr fun k hk => ?_
    rw [gt_mk (by omega)]
    grind
theorem dot_wts {m : Nat} {c : List Int} : ∀ {told : List Sol} {f : Rw}, (∀ y, Sum.inr y ∈ told → dot m y c ≤ 0) → f.length = m → dot m f c ≤ dot m (told.foldl wstep f) c ∧ ((∃ y, Sum.inr y ∈ told ∧ dot m y c < 0) → dot m f c < dot m (told.foldl wstep f) c)
  | [], f, _, _ => ⟨Rat.le_refl, fun ⟨y, hy, _⟩ => by cases hy⟩
  | s :: told, f, h, hf => by
    have ih := dot_wts (told := told) (f := wstep f s) (fun y hy => h y (List.mem_cons_of_mem _ hy)) (by rw [wstep_length]; exact hf)
    have e := dot_wstep (s := s) (c := c) hf
    rw [List.foldl_cons]
    cases s with
    | inl x =>
      simp only at e
      rw [e] at ih
      refine ⟨ih.1, fun ⟨y, hy, q⟩ => ih.2 ⟨y, ?_, q⟩⟩
      rcases List.mem_cons.mp hy with h' | h'
      · cases h'
      · exact h'
    | inr y0 =>
      simp only at e
      have h0 := h y0 (by simp)
      rw [e] at ih
      refine ⟨by have := ih.1; grind, fun ⟨y, hy, q⟩ => ?_⟩
      rcases List.mem_cons.mp hy with h' | h'
      · have : y = y0 := by injection h'
        subst this
        have := ih.1
        grind
      · have := ih.2 ⟨y, h', q⟩
        grind
theorem dot_zero (m : Nat) (c : List Int) : dot m (List.replicate m 0) c = 0 := by
  unfold dot
  refine sm_zero fun k hk => ?_
  unfold gt
  rw [List.getD_eq_getElem?_getD, List.getElem?_replicate, if_pos hk]
  simp
theorem cast_get {ws : List Int} {q : Rw} {c : Rat} (e : ws.map (fun z : Int => (z : Rat)) = q.map (c * ·)) (k : Nat) : ((ws.getD k 0 : Int) : Rat) = c * gt q k := by
  have := congrArg (fun l => l[k]?) e
  simp only [List.getElem?_map] at this
  unfold gt
  rw [List.getD_eq_getElem?_getD, List.getD_eq_getElem?_getD]
  cases h1 : ws[k]? with
  | none =>
    rw [h1] at this
    cases h2 : q[k]? with
    | none => simp
    | some x => rw [h2] at this; cases this
  | some z =>
    rw [h1] at this
    cases h2 : q[k]? with
    | none => rw [h2] at this; cases this
    | some x =>
      rw [h2] at this
      simpa using this
theorem dot_whole {m : Nat} {ws : List Int} {q : Rw} {c : Rat} (e : ws.map (fun z : Int => (z : Rat)) = q.map (c * ·)) (v : List Int) : (sm m fun k => (ws.getD k 0 : Rat) * (v.getD k 0 : Rat)) = c * dot m q v := by
  unfold dot
  rw [← sm_mul]
  refine sm_congr fun k _ => ?_
  rw [cast_get e]
  grind
theorem sm_chg {m x y : Nat} (hx : x < m) (hy : y < m) (ws : List Int) : (sm m fun k => (ws.getD k 0 : Rat) * ((chg m x y).getD k 0 : Rat)) = ((ws.getD x 0 - ws.getD y 0 : Int) : Rat) := by
  have : (sm m fun k => (ws.getD k 0 : Rat) * ((chg m x y).getD k 0 : Rat)) = sm m fun k => (if k = x then (ws.getD k 0 : Rat) else 0) - (if k = y then (ws.getD k 0 : Rat) else 0) := by
    refine sm_congr fun k hk => ?_
    rw [chg_get hk]
    generalize ((ws.getD k 0 : Int) : Rat) = q
    by_cases h1 : k = x <;> by_cases h2 : k = y
    · rw [if_pos h1, if_pos h2, if_pos h1, if_pos h2, Int.sub_self, Rat.sub_self]
      simp
    · rw [if_pos h1, if_neg h2, if_pos h1, if_neg h2]
      push_cast
      grind
    · rw [if_neg h1, if_pos h2, if_neg h1, if_pos h2]
      push_cast
      grind
    · rw [if_neg h1, if_neg h2, if_neg h1, if_neg h2]
      push_cast
      grind
  rw [this, sm_sub, sm_single (fun k => (ws.getD k 0 : Rat)) hx, sm_single (fun k => (ws.getD k 0 : Rat)) hy]
  push_cast
  rfl
/-- the sum over a rule's places -/
theorem sum_falls {m : Nat} (ws : List Int) : ∀ (Z : List (Nat × Nat)), (∀ p ∈ Z, p.1 < m ∧ p.2 < m) → (((Z.map fun p => ws.getD p.1 0 - ws.getD p.2 0).sum : Int) : Rat) = sm m fun k => (ws.getD k 0 : Rat) * (((letL (Z.map fun p => chg m p.1 p.2) k).sum : Int) : Rat)
  | [], _ => by
    symm
    show _ = ((0 : Int) : Rat)
    rw [show ((0 : Int) : Rat) = 0 from rfl]
    refine sm_zero fun k _ => ?_
    show _ * ((0 : Int) : Rat) = 0
    simp
  | p :: Z, h => by
    have ih := sum_falls ws Z fun q hq => h q (List.mem_cons_of_mem _ hq)
    have hp := h p (by simp)
    rw [List.map_cons, List.sum_cons]
    have e : (sm m fun k => (ws.getD k 0 : Rat) * (((letL ((p :: Z).map fun p => chg m p.1 p.2) k).sum : Int) : Rat)) = sm m fun k => (ws.getD k 0 : Rat) * ((chg m p.1 p.2).getD k 0 : Rat) + (ws.getD k 0 : Rat) * (((letL (Z.map fun p => chg m p.1 p.2) k).sum : Int) : Rat) := by
      refine sm_congr fun k _ => ?_
      have : (letL ((p :: Z).map fun p => chg m p.1 p.2) k).sum = (chg m p.1 p.2).getD k 0 + (letL (Z.map fun p => chg m p.1 p.2) k).sum := by
        show (List.map _ _).sum = _
        rw [List.map_cons, List.map_cons, List.sum_cons]
        rfl
      rw [this]
      push_cast
      grind
    rw [e, sm_add, sm_chg hp.1 hp.2, ← ih]
    push_cast
    rfl
theorem rule_zip {m : Nat} {r : Rule} (U : Ru m r) : ∀ p ∈ r.1.zip r.2, p.1 < m ∧ p.2 < m := fun p hp => ⟨U.a _ (zip_mem hp).1, U.b _ (zip_mem hp).2⟩
theorem wts_ok {h : Nat} (hh : h = 2 ∨ h = 3) {cols : List (List Int)} (C : ColsOk h cols) {c : List Int} (hc : c ∈ cols) : 0 ≤ dot h (wtsF h (oppF cols)) c ∧ (isL (solF cols (negV c)) = false → 0 < dot h (wtsF h (oppF cols)) c) := by
  have hall : ∀ y, Sum.inr y ∈ oppF cols → dot h y c ≤ 0 := fun y hy => by
    unfold oppF at hy
    obtain ⟨v, hv, e⟩ := List.mem_map.mp hy
    have := sol_cols hh C hv
    rw [e] at this
    exact this.2.2.1 c hc
  have k := dot_wts (told := oppF cols) (f := List.replicate h 0) hall (by simp)
  rw [dot_zero] at k
  refine ⟨k.1, fun hi => k.2 ?_⟩
  have s := sol_cols hh C hc
  cases e : solF cols (negV c) with
  | inl x => rw [e] at hi; cases hi
  | inr y =>
    rw [e] at s
    exact ⟨y, by unfold oppF; exact List.mem_map.mpr ⟨c, hc, e⟩, s.2.2.2⟩
theorem fall_get {ws : List Int} {r : Rule} {i : Nat} (h : i < r.1.length) (h2 : i < r.2.length) : (fallL ws r).getD i 0 = ws.getD (r.1.getD i 0) 0 - ws.getD (r.2.getD i 0) 0 := by
  have hz : (r.1.zip r.2)[i]? = some (r.1.getD i 0, r.2.getD i 0) := by
    rw [List.getElem?_zip_eq_some]
    have q1 : r.1[i]? = some (r.1.getD i 0) := by rw [List.getD_eq_getElem?_getD, List.getElem?_eq_getElem h]; rfl
    have q2 : r.2[i]? = some (r.2.getD i 0) := by rw [List.getD_eq_getElem?_getD, List.getElem?_eq_getElem h2]; rfl
    exact ⟨q1, q2⟩
  unfold fallL
  rw [List.getD_eq_getElem?_getD, List.getElem?_map, hz]
  rfl
theorem fallL_length {m : Nat} {r : Rule} (U : Ru m r) (ws : List Int) : (fallL ws r).length = r.1.length := by
  unfold fallL
  rw [List.length_map, List.length_zip, U.len]
  omega
theorem even_ok {b : Bk} (B : BkOk b) {left : List Nat} (L : LeftOk b left) {r : Nat} (hr : r ∈ left) : 0 ≤ turnF .even (fallL (levelF b .even left) (ruleOf b r)) := by
  have C := sums_ok B L
  have hc : sumC b r ∈ sumsF b left := List.mem_map.mpr ⟨r, hr, rfl⟩
  have k := (wts_ok (m23 B) C hc).1
  obtain ⟨c, c0, e⟩ := wholeF_spec (wtsF b.m (oppF (sumsF b left)))
  have d := dot_whole (m := b.m) e (sumC b r)
  have s := sum_falls (levelF b .even left) _ (rule_zip (rule_ok B (L.r r hr)))
  have e2 : (sm b.m fun k => ((wholeF (wtsF b.m (oppF (sumsF b left)))).getD k 0 : Rat) * ((sumC b r).getD k 0 : Rat)) = sm b.m fun k => ((levelF b .even left).getD k 0 : Rat) * (((letL (((ruleOf b r).1.zip (ruleOf b r).2).map fun p => chg b.m p.1 p.2) k).sum : Int) : Rat) := by
    refine sm_congr fun k hk => ?_
    unfold sumC
    rw [show levelF b .even left = wholeF (wtsF b.m (oppF (sumsF b left))) from rfl, List.getD_eq_getElem?_getD (l := List.map _ _), List.getElem?_map, List.getElem?_range hk]
    rfl
  rw [← e2, d] at s
  have : (0 : Rat) ≤ ((fallL (levelF b .even left) (ruleOf b r)).sum : Int) := by
    show (0 : Rat) ≤ (((((ruleOf b r).1.zip (ruleOf b r).2).map fun p => (levelF b .even left).getD p.1 0 - (levelF b .even left).getD p.2 0).sum : Int) : Rat)
    rw [s]
    exact Rat.mul_nonneg (Rat.le_of_lt c0) k
  exact_mod_cast this
theorem last_cl {b : Bk} (B : BkOk b) (v : Wr) {left : List Nat} (L : LeftOk b left) (p : Pl) : p ∈ cl b v left (clK b v left) ↔ p ∈ lastP b v left ∧ isL (solP b v (lastP b v left) p) = true := by
  have := (clK_fin B v L).1
  rw [← this]
  show p ∈ moreF b v left (cl b v left (clK b v left)) ↔ _
  unfold moreF
  rw [List.mem_filter]
  rfl
theorem place_ok {b : Bk} (B : BkOk b) {v : Wr} (hv : v ≠ .even) {left : List Nat} (L : LeftOk b left) {p : Pl} (hp : p ∈ lastP b v left) : 0 ≤ (fallL (levelF b v left) (ruleOf b p.1)).getD (placeAt b v p) 0 ∧ (p ∉ cl b v left (clK b v left) → 0 < (fallL (levelF b v left) (ruleOf b p.1)).getD (placeAt b v p) 0) := by
  have A : ClOk b (lastP b v left) := atF_ok B L (cl_ok B v L _)
  have C := colsF_ok B (v := v) A.ok
  have ok := A.ok p hp
  have U := rule_ok B ok.r
  have hi := placeAt_lt (v := v) ok
  have hc : colOf b v p ∈ colsF b v (lastP b v left) := List.mem_map.mpr ⟨p, hp, rfl⟩
  have k := wts_ok (m23 B) C hc
  obtain ⟨c, c0, e⟩ := wholeF_spec (wtsF b.m (oppF (colsF b v (lastP b v left))))
  have el : levelF b v left = wholeF (wtsF b.m (oppF (colsF b v (lastP b v left)))) := by
    cases v with
    | even => exact absurd rfl hv
    | early => rfl
    | late => rfl
  have d := dot_whole (m := b.m) e (colOf b v p)
  rw [← el] at d
  have hx : (ruleOf b p.1).1.getD (placeAt b v p) 0 < b.m := U.a _ (getD_mem hi)
  have hy : (ruleOf b p.1).2.getD (placeAt b v p) 0 < b.m := U.b _ (getD_mem (by rw [U.len]; exact hi))
  rw [fall_get hi (by rw [U.len]; exact hi)]
  have s := sm_chg hx hy (levelF b v left)
  rw [← colOf_chg B ok, d] at s
  constructor
  · have : (0 : Rat) ≤ (((levelF b v left).getD ((ruleOf b p.1).1.getD (placeAt b v p) 0) 0 - (levelF b v left).getD ((ruleOf b p.1).2.getD (placeAt b v p) 0) 0 : Int) : Rat) := by
      rw [← s]
      exact Rat.mul_nonneg (Rat.le_of_lt c0) k.1
    exact_mod_cast this
  · intro hn
    have hf : isL (solF (colsF b v (lastP b v left)) (negV (colOf b v p))) = false := by
      cases hz : isL (solF (colsF b v (lastP b v left)) (negV (colOf b v p))) with
      | false => rfl
      | true => exact absurd ((last_cl B v L p).mpr ⟨hp, hz⟩) hn
    have : (0 : Rat) < (((levelF b v left).getD ((ruleOf b p.1).1.getD (placeAt b v p) 0) 0 - (levelF b v left).getD ((ruleOf b p.1).2.getD (placeAt b v p) 0) 0 : Int) : Rat) := by
      rw [← s]
      exact Rat.mul_pos c0 (k.2 hf)
    exact_mod_cast this
/-- the first that is not 0 is not below 0 -/
theorem head_ok : ∀ (l : List Int), (∀ i, i < l.length → (∀ j, j < i → l.getD j 0 = 0) → 0 ≤ l.getD i 0) → 0 ≤ (l.filter fun x => decide (x ≠ 0)).headD 0
  | [], _ => by decide
  | x :: l, h => by
    by_cases hx : x = 0
    · rw [List.filter_cons_of_neg (by simp [hx])]
      refine head_ok l fun i hi hj => ?_
      have := h (i + 1) (by simp; omega) fun j hj' => by
        cases j with
        | zero => simpa using hx
        | succ j => simpa using hj j (by omega)
      simpa using this
    · rw [List.filter_cons_of_pos (by simp [hx])]
      exact h 0 (by simp) fun j hj => absurd hj (by omega)
theorem chain_ok {b : Bk} (B : BkOk b) {v : Wr} (hv : v ≠ .even) {left : List Nat} (L : LeftOk b left) {r : Nat} (hr : r ∈ left) : ∀ d, d < (ruleOf b r).1.length → (∀ j, j < d → (fallL (levelF b v left) (ruleOf b r)).getD (placeAt b v (r, j)) 0 = 0) → (r, d) ∈ lastP b v left
  | 0, _, _ => mem_atF.mpr (.inl ⟨r, hr, rfl⟩)
  | d + 1, hd, h => by
    have ih := chain_ok B hv L hr d (by omega) fun j hj => h j (by omega)
    have pk := place_ok B hv L ih
    have : (r, d) ∈ cl b v left (clK b v left) := Classical.byContradiction fun hn => by
      have := pk.2 hn
      have := h d (by omega)
      simp only at *
      omega
    exact mem_atF.mpr (.inr ⟨(r, d), this, hd, rfl⟩)
theorem filter_last (l : List Int) : (l.filter fun x => decide (x ≠ 0)).getLastD 0 = (l.reverse.filter fun x => decide (x ≠ 0)).headD 0 := by
  rw [List.filter_reverse, List.headD_eq_head?_getD, List.head?_reverse, List.getLastD_eq_getLast?]
theorem level_ok {b : Bk} (B : BkOk b) (v : Wr) {left : List Nat} (L : LeftOk b left) {r : Nat} (hr : r ∈ left) : 0 ≤ turnF v (fallL (levelF b v left) (ruleOf b r)) := by
  have U := rule_ok B (L.r r hr)
  have hl := fallL_length U (levelF b v left)
  cases v with
  | even => exact even_ok B L hr
  | early =>
    refine head_ok _ fun i hi hj => ?_
    have := (place_ok B (v := .early) (by decide) L (chain_ok B (by decide) L hr i (by omega) hj)).1
    exact this
  | late =>
    show 0 ≤ (List.filter _ _).getLastD 0
    rw [filter_last]
    have pg : ∀ j, j < (ruleOf b r).1.length → (fallL (levelF b .late left) (ruleOf b r)).reverse.getD j 0 = (fallL (levelF b .late left) (ruleOf b r)).getD (placeAt b .late (r, j)) 0 := fun j hj => by
      rw [List.getD_eq_getElem?_getD, List.getElem?_reverse (by omega), List.getD_eq_getElem?_getD, hl]
      rfl
    refine head_ok _ fun i hi hj => ?_
    rw [List.length_reverse, hl] at hi
    rw [pg i hi]
    exact (place_ok B (v := .late) (by decide) L (chain_ok B (by decide) L hr i hi fun j hj' => by rw [← pg j (by omega)]; exact hj j hj')).1
end K8
/-! Towers: climb, ends_in, ends. -/
namespace K8
open PySem PySem.Spec PyProof.Rows L2
noncomputable def restF (b : Bk) (v : Wr) (left : List Nat) : List Nat := left.filter fun r => decide (turnF v (fallL (levelF b v left) (ruleOf b r)) = 0)
abbrev Best := Wr × List Int × List Nat
noncomputable def tripF (b : Bk) (left : List Nat) (v : Wr) : Best := (v, levelF b v left, restF b v left)
noncomputable def stepB (b : Bk) (left : List Nat) (o : Option Best) (v : Wr) : Option Best := match o with
  | none => some (tripF b left v)
  | some y => if (tripF b left v).2.2.length < y.2.2.length then some (tripF b left v) else some y
noncomputable def bestL (b : Bk) (left : List Nat) (vs : List Wr) : Option Best := vs.foldl (stepB b left) none
def wrs : List Wr := [.early, .even, .late]
noncomputable def bestF (b : Bk) (left : List Nat) : Best := (bestL b left wrs).getD (.early, [], [])
def bsD (x : Best) : D := .tup [x.1.d, .tup (x.2.1.map D.int), nsD x.2.2]
def boD : Option Best → D
  | none => .non
  | some x => bsD x
noncomputable def climbN (b : Bk) : Nat → List Nat → List D → List D × List Nat
  | 0, left, found => (found, left)
  | n + 1, left, found => if left = [] then (found, left) else if (bestF b left).2.2.length = left.length then (found, left) else climbN b n (bestF b left).2.2 (found ++ [.tup [(bestF b left).1.d, .tup ((bestF b left).2.1.map D.int)]])
noncomputable def climbF (b : Bk) : List D × List Nat := climbN b (b.rs.length + 1) (List.range b.rs.length) []
theorem levelF_length (b : Bk) (v : Wr) (left : List Nat) : (levelF b v left).length = b.m := by
  cases v <;> (unfold levelF; simp only [wholeF_length, wtsF_length])
theorem bestL_some {b : Bk} {left : List Nat} : ∀ {vs : List Wr} {o : Option Best}, (∀ x, o = some x → ∃ v, x = tripF b left v) → (vs ≠ [] ∨ o ≠ none) → ∃ v, vs.foldl (stepB b left) o = some (tripF b left v)
  | [], o, h, hn => by
    cases o with
    | none => rcases hn with h | h <;> exact absurd rfl h
    | some x =>
      obtain ⟨v, rfl⟩ := h x rfl
      exact ⟨v, rfl⟩
  | v :: vs, o, h, _ => by
    rw [List.foldl_cons]
    have e : ∃ v', stepB b left o v = some (tripF b left v') := by
      cases o with
      | none => exact ⟨v, rfl⟩
      | some y =>
        obtain ⟨v', rfl⟩ := h y rfl
        unfold stepB
        split
        · rename_i heq; cases heq
        · rename_i z heq
          cases heq
          split
          · exact ⟨v, rfl⟩
          · exact ⟨v', rfl⟩
    obtain ⟨v', e⟩ := e
    rw [e]
    exact bestL_some (fun x hx => ⟨v', by cases hx; rfl⟩) (.inr (by simp))
theorem bestF_is (b : Bk) (left : List Nat) : bestL b left wrs = some (bestF b left) ∧ ∃ v, bestF b left = tripF b left v := by
  obtain ⟨v, e⟩ := bestL_some (b := b) (left := left) (vs := wrs) (o := none) (fun x hx => by cases hx) (.inl (by decide))
  have e' : bestL b left wrs = some (tripF b left v) := e
  unfold bestF
  rw [e']
  exact ⟨rfl, v, rfl⟩
theorem left_sub {b : Bk} {left : List Nat} (L : LeftOk b left) (v : Wr) : LeftOk b (restF b v left) :=
  ⟨List.Nodup.sublist List.filter_sublist L.nd, fun x hx => L.r x (List.mem_filter.mp hx).1⟩
theorem okn_nsD {l : List Nat} : D.okn 1 (nsD l) := okn_lst (okn_map fun _ => okn_nD)
theorem nsD_inj {a b : List Nat} (h : nsD a = nsD b) : a = b := (List.map_inj_right (fun x y z => nD_inj z)).mp (lst_inj h)
section
variable {P : Program} {w : World} {K : PySem.W.Frag} {mg : Str → Option Value} {base : Heap}
def Gw (K : PySem.W.Frag) (mg : Str → Option Value) : Prop := ∃ a : Addr, mg "WORDS" = some (.ref a) ∧ ∀ H : Hp, SqT K H a [.str "early", .str "even", .str "late"]
theorem ev_words {X : Cx} {pos : Pos} {ρ : List C} (hg : Gl X "WORDS") (h : Gw X.K X.mg) : Ev X (.Name "WORDS" pos) ρ (.wtup ["early", "even", "late"]) ρ := by
  obtain ⟨a, hm, q⟩ := h
  exact ev_c (pe_glob (v := .ref a) hg hm rfl) fun F => .wtup (q F)
theorem sc_climb : FnScope ["book", "left", "found", "best", "word", "weights", "told", "rest", "rule"] ["book"] (defScope s_climb) := ⟨rfl, rfl, rfl, by decide +kernel, rfl, by decide +kernel, by decide +kernel⟩
def R_climb (ds : List D) (d : D) : Prop := ∃ b, BkOk b ∧ ds = [bkD b] ∧ d = .tup [.lst (climbF b).1, nsD (climbF b).2]
theorem ok_climb (T : Gb K mg) (W : Gw K mg) (A : DefAt K mg "climb" s_climb) (G_level : DefOk P w K mg base "level" 9 ["book", "word", "left"] (spD K R_level)) (G_falls : DefOk P w K mg base "falls" 1 ["book", "weights"] (spD K R_falls)) (G_turn_of : DefOk P w K mg base "turn_of" 1 ["word", "line"] (spD K R_turn_of)) : DefOk P w K mg base "climb" 10 ["book"] (spD K R_climb) := by
  refine fn_ok A sc_climb (by decide) (fun _ _ _ _ _ _ us hl => match us, hl with | [_], _ => rfl) (fun ds d h => by obtain ⟨_, _, rfl, _⟩ := h; rfl) ?_
  intro f cdv A' outer s H E hr ds d ⟨b, B, e1, e2⟩
  subst e1 e2
  have few := B.few
  refine runs_step (run_parC 1 2 (evP_cons (d := nsD (List.range b.rs.length)) (ev_of_new (evN_listRg (ev_len (ev_ix (ev_v 0 rfl) ev_int at_bk1) (by simp [LenD]) rfl T.len) (by omega) rfl rfl T.list rfl T.range)) (evP_consN (evN_lst evA_nil) evP_nil)) rfl sc_climb.nd rfl rfl (by decide) rfl rfl (.inr ⟨_, rfl⟩) (.inl rfl) (Nat.le_of_ble_eq_true rfl) rfl) ?_
  refine runs_while (fun m ρ => ∃ left found c3 c4 c5 c6 c7 c8, LeftOk b left ∧ found.length + left.length ≤ b.rs.length ∧ left.length < m ∧ climbN b m left found = climbF b ∧ c8.own = false ∧ ρ = [.va (bkD b), .va (nsD left), .ml found, c3, c4, c5, c6, c7, c8]) .never (m0 := b.rs.length + 1) ⟨List.range b.rs.length, [], .un, .un, .un, .un, .un, .un, ⟨List.nodup_range, fun x hx => List.mem_range.mp hx⟩, by simp, by simp, rfl, rfl, rfl⟩ ?_
  rintro m ρ ⟨left, found, c3, c4, c5, c6, c7, c8, L, hfl, hm, hcl, h8, rfl⟩
  refine ⟨_, _, (evB_cmp (ev_v 1 rfl) (ev_lst evA_nil) (cop_neD (n := 1) hr okn_nsD (okn_lst (by intro x hx; cases hx)))), fun hb => ?_, fun hb => ?_⟩
  · have e0 := beq_dec (enc := nsD) (n := 1) (fun l => okn_nsD) (fun a c e => nsD_inj e) left []
    rw [show D.lst [] = nsD [] from rfl, e0] at hb
    have hne : left ≠ [] := of_decide_eq_false (by simpa using hb)
    have lf := left_few B L
    refine runs_set 3 ev_non sc_climb.nd rfl (.inl rfl) ?_
    refine runs_for wrs Wr.d (fun pre ρ => ∃ c4 c5 c6 c7 c8, c8.own = false ∧ ρ = [.va (bkD b), .va (nsD left), .ml found, .va (boD (bestL b left pre)), c4, c5, c6, c7, c8]) .never rfl (itr_eq (itr_wtup (ev_words rfl W)) rfl) ?_ ?_ ?_
    · exact ⟨c4, c5, c6, c7, c8, h8, rfl⟩
    · rintro pre v post ρ' hl ⟨c4, c5, c6, c7, c8, h8, rfl⟩
      refine ⟨_, _, (tg_name 4 sc_climb.nd rfl (.inr rfl)), ?_⟩
      refine runs_set 5 (ev_call G_level (hr.mono (by decide)) rfl (evA_cons (ev_v 0 rfl) (evA_cons (ev_v 4 rfl) (evA_cons (ev_v 1 rfl) evA_nil))) ⟨b, v, left, B, L, rfl, rfl⟩) sc_climb.nd rfl (.inl rfl) ?_
      refine runs_set 6 (ev_call G_falls (hr.mono (by decide)) rfl (evA_cons (ev_v 0 rfl) (evA_cons (ev_v 5 rfl) evA_nil)) ⟨b, levelF b v left, B, levelF_length .., rfl, rfl⟩) sc_climb.nd rfl (.inr rfl) ?_
      refine runs_step (run_lc1 7 left nD (fun r => decide (turnF v (fallL (levelF b v left) (ruleOf b r)) = 0)) nD 8 rfl sc_climb.nd rfl rfl rfl (itr_lst (ds := left.map nD) (ev_v 1 rfl)) (blkOk_by rfl) (by show _ < sizeLine; unfold sizeLine; omega) rfl rfl (fun r hr' X' hX => by
        obtain ⟨_, _, _, _, _, rfl⟩ := hX
        have hrl := L.r r hr'
        have U := rule_ok B hrl
        have a1 := at_map (l := fallsF b (levelF b v left)) (f := ivD) (i := r) (d0 := []) (by unfold fallsF; rw [List.length_map]; exact hrl)
        have eg : (fallsF b (levelF b v left)).getD r [] = fallL (levelF b v left) (ruleOf b r) := by
          unfold fallsF ruleOf
          rw [List.getD_eq_getElem?_getD, List.getElem?_map, List.getD_eq_getElem?_getD, List.getElem?_eq_getElem hrl]
          rfl
        rw [eg] at a1
        have l3 := U.l3
        exact (evTs_one (evB_cmp (ev_call G_turn_of (hr.mono (by decide)) rfl (evA_cons (ev_v 4 rfl) (evA_cons (ev_ix (ev_v 6 rfl) (ev_v 8 rfl) (iop_lst a1)) evA_nil)) ⟨v, fallL (levelF b v left) (ruleOf b r), by rw [fallL_length U]; omega, rfl, rfl⟩) ev_int cop_eqI))) (fun r hr' hb X' hX => by obtain ⟨_, _, _, _, _, rfl⟩ := hX; exact (ev_v 8 rfl)) (by rintro _ ⟨⟩; exact h8)) ?_
      change Runs _ _ [.va (bkD b), .va (nsD left), .ml found, .va (boD (bestL b left pre)), .va v.d, .va (.tup ((levelF b v left).map D.int)), .va (.lst ((fallsF b (levelF b v left)).map ivD)), .ml ((restF b v left).map nD), c8] _
      have est : bestL b left (pre ++ [v]) = stepB b left (bestL b left pre) v := by
        unfold bestL
        rw [List.foldl_append]
        rfl
      obtain ⟨o, ho⟩ : ∃ o, o = bestL b left pre := ⟨_, rfl⟩
      rw [← ho] at est ⊢
      cases o with
      | none =>
        refine runs_if (PW.pt (evW_or (k2 := true) (evB_isNone (ev_v 3 rfl)) fun h => by cases h)) (fun hb => ?_) (fun hb => by cases hb)
        refine runs_set 3 (ev_tup (evA_cons (ev_v 4 rfl) (evA_cons (ev_v 5 rfl) (evA_cons (ev_vF 7 rfl) evA_nil)))) sc_climb.nd rfl (.inl rfl) ?_
        exact runs_nil (runs_nil ⟨_, _, _, _, c8, h8, by rw [est]; rfl⟩)
      | some y =>
        refine runs_if (PW.pt (evW_or (evB_isNone (ev_v 3 rfl)) fun h => (evW_or1 (evB_cmp (ev_lenO 7 rfl (.inl rfl) rfl rfl rfl T.len) (ev_len (ev_ix (ev_v 3 rfl) ev_int (iop_tup rfl)) rfl rfl T.len) cop_lt)))) (fun hb => ?_) (fun hb => ?_)
        · refine runs_set 3 (ev_tup (evA_cons (ev_v 4 rfl) (evA_cons (ev_v 5 rfl) (evA_cons (ev_vF 7 rfl) evA_nil)))) sc_climb.nd rfl (.inl rfl) ?_
          have hst : stepB b left (some y) v = some (tripF b left v) := by
            unfold stepB
            exact if_pos (by simpa [boD, bsD, D.isNon, tripF] using hb)
          exact runs_nil (runs_nil ⟨_, _, _, _, c8, h8, by rw [est, hst]; rfl⟩)
        · have hst : stepB b left (some y) v = some y := by
            unfold stepB
            exact if_neg (by simpa [boD, bsD, D.isNon, tripF] using hb)
          rw [hst] at est
          rw [est]
          exact runs_nil (runs_nil ⟨_, _, _, _, c8, h8, rfl⟩)
    · rintro ρ' ⟨c4, c5, c6, c7, c8, h8, rfl⟩
      obtain ⟨eb, v, ev⟩ := bestF_is b left
      have hR : (bestF b left).2.2 = restF b v left := by rw [ev]; rfl
      rw [eb]
      refine runs_if (evB_cmp (ev_len (ev_ix (ev_v 3 rfl) ev_int (iop_tup rfl)) rfl rfl T.len) (ev_len (ev_v 1 rfl) rfl rfl T.len) cop_eqI) (fun hb => ?_) (fun hb => ?_)
      · have he : (bestF b left).2.2.length = left.length := by
          have h := of_decide_eq_true hb
          simp only [List.length_map] at h
          exact_mod_cast h
        refine runs_ret (ev_tup (evA_cons (ev_vF 2 rfl) (evA_cons (ev_v 1 rfl) evA_nil))) (rt_eq ?_)
        rw [← hcl]
        cases m with
        | zero => omega
        | succ m =>
          unfold climbN
          rw [if_neg hne, if_pos he]
      · have he : (bestF b left).2.2.length ≠ left.length := fun z => by
          have h := of_decide_eq_false hb
          simp only [List.length_map] at h
          exact h (by exact_mod_cast z)
        refine runs_nil ?_
        have hle : (bestF b left).2.2.length ≤ left.length := by rw [hR]; exact List.length_filter_le _ _
        refine runs_step (run_app 2 rfl (.inl rfl) (ev_sliceT (ev_v 3 rfl) evO_none (evO_some ev_int)) rfl (by intro h; cases h) rfl rfl (by show _ < sizeLine; unfold sizeLine; omega)) ?_
        refine runs_set 1 (ev_ix (ev_v 3 rfl) ev_int (iop_tup rfl)) sc_climb.nd rfl (.inl rfl) ?_
        cases m with
        | zero => omega
        | succ m =>
          refine runs_nil ⟨m, by omega, (bestF b left).2.2, found ++ [.tup [(bestF b left).1.d, .tup ((bestF b left).2.1.map D.int)]], _, _, _, _, _, c8, by rw [hR]; exact left_sub L v, by simp; omega, by omega, ?_, h8, rfl⟩
          rw [← hcl]
          conv => rhs; unfold climbN
          rw [if_neg hne, if_neg he]
  · have e0 := beq_dec (enc := nsD) (n := 1) (fun l => okn_nsD) (fun a c e => nsD_inj e) left []
    rw [show D.lst [] = nsD [] from rfl, e0] at hb
    have hne : left = [] := of_decide_eq_true (by simpa using hb)
    refine runs_ret (ev_tup (evA_cons (ev_vF 2 rfl) (evA_cons (ev_v 1 rfl) evA_nil))) (rt_eq ?_)
    rw [← hcl]
    cases m with
    | zero => omega
    | succ m =>
      unfold climbN
      rw [if_pos hne]
def EndsB (b : Bk) : Prop := (climbF b).2 = []
open Classical in
noncomputable def endsF (b : Bk) : Bool := decide (EndsB b)
theorem sc_ends_in : FnScope ["book"] ["book"] (defScope s_ends_in) := ⟨rfl, rfl, rfl, by decide +kernel, rfl, by decide +kernel, by decide +kernel⟩
def R_ends_in (ds : List D) (d : D) : Prop := ∃ b, BkOk b ∧ ds = [bkD b] ∧ d = .bl (endsF b)
theorem ok_ends_in (T : Gb K mg) (A : DefAt K mg "ends_in" s_ends_in) (G_climb : DefOk P w K mg base "climb" 10 ["book"] (spD K R_climb)) : DefOk P w K mg base "ends_in" 11 ["book"] (spD K R_ends_in) := by
  refine fn_ok A sc_ends_in (by decide) (fun _ _ _ _ _ _ us hl => match us, hl with | [_], _ => rfl) (fun ds d h => by obtain ⟨_, _, rfl, _⟩ := h; rfl) ?_
  intro f cdv A' outer s H E hr ds d ⟨b, B, e1, e2⟩
  subst e1 e2
  have e0 := beq_dec (enc := nsD) (n := 1) (fun l => okn_nsD) (fun a c e => nsD_inj e) (climbF b).2 []
  refine runs_ret (ev_cmp (ev_ix (ev_call G_climb (hr.mono (by decide)) rfl (evA_cons (ev_v 0 rfl) evA_nil) ⟨b, B, rfl, rfl⟩) ev_int (iop_tup rfl)) (ev_lst evA_nil) (cop_eqD (n := 1) hr okn_nsD (okn_lst (by intro x hx; cases hx)))) (rt_eq ?_)
  rw [show D.lst [] = nsD [] from rfl, e0]
  unfold endsF EndsB
  congr 1
  exact decide_eq_decide.mpr Iff.rfl
theorem sc_ends : FnScope ["book"] ["book"] (defScope s_ends) := ⟨rfl, rfl, rfl, by decide +kernel, rfl, by decide +kernel, by decide +kernel⟩
def R_ends (ds : List D) (d : D) : Prop := ∃ b, BkOk b ∧ ds = [bkD b] ∧ d = .bl (endsF b)
theorem ok_ends (T : Gb K mg) (A : DefAt K mg "ends" s_ends) (G_need_book : DefOk P w K mg base "need_book" 4 ["book"] (spD K R_need_book)) (G_ends_in : DefOk P w K mg base "ends_in" 11 ["book"] (spD K R_ends_in)) : DefOk P w K mg base "ends" 12 ["book"] (spD K R_ends) := by
  refine fn_ok A sc_ends (by decide) (fun _ _ _ _ _ _ us hl => match us, hl with | [_], _ => rfl) (fun ds d h => by obtain ⟨_, _, rfl, _⟩ := h; rfl) ?_
  intro f cdv A' outer s H E hr ds d ⟨b, B, e1, e2⟩
  subst e1 e2
  refine runs_step (run_expr (ev_call G_need_book (hr.mono (by decide)) rfl (evA_cons (ev_v 0 rfl) evA_nil) ⟨b, B, rfl, rfl⟩)) ?_
  exact runs_ret (ev_call G_ends_in (hr.mono (by decide)) rfl (evA_cons (ev_v 0 rfl) evA_nil) ⟨b, B, rfl, rfl⟩) (rt_eq rfl)
end
end K8
/-! Steps as scattered matches; what a tower says. -/
namespace K8
open PySem PySem.Spec PyProof.Rows L2
inductive StepI : List Nat → List Nat → List Nat → List Nat → Prop
  | done : StepI [] [] [] []
  | skip {l r u v : List Nat} {x : Nat} : StepI l r u v → StepI l r (x :: u) (x :: v)
  | take {l r u v : List Nat} {a c : Nat} : StepI l r u v → StepI (a :: l) (c :: r) (a :: u) (c :: v)
theorem StepI.idn : ∀ u : List Nat, StepI [] [] u u
  | [] => .done
  | _ :: u => .skip (StepI.idn u)
theorem StepI.len {l r u v : List Nat} (h : StepI l r u v) : v.length = u.length := by
  induction h with
  | done => rfl
  | skip _ ih => simp [ih]
  | take _ ih => simp [ih]
theorem StepI.le {l r u v : List Nat} (h : StepI l r u v) : l.length ≤ u.length := by
  induction h with
  | done => exact Nat.zero_le _
  | skip _ ih => simp only [List.length_cons]; omega
  | take _ ih => simp only [List.length_cons]; omega
theorem StepI.letters {l r u v : List Nat} (h : StepI l r u v) {m : Nat} (hr : ∀ x ∈ r, x < m) (hu : ∀ x ∈ u, x < m) : ∀ x ∈ v, x < m := by
  induction h with
  | done => exact hu
  | skip _ ih =>
    intro y hy
    rcases List.mem_cons.mp hy with rfl | hy
    · exact hu _ (by simp)
    · exact ih hr (fun z hz => hu z (by simp [hz])) y hy
  | take _ ih =>
    intro y hy
    rcases List.mem_cons.mp hy with rfl | hy
    · exact hr _ (by simp)
    · exact ih (fun z hz => hr z (by simp [hz])) (fun z hz => hu z (by simp [hz])) y hy
def up (line : List Nat) : List Nat := line.map (· + 1)
theorem up_down : ∀ {line : List Nat}, (∀ x ∈ line, 1 ≤ x) → ∃ line', line = up line'
  | [], _ => ⟨[], rfl⟩
  | x :: line, h => by
    obtain ⟨l', e⟩ := up_down (line := line) fun y hy => h y (by simp [hy])
    have := h x (by simp)
    exact ⟨(x - 1) :: l', by unfold up at *; rw [List.map_cons, ← e]; congr 1; omega⟩
theorem up_asc {line : List Nat} : (up line).Pairwise (· < ·) ↔ line.Pairwise (· < ·) := by
  unfold up
  rw [List.pairwise_map]
  exact ⟨fun h => h.imp fun h => by omega, fun h => h.imp fun h => by omega⟩
theorem spot_up {l u line : List Nat} {x : Nat} : IsSpot l (x :: u) (up line) ↔ IsSpot l u line := by
  constructor
  · intro h
    refine ⟨up_asc.mp h.asc, fun y hy => ?_, ?_⟩
    · have := h.inb (y + 1) (List.mem_map.mpr ⟨y, hy, rfl⟩)
      simp only [List.length_cons] at this
      omega
    · have := h.here
      unfold up at this
      rw [List.map_map] at this
      rw [← this]
      exact List.map_congr_left fun y _ => by simp
  · intro h
    refine ⟨up_asc.mpr h.asc, fun y hy => ?_, ?_⟩
    · obtain ⟨z, hz, rfl⟩ := List.mem_map.mp hy
      have := h.inb z hz
      simp only [List.length_cons]
      omega
    · unfold up
      rw [List.map_map, ← h.here]
      exact List.map_congr_left fun y _ => by simp
theorem write_up (x : Nat) : ∀ (line r u : List Nat), writeAt (x :: u) (up line) r = x :: writeAt u line r
  | [], r, u => by simp [writeAt, up]
  | p :: line, [], u => by simp [writeAt, up]
  | p :: line, c :: r, u => by
    have := write_up x line r (u.set p c)
    unfold writeAt up at *
    simpa using this
theorem stepI_of : ∀ {u l r line : List Nat}, r.length = l.length → IsSpot l u line → StepI l r u (writeAt u line r)
  | [], l, r, line, hl, h => by
    have : line = [] := by
      cases line with
      | nil => rfl
      | cons p line => exact absurd (h.inb p (by simp)) (by simp)
    subst this
    have e : l = [] := by simpa using h.here.symm
    subst e
    have e : r = [] := List.eq_nil_of_length_eq_zero hl
    subst e
    exact .done
  | x :: u, l, r, line, hl, h => by
    cases line with
    | nil =>
      have e : l = [] := by simpa using h.here.symm
      subst e
      have e : r = [] := List.eq_nil_of_length_eq_zero hl
      subst e
      exact .idn _
    | cons p line =>
      have hrest : ∀ y ∈ line, p < y := (List.pairwise_cons.mp h.asc).1
      cases p with
      | zero =>
        obtain ⟨l', e⟩ := up_down (line := line) fun y hy => hrest y hy
        subst e
        have hh := h.here
        rw [List.map_cons] at hh
        cases l with
        | nil => cases hh
        | cons a l =>
          cases r with
          | nil => cases hl
          | cons c r =>
            injection hh with h1 h2
            have ha : x = a := by simpa using h1
            subst ha
            have s : IsSpot l u l' := spot_up.mp ⟨(List.pairwise_cons.mp h.asc).2, fun y hy => h.inb y (by simp [hy]), h2⟩
            have ih := stepI_of (r := r) (by simpa using hl) s
            have e : writeAt (x :: u) (0 :: up l') (c :: r) = c :: writeAt u l' r := by
              have := write_up c l' r u
              unfold writeAt at *
              simpa using this
            rw [e]
            exact .take ih
      | succ p =>
        obtain ⟨l', e⟩ := up_down (line := (p + 1) :: line) fun y hy => by
          rcases List.mem_cons.mp hy with rfl | hy
          · omega
          · have := hrest y hy
            omega
        rw [e] at h ⊢
        rw [write_up]
        exact .skip (stepI_of hl (spot_up.mp h))
theorem stepI_spot {l r u v : List Nat} (h : StepI l r u v) : r.length = l.length ∧ ∃ line, IsSpot l u line ∧ v = writeAt u line r := by
  induction h with
  | done => exact ⟨rfl, [], ⟨List.Pairwise.nil, fun x hx => (by cases hx), rfl⟩, rfl⟩
  | skip _ ih =>
    obtain ⟨h1, line, h2, rfl⟩ := ih
    exact ⟨h1, up line, spot_up.mpr h2, (write_up _ _ _ _).symm⟩
  | take _ ih =>
    rename_i l r u v a c _
    obtain ⟨h1, line, h2, rfl⟩ := ih
    have s := (spot_up (x := a)).mpr h2
    refine ⟨by simp [h1], 0 :: up line, ⟨List.pairwise_cons.mpr ⟨fun y hy => ?_, s.asc⟩, fun y hy => ?_, ?_⟩, ?_⟩
    · obtain ⟨z, _, rfl⟩ := List.mem_map.mp hy
      omega
    · rcases List.mem_cons.mp hy with rfl | hy
      · simp
      · exact s.inb y hy
    · rw [List.map_cons, s.here]
      rfl
    · have := write_up c line r u
      unfold writeAt at *
      simpa using this.symm
theorem step_iff {b : Bk} (B : BkOk b) {u v : List Nat} : Step b.rs u v ↔ ∃ r ∈ b.rs, StepI r.1 r.2 u v := by
  constructor
  · rintro ⟨r, hr, line, hs, rfl⟩
    exact ⟨r, hr, stepI_of (B.ru r hr).len hs⟩
  · rintro ⟨r, hr, h⟩
    obtain ⟨_, line, hs, e⟩ := stepI_spot h
    exact ⟨r, hr, line, hs, e⟩
def WdOk (b : Bk) (u : List Nat) : Prop := ∀ x ∈ u, x < b.m
theorem step_len {b : Bk} (B : BkOk b) {u v : List Nat} (h : Step b.rs u v) : v.length = u.length := by
  obtain ⟨r, _, h⟩ := (step_iff B).mp h
  exact h.len
theorem step_ok {b : Bk} (B : BkOk b) {u v : List Nat} (h : Step b.rs u v) (hu : WdOk b u) : WdOk b v := by
  obtain ⟨r, hr, h⟩ := (step_iff B).mp h
  exact h.letters (B.ru r hr).b hu
/-! ### the falls of a step -/
def nz (l : List Int) : List Int := l.filter fun x => decide (x ≠ 0)
def dif (ws : List Int) (u v : List Nat) : List Int := (u.zip v).map fun p => ws.getD p.1 0 - ws.getD p.2 0
theorem dif_self (ws : List Int) : ∀ u : List Nat, nz (dif ws u u) = []
  | [] => rfl
  | x :: u => by
    have := dif_self ws u
    unfold dif nz at *
    rw [List.zip_cons_cons, List.map_cons, List.filter_cons_of_neg (by simp)]
    exact this
theorem dif_step (ws : List Int) {l r u v : List Nat} (h : StepI l r u v) : nz (dif ws u v) = nz (fallL ws (l, r)) := by
  induction h with
  | done => rfl
  | skip _ ih =>
    rw [← ih]
    unfold dif nz
    rw [List.zip_cons_cons, List.map_cons, List.filter_cons_of_neg (by simp)]
  | take _ ih =>
    unfold dif nz fallL at *
    rw [List.zip_cons_cons, List.map_cons, List.zip_cons_cons, List.map_cons, List.filter_cons, List.filter_cons, ih]
theorem sum_nz : ∀ l : List Int, (nz l).sum = l.sum
  | [] => rfl
  | x :: l => by
    have := sum_nz l
    unfold nz at *
    rw [List.filter_cons]
    split
    · rw [List.sum_cons, List.sum_cons, this]
    · rename_i h
      have : x = 0 := by simpa using h
      rw [List.sum_cons, this]
      omega
theorem turn_nz (v : Wr) {l l' : List Int} (h : nz l = nz l') : turnF v l = turnF v l' := by
  cases v with
  | even =>
    show l.sum = l'.sum
    rw [← sum_nz l, ← sum_nz l', h]
  | early =>
    show (nz l).headD 0 = (nz l').headD 0
    rw [h]
  | late =>
    show (nz l).getLastD 0 = (nz l').getLastD 0
    rw [h]
/-! ### keys -/
def lexL : List Int → List Int → Prop
  | a :: as, c :: cs => a < c ∨ (a = c ∧ lexL as cs)
  | _, _ => False
theorem lexL_irrefl : ∀ a : List Int, ¬lexL a a
  | [], h => h
  | x :: a, h => by
    rcases h with h | ⟨_, h⟩
    · omega
    · exact lexL_irrefl a h
theorem lexL_trans : ∀ {a c d : List Int}, lexL a c → lexL c d → lexL a d
  | [], _, _, h, _ => h.elim
  | _ :: _, [], _, h, _ => h.elim
  | _ :: _, _ :: _, [], _, h => h.elim
  | x :: a, y :: c, z :: d, h, g => by
    rcases h with h | ⟨h, h'⟩
    · rcases g with g | ⟨g, _⟩
      · exact .inl (by omega)
      · exact .inl (by omega)
    · rcases g with g | ⟨g, g'⟩
      · exact .inl (by omega)
      · exact .inr ⟨by omega, lexL_trans h' g'⟩
theorem lexL_app : ∀ {a c x y : List Int}, a.length = c.length → (lexL a c ∨ (a = c ∧ lexL x y)) → lexL (a ++ x) (c ++ y)
  | [], [], x, y, _, h => by
    rcases h with h | ⟨_, h⟩
    · exact h.elim
    · exact h
  | [], _ :: _, _, _, hl, _ => by cases hl
  | _ :: _, [], _, _, hl, _ => by cases hl
  | p :: a, q :: c, x, y, hl, h => by
    rcases h with h | ⟨e, h⟩
    · rcases h with h | ⟨e, h⟩
      · exact .inl h
      · exact .inr ⟨e, lexL_app (by simpa using hl) (.inl h)⟩
    · injection e with e1 e2
      exact .inr ⟨e1, lexL_app (by simpa using hl) (.inr ⟨e2, h⟩)⟩
def vals (ws : List Int) (u : List Nat) : List Int := u.map fun x => ws.getD x 0
def keyV (v : Wr) (ws : List Int) (u : List Nat) : List Int := match v with
  | .even => [(vals ws u).sum]
  | .early => vals ws u
  | .late => (vals ws u).reverse
def keyL : List (Wr × List Int) → List Nat → List Int
  | [], _ => []
  | p :: ps, u => keyV p.1 p.2 u ++ keyL ps u
theorem keyV_length (v : Wr) (ws : List Int) {u w : List Nat} (h : u.length = w.length) : (keyV v ws u).length = (keyV v ws w).length := by
  cases v <;> simp [keyV, vals, h]
def sub2 (a c : List Int) : List Int := (a.zip c).map fun p => p.1 - p.2
theorem dif_vals (ws : List Int) : ∀ u w : List Nat, dif ws u w = sub2 (vals ws u) (vals ws w)
  | [], w => rfl
  | _ :: _, [] => rfl
  | x :: u, y :: w => by
    have := dif_vals ws u w
    unfold dif sub2 vals at *
    simp only [List.zip_cons_cons, List.map_cons, this]
theorem head_lex : ∀ {a c : List Int}, a.length = c.length → (0 < (nz (sub2 a c)).headD 0 → lexL c a) ∧ ((nz (sub2 a c)).headD 0 = 0 → c = a)
  | [], [], _ => ⟨fun h => by exact absurd h (by decide), fun _ => rfl⟩
  | [], _ :: _, h => by cases h
  | _ :: _, [], h => by cases h
  | x :: a, y :: c, hl => by
    have ih := head_lex (a := a) (c := c) (by simpa using hl)
    have e : nz (sub2 (x :: a) (y :: c)) = if x - y = 0 then nz (sub2 a c) else (x - y) :: nz (sub2 a c) := by
      unfold nz sub2
      rw [List.zip_cons_cons, List.map_cons, List.filter_cons]
      by_cases h : x - y = 0
      · rw [if_neg (by simp [h]), if_pos h]
      · rw [if_pos (by simpa using h), if_neg h]
    rw [e]
    by_cases h : x - y = 0
    · rw [if_pos h]
      exact ⟨fun g => .inr ⟨by omega, ih.1 g⟩, fun g => by rw [ih.2 g]; congr 1; omega⟩
    · rw [if_neg h]
      exact ⟨fun g => .inl (by simp only [List.headD_cons] at g; omega), fun g => absurd (by simpa using g) h⟩
theorem sub2_sum : ∀ {a c : List Int}, a.length = c.length → (sub2 a c).sum = a.sum - c.sum
  | [], [], _ => rfl
  | [], _ :: _, h => by cases h
  | _ :: _, [], h => by cases h
  | x :: a, y :: c, hl => by
    have := sub2_sum (a := a) (c := c) (by simpa using hl)
    unfold sub2 at *
    rw [List.zip_cons_cons, List.map_cons, List.sum_cons, this, List.sum_cons, List.sum_cons]
    omega
theorem sub2_rev {a c : List Int} (h : a.length = c.length) : sub2 a.reverse c.reverse = (sub2 a c).reverse := by
  unfold sub2
  rw [← List.map_reverse]
  congr 1
  apply List.ext_getElem?
  intro i
  by_cases hi : i < a.length
  · have h1 : i < c.length := by omega
    have hz : (a.zip c).length = a.length := by rw [List.length_zip]; omega
    rw [List.getElem?_reverse (by omega), hz]
    have q1 : a.reverse[i]? = a[a.length - 1 - i]? := List.getElem?_reverse hi
    have q2 : c.reverse[i]? = c[a.length - 1 - i]? := by rw [List.getElem?_reverse h1, h]
    have k1 : a.length - 1 - i < a.length := by omega
    have k2 : a.length - 1 - i < c.length := by omega
    rw [List.getElem?_eq_getElem k1] at q1
    rw [List.getElem?_eq_getElem k2] at q2
    rw [(List.getElem?_zip_eq_some (z := (a[a.length - 1 - i], c[a.length - 1 - i]))).mpr ⟨q1, q2⟩]
    symm
    exact (List.getElem?_zip_eq_some (z := (a[a.length - 1 - i], c[a.length - 1 - i]))).mpr ⟨List.getElem?_eq_getElem k1, List.getElem?_eq_getElem k2⟩
  · rw [List.getElem?_eq_none (by simp; omega), List.getElem?_eq_none (by simp; omega)]
/-- a word that turns down has the smaller key -/
theorem key_turn (v : Wr) (ws : List Int) {u w : List Nat} (hl : u.length = w.length) : (0 < turnF v (dif ws u w) → lexL (keyV v ws w) (keyV v ws u)) ∧ (turnF v (dif ws u w) = 0 → keyV v ws w = keyV v ws u) := by
  have hv : (vals ws u).length = (vals ws w).length := by simp [vals, hl]
  rw [dif_vals]
  cases v with
  | even =>
    show (0 < (sub2 (vals ws u) (vals ws w)).sum → ((vals ws w).sum < (vals ws u).sum ∨ _)) ∧ (_ → [_] = [_])
    rw [sub2_sum hv]
    exact ⟨fun h => .inl (by omega), fun h => by
      have h : (sub2 (vals ws u) (vals ws w)).sum = 0 := h
      rw [sub2_sum hv] at h
      congr 1
      omega⟩
  | early => exact head_lex hv
  | late =>
    have e : turnF .late (sub2 (vals ws u) (vals ws w)) = (nz (sub2 (vals ws u).reverse (vals ws w).reverse)).headD 0 := by
      rw [sub2_rev hv]
      exact filter_last _
    rw [e]
    exact head_lex (by simp [hv])
/-- the tower that climb finds -/
theorem climb_tower {b : Bk} (B : BkOk b) : ∀ (n : Nat) (left : List Nat) (found : List D), LeftOk b left → (climbN b n left found).2 = [] → ∃ ps : List (Wr × List Int), ∀ r ∈ left, ∀ u w, StepI (ruleOf b r).1 (ruleOf b r).2 u w → lexL (keyL ps w) (keyL ps u)
  | 0, left, found, _, h => by
    have : left = [] := h
    subst this
    exact ⟨[], fun r hr => by cases hr⟩
  | n + 1, left, found, L, h => by
    unfold climbN at h
    by_cases h0 : left = []
    · subst h0
      exact ⟨[], fun r hr => by cases hr⟩
    · rw [if_neg h0] at h
      by_cases h1 : (bestF b left).2.2.length = left.length
      · rw [if_pos h1] at h
        exact absurd h h0
      · rw [if_neg h1] at h
        obtain ⟨_, v, ev⟩ := bestF_is b left
        rw [ev] at h
        obtain ⟨ps, hp⟩ := climb_tower B n _ _ (left_sub L v) h
        refine ⟨(v, levelF b v left) :: ps, fun r hr u w hs => ?_⟩
        have hl : u.length = w.length := hs.len.symm
        have k := key_turn v (levelF b v left) hl
        have et := turn_nz v (dif_step (levelF b v left) hs)
        have ge := level_ok B v L hr
        have hge : 0 ≤ turnF v (dif (levelF b v left) u w) := by rw [et]; exact ge
        refine lexL_app (keyV_length v _ hl.symm) ?_
        by_cases hz : turnF v (dif (levelF b v left) u w) = 0
        · refine .inr ⟨k.2 hz, hp r ?_ u w hs⟩
          refine List.mem_filter.mpr ⟨hr, decide_eq_true ?_⟩
          rw [et] at hz
          exact hz
        · exact .inl (k.1 (by omega))
theorem tower {b : Bk} (B : BkOk b) (h : EndsB b) : ∃ ps : List (Wr × List Int), ∀ u w, Step b.rs u w → lexL (keyL ps w) (keyL ps u) := by
  obtain ⟨ps, hp⟩ := climb_tower B _ _ _ ⟨List.nodup_range, fun x hx => List.mem_range.mp hx⟩ h
  refine ⟨ps, fun u w hs => ?_⟩
  obtain ⟨r, hr, hs⟩ := (step_iff B).mp hs
  obtain ⟨i, hi, e⟩ := List.mem_iff_getElem.mp hr
  have e2 : ruleOf b i = r := by
    unfold ruleOf
    rw [List.getD_eq_getElem?_getD, List.getElem?_eq_getElem hi]
    exact e
  refine hp i (List.mem_range.mpr hi) u w ?_
  rw [e2]
  exact hs
/-! ### all words -/
def allW (m : Nat) : Nat → List (List Nat)
  | 0 => [[]]
  | n + 1 => (allW m n).flatMap fun u => (List.range m).map fun x => u ++ [x]
theorem mem_allW {m : Nat} : ∀ {n : Nat} {u : List Nat}, u ∈ allW m n ↔ u.length = n ∧ ∀ x ∈ u, x < m
  | 0, u => by
    constructor
    · intro h
      have : u = [] := by simpa [allW] using h
      subst this
      exact ⟨rfl, fun x hx => by cases hx⟩
    · rintro ⟨h, _⟩
      rw [List.eq_nil_of_length_eq_zero h]
      simp [allW]
  | n + 1, u => by
    unfold allW
    rw [List.mem_flatMap]
    constructor
    · rintro ⟨w, hw, hu⟩
      obtain ⟨x, hx, rfl⟩ := List.mem_map.mp hu
      obtain ⟨h1, h2⟩ := mem_allW.mp hw
      refine ⟨by simp [h1], fun y hy => ?_⟩
      rcases List.mem_append.mp hy with hy | hy
      · exact h2 y hy
      · rw [List.mem_singleton.mp hy]
        exact List.mem_range.mp hx
    · rintro ⟨h1, h2⟩
      obtain ⟨w, x, rfl⟩ := snoc_of h1
      exact ⟨w, mem_allW.mpr ⟨by simpa using h1, fun y hy => h2 y (by simp [hy])⟩, List.mem_map.mpr ⟨x, List.mem_range.mpr (h2 x (by simp)), rfl⟩⟩
theorem filter_lt {α : Type} {p q : α → Bool} : ∀ {l : List α}, (∀ x ∈ l, p x = true → q x = true) → (∃ x ∈ l, q x = true ∧ p x = false) → (l.filter p).length < (l.filter q).length
  | [], _, ⟨x, hx, _⟩ => by cases hx
  | y :: l, h, ⟨x, hx, h1, h2⟩ => by
    have hle : (l.filter p).length ≤ (l.filter q).length := by
      have : ∀ {l : List α}, (∀ x ∈ l, p x = true → q x = true) → (l.filter p).length ≤ (l.filter q).length := fun {l} => by
        induction l with
        | nil => intro _; exact Nat.le_refl _
        | cons z l ih =>
          intro hz
          have := ih fun x hx => hz x (by simp [hx])
          have hzz := hz z (by simp)
          rw [List.filter_cons, List.filter_cons]
          cases hp : p z with
          | true => rw [hzz hp]; simpa using this
          | false =>
            cases hq : q z with
            | true => simp; omega
            | false => simpa using this
      exact this fun x hx => h x (by simp [hx])
    rw [List.filter_cons, List.filter_cons]
    rcases List.mem_cons.mp hx with rfl | hx
    · rw [h1, h2]
      simp
      omega
    · have ih := filter_lt (l := l) (fun z hz => h z (by simp [hz])) ⟨x, hx, h1, h2⟩
      have hy := h y (by simp)
      cases hp : p y with
      | true => rw [hy hp]; simpa using ih
      | false =>
        cases hq : q y with
        | true => simp; omega
        | false => simpa using ih
open Classical in
/-- how many words of its length lie below -/
noncomputable def rkOf (m : Nat) (ps : List (Wr × List Int)) (u : List Nat) : Nat := ((allW m u.length).filter fun w => decide (lexL (keyL ps w) (keyL ps u))).length
def RkOk (b : Bk) (rk : List Nat → Nat) : Prop := ∀ u w, WdOk b u → Step b.rs u w → rk w < rk u
open Classical in
theorem ends_rk {b : Bk} (B : BkOk b) (h : EndsB b) : ∃ rk, RkOk b rk ∧ ∀ u, rk u ≤ (allW b.m u.length).length := by
  obtain ⟨ps, hp⟩ := tower B h
  refine ⟨rkOf b.m ps, fun u w hu hs => ?_, fun u => List.length_filter_le _ _⟩
  unfold rkOf
  rw [step_len B hs]
  refine filter_lt (fun x _ hx => decide_eq_true (lexL_trans (of_decide_eq_true hx) (hp u w hs))) ⟨w, mem_allW.mpr ⟨step_len B hs, step_ok B hs hu⟩, decide_eq_true (hp u w hs), decide_eq_false (lexL_irrefl _)⟩
end K8
/-! One rest for short words gives one rest for all words. -/
namespace K8
open PySem PySem.Spec PyProof.Rows L2
def fill : List (Option Nat) → List Nat → List Nat
  | [], _ => []
  | some x :: C, u => x :: fill C u
  | none :: C, a :: u => a :: fill C u
  | none :: C, [] => fill C []
def holes : List (Option Nat) → Nat
  | [] => 0
  | some _ :: C => holes C
  | none :: C => holes C + 1
theorem fill_step : ∀ {C : List (Option Nat)} {l r u v : List Nat}, holes C = u.length → StepI l r u v → StepI l r (fill C u) (fill C v)
  | [], l, r, u, v, hh, h => by
    have : u = [] := List.eq_nil_of_length_eq_zero hh.symm
    subst this
    cases h
    exact .done
  | some x :: C, l, r, u, v, hh, h => .skip (fill_step (C := C) hh h)
  | none :: C, l, r, u, v, hh, h => by
    cases h with
    | done => cases hh
    | skip h => exact .skip (fill_step (C := C) (by simpa [holes] using hh) h)
    | take h => exact .take (fill_step (C := C) (by simpa [holes] using hh) h)
theorem fill_mem : ∀ {C : List (Option Nat)} {u : List Nat}, holes C = u.length → ∀ x ∈ u, x ∈ fill C u
  | [], u, hh, x, hx => by
    have : u = [] := List.eq_nil_of_length_eq_zero hh.symm
    subst this
    cases hx
  | some y :: C, u, hh, x, hx => List.mem_cons_of_mem _ (fill_mem (C := C) hh x hx)
  | none :: C, [], hh, x, hx => by cases hx
  | none :: C, a :: u, hh, x, hx => by
    show x ∈ a :: fill C u
    rcases List.mem_cons.mp hx with rfl | hx
    · simp
    · exact List.mem_cons_of_mem _ (fill_mem (C := C) (by simpa [holes] using hh) x hx)
structure Both (l1 r1 l2 r2 u v w : List Nat) (C : List (Option Nat)) (u' v' w' : List Nat) : Prop where
  h : holes C = u'.length
  u : u = fill C u'
  v : v = fill C v'
  w : w = fill C w'
  s1 : StepI l1 r1 u' v'
  s2 : StepI l2 r2 u' w'
theorem Both.skip {l1 r1 l2 r2 u v w : List Nat} {C : List (Option Nat)} {u' v' w' : List Nat} (B : Both l1 r1 l2 r2 u v w C u' v' w') (x : Nat) : Both l1 r1 l2 r2 (x :: u) (x :: v) (x :: w) (some x :: C) u' v' w' :=
  ⟨B.h, by rw [B.u]; rfl, by rw [B.v]; rfl, by rw [B.w]; rfl, B.s1, B.s2⟩
theorem union : ∀ {u l1 r1 v l2 r2 w : List Nat}, StepI l1 r1 u v → StepI l2 r2 u w → ∃ C u' v' w', Both l1 r1 l2 r2 u v w C u' v' w' ∧ u'.length ≤ l1.length + l2.length
  | [], _, _, _, _, _, _, h1, h2 => by
    cases h1
    cases h2
    exact ⟨[], [], [], [], ⟨rfl, rfl, rfl, rfl, .done, .done⟩, Nat.zero_le _⟩
  | x :: u, _, _, _, _, _, _, h1, h2 => by
    cases h1 with
    | skip h1 =>
      cases h2 with
      | skip h2 =>
        obtain ⟨C, u', v', w', B, hl⟩ := union h1 h2
        exact ⟨some x :: C, u', v', w', B.skip x, hl⟩
      | take h2 =>
        obtain ⟨C, u', v', w', B, hl⟩ := union h1 h2
        exact ⟨none :: C, x :: u', x :: v', _ :: w', ⟨by simp [holes, B.h], by rw [B.u]; rfl, by rw [B.v]; rfl, by rw [B.w]; rfl, .skip B.s1, .take B.s2⟩, by simp only [List.length_cons]; omega⟩
    | take h1 =>
      cases h2 with
      | skip h2 =>
        obtain ⟨C, u', v', w', B, hl⟩ := union h1 h2
        exact ⟨none :: C, x :: u', _ :: v', x :: w', ⟨by simp [holes, B.h], by rw [B.u]; rfl, by rw [B.v]; rfl, by rw [B.w]; rfl, .take B.s1, .skip B.s2⟩, by simp only [List.length_cons]; omega⟩
      | take h2 =>
        obtain ⟨C, u', v', w', B, hl⟩ := union h1 h2
        exact ⟨none :: C, x :: u', _ :: v', _ :: w', ⟨by simp [holes, B.h], by rw [B.u]; rfl, by rw [B.v]; rfl, by rw [B.w]; rfl, .take B.s1, .take B.s2⟩, by simp only [List.length_cons]; omega⟩
/-- two steps from one word: apart, or both within few letters -/
theorem two_steps : ∀ {u l1 r1 v l2 r2 w : List Nat}, StepI l1 r1 u v → StepI l2 r2 u w → (∃ z, StepI l2 r2 v z ∧ StepI l1 r1 w z) ∨ ∃ C u' v' w', Both l1 r1 l2 r2 u v w C u' v' w' ∧ u'.length < l1.length + l2.length
  | [], _, _, _, _, _, _, h1, h2 => by
    cases h1
    cases h2
    exact .inl ⟨[], .done, .done⟩
  | x :: u, _, _, _, _, _, _, h1, h2 => by
    cases h1 with
    | skip h1 =>
      cases h2 with
      | skip h2 =>
        rcases two_steps h1 h2 with ⟨z, a, c⟩ | ⟨C, u', v', w', B, hl⟩
        · exact .inl ⟨x :: z, .skip a, .skip c⟩
        · exact .inr ⟨some x :: C, u', v', w', B.skip x, hl⟩
      | take h2 =>
        rcases two_steps h1 h2 with ⟨z, a, c⟩ | ⟨C, u', v', w', B, hl⟩
        · exact .inl ⟨_ :: z, .take a, .skip c⟩
        · exact .inr ⟨none :: C, x :: u', x :: v', _ :: w', ⟨by simp [holes, B.h], by rw [B.u]; rfl, by rw [B.v]; rfl, by rw [B.w]; rfl, .skip B.s1, .take B.s2⟩, by simp only [List.length_cons]; omega⟩
    | take h1 =>
      cases h2 with
      | skip h2 =>
        rcases two_steps h1 h2 with ⟨z, a, c⟩ | ⟨C, u', v', w', B, hl⟩
        · exact .inl ⟨_ :: z, .skip a, .take c⟩
        · exact .inr ⟨none :: C, x :: u', _ :: v', x :: w', ⟨by simp [holes, B.h], by rw [B.u]; rfl, by rw [B.v]; rfl, by rw [B.w]; rfl, .take B.s1, .skip B.s2⟩, by simp only [List.length_cons]; omega⟩
      | take h2 =>
        obtain ⟨C, u', v', w', B, hl⟩ := union h1 h2
        exact .inr ⟨none :: C, x :: u', _ :: v', _ :: w', ⟨by simp [holes, B.h], by rw [B.u]; rfl, by rw [B.v]; rfl, by rw [B.w]; rfl, .take B.s1, .take B.s2⟩, by simp only [List.length_cons]; omega⟩
inductive Star (b : Bk) : List Nat → List Nat → Prop
  | refl {u : List Nat} : Star b u u
  | head {u v w : List Nat} : Step b.rs u v → Star b v w → Star b u w
theorem Star.trans {b : Bk} {u v w : List Nat} (h : Star b u v) (g : Star b v w) : Star b u w := by
  induction h with
  | refl => exact g
  | head s _ ih => exact .head s (ih g)
theorem Star.len {b : Bk} (B : BkOk b) {u v : List Nat} (h : Star b u v) : v.length = u.length := by
  induction h with
  | refl => rfl
  | head s _ ih => rw [ih, step_len B s]
theorem Star.ok {b : Bk} (B : BkOk b) {u v : List Nat} (h : Star b u v) (hu : WdOk b u) : WdOk b v := by
  induction h with
  | refl => exact hu
  | head s _ ih => exact ih (step_ok B s hu)
theorem Star.fill {b : Bk} (B : BkOk b) {C : List (Option Nat)} {u v : List Nat} (h : Star b u v) (hh : holes C = u.length) : Star b (fill C u) (fill C v) := by
  induction h with
  | refl => exact .refl
  | head s _ ih =>
    obtain ⟨r, hr, hs⟩ := (step_iff B).mp s
    exact .head ((step_iff B).mpr ⟨r, hr, fill_step hh hs⟩) (ih (by rw [hs.len]; exact hh))
def NF (b : Bk) (u : List Nat) : Prop := ∀ v, ¬Step b.rs u v
def RestOf (b : Bk) (u n : List Nat) : Prop := Star b u n ∧ NF b n
def UR (b : Bk) (u : List Nat) : Prop := ∀ n n', RestOf b u n → RestOf b u n' → n = n'
theorem has_rest {b : Bk} (B : BkOk b) {rk : List Nat → Nat} (R : RkOk b rk) : ∀ (k : Nat) (u : List Nat), rk u < k → WdOk b u → ∃ n, RestOf b u n
  | 0, _, h, _ => absurd h (Nat.not_lt_zero _)
  | k + 1, u, h, hu => by
    by_cases z : ∃ v, Step b.rs u v
    · obtain ⟨v, s⟩ := z
      obtain ⟨n, h1, h2⟩ := has_rest B R k v (by have := R u v hu s; omega) (step_ok B s hu)
      exact ⟨n, .head s h1, h2⟩
    · exact ⟨u, .refl, fun v s => z ⟨v, s⟩⟩
theorem rest_head {b : Bk} {u n : List Nat} (h : RestOf b u n) : (u = n ∧ NF b u) ∨ ∃ v, Step b.rs u v ∧ RestOf b v n := by
  obtain ⟨h1, h2⟩ := h
  cases h1 with
  | refl => exact .inl ⟨rfl, h2⟩
  | head s h1 => exact .inr ⟨_, s, h1, h2⟩
theorem newman {b : Bk} (B : BkOk b) {rk : List Nat → Nat} (R : RkOk b rk) (hs : ∀ u, WdOk b u → 1 ≤ u.length → u.length < 2 * longF b → UR b u) : ∀ (k : Nat) (u : List Nat), rk u < k → WdOk b u → UR b u
  | 0, _, h, _ => absurd h (Nat.not_lt_zero _)
  | k + 1, u, h, hu => by
    intro n n' hn hn'
    have ih : ∀ v, Step b.rs u v → UR b v := fun v s => newman B R hs k v (by have := R u v hu s; omega) (step_ok B s hu)
    rcases rest_head hn with ⟨e, nf⟩ | ⟨v, s1, hv⟩
    · rcases rest_head hn' with ⟨e', _⟩ | ⟨v, s, _⟩
      · rw [← e, e']
      · exact absurd s (nf v)
    · rcases rest_head hn' with ⟨_, nf⟩ | ⟨w, s2, hw⟩
      · exact absurd s1 (nf v)
      · obtain ⟨p, hp, q1⟩ := (step_iff B).mp s1
        obtain ⟨q, hq, q2⟩ := (step_iff B).mp s2
        have join : ∃ z, Star b v z ∧ Star b w z := by
          rcases two_steps q1 q2 with ⟨z, a, c⟩ | ⟨C, u', v', w', Bo, hl⟩
          · exact ⟨z, .head ((step_iff B).mpr ⟨q, hq, a⟩) .refl, .head ((step_iff B).mpr ⟨p, hp, c⟩) .refl⟩
          · have hu' : WdOk b u' := fun x hx => hu x (by rw [Bo.u]; exact fill_mem Bo.h x hx)
            have l1 := Bo.s1.le
            have p1 := (B.ru p hp).l1
            have g1 := longF_ge hp
            have g2 := longF_ge hq
            have t1 : Step b.rs u' v' := (step_iff B).mpr ⟨p, hp, Bo.s1⟩
            have t2 : Step b.rs u' w' := (step_iff B).mpr ⟨q, hq, Bo.s2⟩
            obtain ⟨x, x1, x2⟩ := has_rest B R _ v' (Nat.lt_succ_self _) (step_ok B t1 hu')
            obtain ⟨y, y1, y2⟩ := has_rest B R _ w' (Nat.lt_succ_self _) (step_ok B t2 hu')
            have e := hs u' hu' (by omega) (by omega) x y ⟨.head t1 x1, x2⟩ ⟨.head t2 y1, y2⟩
            subst e
            refine ⟨fill C x, ?_, ?_⟩
            · rw [Bo.v]
              exact x1.fill B (by rw [Bo.s1.len]; exact Bo.h)
            · rw [Bo.w]
              exact y1.fill B (by rw [Bo.s2.len]; exact Bo.h)
        obtain ⟨z, z1, z2⟩ := join
        obtain ⟨x, x1, x2⟩ := has_rest B R _ z (Nat.lt_succ_self _) (z1.ok B (step_ok B s1 hu))
        rw [ih v s1 n x hv ⟨z1.trans x1, x2⟩, ih w s2 n' x hw ⟨z2.trans x1, x2⟩]
theorem all_one {b : Bk} (B : BkOk b) (he : EndsB b) (hs : ∀ u, WdOk b u → 1 ≤ u.length → u.length < 2 * longF b → UR b u) {u : List Nat} (hu : WdOk b u) : UR b u := by
  obtain ⟨rk, R, _⟩ := ends_rk B he
  exact newman B R hs _ u (Nat.lt_succ_self _) hu
end K8
/-! Meeting: need_ending, all_words; the rests as a sorted list. -/
namespace K8
open PySem PySem.Spec PyProof.Rows L2
theorem allW_length (m : Nat) : ∀ n, (allW m n).length = m ^ n
  | 0 => rfl
  | n + 1 => by
    have : ∀ l : List (List Nat), (l.flatMap fun u => (List.range m).map fun x => u ++ [x]).length = l.length * m := fun l => by
      induction l with
      | nil => simp
      | cons u l ih => rw [List.flatMap_cons, List.length_append, ih, List.length_map, List.length_range, List.length_cons, Nat.add_mul]; omega
    unfold allW
    rw [this, allW_length m n, Nat.pow_succ]
theorem few_words {m n : Nat} {l : List (List Nat)} (nd : l.Nodup) (h : ∀ u ∈ l, u ∈ allW m n) : l.length ≤ m ^ n := by
  rw [← allW_length]
  exact List.Nodup.length_le_of_subset nd h
/-- a book whose short words are few -/
structure BkS (b : Bk) : Prop extends BkOk b where
  sm : b.m ^ (2 * longF b - 1) ≤ 32
open Classical in
theorem endsF_iff {b : Bk} : endsF b = true ↔ EndsB b := by
  unfold endsF
  exact ⟨of_decide_eq_true, fun h => decide_eq_true h⟩
section
variable {P : Program} {w : World} {K : PySem.W.Frag} {mg : Str → Option Value} {base : Heap}
theorem sc_need_ending : FnScope ["book"] ["book"] (defScope s_need_ending) := ⟨rfl, rfl, rfl, by decide +kernel, rfl, by decide +kernel, by decide +kernel⟩
def R_need_ending (ds : List D) (d : D) : Prop := ∃ b, BkOk b ∧ EndsB b ∧ ds = [bkD b] ∧ d = .non
theorem ok_need_ending (T : Gb K mg) (A : DefAt K mg "need_ending" s_need_ending) (G_need_book : DefOk P w K mg base "need_book" 4 ["book"] (spD K R_need_book)) (G_ends_in : DefOk P w K mg base "ends_in" 11 ["book"] (spD K R_ends_in)) : DefOk P w K mg base "need_ending" 12 ["book"] (spD K R_need_ending) := by
  refine fn_ok A sc_need_ending (by decide) (fun _ _ _ _ _ _ us hl => match us, hl with | [_], _ => rfl) (fun ds d h => by obtain ⟨_, _, _, rfl, _⟩ := h; rfl) ?_
  intro f cdv A' outer s H E hr ds d ⟨b, B, he, e1, e2⟩
  subst e1 e2
  have ht := endsF_iff.mpr he
  refine runs_step (run_expr (ev_call G_need_book (hr.mono (by decide)) rfl (evA_cons (ev_v 0 rfl) evA_nil) ⟨b, B, rfl, rfl⟩)) ?_
  refine runs_if (evB_not (evB_val (ev_call G_ends_in (hr.mono (by decide)) rfl (evA_cons (ev_v 0 rfl) evA_nil) ⟨b, B, rfl, rfl⟩))) (fun hb => ?_) (fun hb => ?_)
  · rw [ht] at hb
    cases hb
  · exact runs_nil (runs_nil (.inr ⟨rfl, _, rfl⟩))
theorem sc_all_words : FnScope ["book", "long", "found", "turn", "more", "one", "letter"] ["book", "long"] (defScope s_all_words) := ⟨rfl, rfl, rfl, by decide +kernel, rfl, by decide +kernel, by decide +kernel⟩
def R_all_words (ds : List D) (d : D) : Prop := ∃ b n, BkOk b ∧ n ≤ 5 ∧ ds = [bkD b, nD n] ∧ d = .lst ((allW b.m n).map wd)
theorem ok_all_words (T : Gb K mg) (A : DefAt K mg "all_words" s_all_words) : DefOk P w K mg base "all_words" 1 ["book", "long"] (spD K R_all_words) := by
  refine fn_ok A sc_all_words (by decide) (fun _ _ _ _ _ _ us hl => match us, hl with | [_, _], _ => rfl) (fun ds d h => by obtain ⟨_, _, _, _, rfl, _⟩ := h; rfl) ?_
  intro f cdv A' outer s H E hr ds d ⟨b, n, B, hn, e1, e2⟩
  subst e1 e2
  have m3 := B.m3
  refine runs_set 2 (ev_lst (evA_cons (ev_tup evA_nil) evA_nil)) sc_all_words.nd rfl (.inl rfl) ?_
  refine runs_for (List.range n) nD (fun pre ρ => ∃ c3 c4 c5 c6, c6.own = false ∧ ρ = [.va (bkD b), .va (nD n), .va (.lst ((allW b.m pre.length).map wd)), c3, c4, c5, c6]) .never rfl (itr_range1 (ev_v 1 rfl) (by omega) rfl T.range) ?_ ?_ ?_
  · exact ⟨.un, .un, .un, .un, rfl, rfl⟩
  · rintro pre a post ρ' hl ⟨c3, c4, c5, c6, h6, rfl⟩
    have hp : pre.length < n := by
      have := congrArg List.length hl
      simp at this
      omega
    have hW : (allW b.m pre.length).length ≤ 81 := by
      rw [allW_length]
      refine Nat.le_trans (Nat.pow_le_pow_left m3 _) ?_
      exact Nat.le_trans (Nat.pow_le_pow_right (by decide) (show pre.length ≤ 4 by omega)) (by decide)
    refine ⟨_, _, (tg_name 3 sc_all_words.nd rfl (.inl rfl)), ?_⟩
    refine runs_set 4 (ev_lst evA_nil) sc_all_words.nd rfl (.inl rfl) ?_
    refine runs_for (allW b.m pre.length) wd (fun q ρ => ∃ c5 c6, c6.own = false ∧ ρ = [.va (bkD b), .va (nD n), .va (.lst ((allW b.m pre.length).map wd)), .va (nD a), .va (.lst ((q.flatMap fun u => (List.range b.m).map fun x => u ++ [x]).map wd)), c5, c6]) .never rfl (itr_lst (ev_v 2 rfl)) ?_ ?_ ?_
    · exact ⟨c5, c6, h6, rfl⟩
    · rintro q u rest ρ' hl2 ⟨c5, c6, h6, rfl⟩
      have hu : u.length = pre.length := (mem_allW.mp (show u ∈ allW b.m pre.length by rw [hl2]; simp)).1
      have hq : q.length ≤ 81 := by
        have := congrArg List.length hl2
        simp at this
        omega
      have hfl : (q.flatMap fun u => (List.range b.m).map fun x => u ++ [x]).length ≤ q.length * 3 := flatMap_length (fun u => by rw [List.length_map, List.length_range]; exact m3) q
      refine ⟨_, _, (tg_name 5 sc_all_words.nd rfl (.inr rfl)), ?_⟩
      refine runs_set 4 (ev_op (ev_v 4 rfl) (ev_of_new (evN_map1 (List.range b.m) nD (fun x => wd (u ++ [x])) 6 rfl sc_all_words.nd (itr_range1 (ev_ix (ev_v 0 rfl) ev_int at_bk0) (by omega) rfl T.range) (blkOk_by rfl) (by rw [List.length_range]; show _ < sizeLine; unfold sizeLine; omega) rfl rfl (fun x hx X' hX => by
        obtain ⟨_, _, _, _, _, rfl⟩ := hX
        have e : wd (u ++ [x]) = .tup (u.map nD ++ [nD x]) := by
          unfold wd
          rw [List.map_append]
          rfl
        rw [e]
        refine (ev_op (ev_v 5 rfl) (ev_tup (evA_cons (ev_v 6 rfl) evA_nil)) (bop_catT ?_))
        rw [List.length_map]
        show _ + 1 ≤ sizeLine
        unfold sizeLine
        omega) (by rintro _ ⟨⟩; exact h6))) (bop_cat (by rw [List.length_map, List.length_map, List.length_range]; show _ ≤ sizeLine; unfold sizeLine; omega))) sc_all_words.nd rfl (.inl rfl) ?_
      refine runs_nil ⟨.va (wd u), c6, h6, ?_⟩
      have e : D.lst ((q.flatMap fun u => (List.range b.m).map fun x => u ++ [x]).map wd ++ (List.range b.m).map fun x => wd (u ++ [x])) = .lst (((q ++ [u]).flatMap fun u => (List.range b.m).map fun x => u ++ [x]).map wd) := by
        rw [List.flatMap_append, List.map_append, List.flatMap_cons, List.flatMap_nil, List.append_nil, List.map_map]
        rfl
      rw [← e]
      rfl
    · rintro ρ' ⟨c5, c6, h6, rfl⟩
      refine runs_set 2 (ev_v 4 rfl) sc_all_words.nd rfl (.inl rfl) (runs_nil ⟨.va (nD a), .va (.lst ((allW b.m (pre.length + 1)).map wd)), c5, c6, h6, ?_⟩)
      rw [List.length_append]
      rfl
  · rintro ρ' ⟨c3, c4, c5, c6, h6, rfl⟩
    refine runs_ret (ev_v 2 rfl) (rt_eq ?_)
    rw [List.length_range]
end
/-! ### the rests, sorted -/
theorem bd_wi {b : Bk} (B : BkOk b) {u : List Nat} (h : WdOk b u) : TS.Bd 4 (wi u) := by
  intro z hz
  obtain ⟨x, hx, rfl⟩ := List.mem_map.mp hz
  have := h x hx
  have := B.m3
  omega
theorem setW_congr {B : Int} {d : Nat} {l l' : List (List Int)} (hd : ∀ k ∈ l, k.length = d ∧ TS.Bd B k) (hm : ∀ k, k ∈ l' ↔ k ∈ l) : setW B l' = setW B l := by
  refine setW_unique hd (fun k => by rw [mem_setW, hm]) (nodup_setW B l') ?_
  have := List.pairwise_mergeSort (le := codeLe B) (fun a b c h1 h2 => by
    unfold codeLe at *
    have := of_decide_eq_true h1
    have := of_decide_eq_true h2
    exact decide_eq_true (by omega)) (fun a b => by
    unfold codeLe
    simp only [Bool.or_eq_true, decide_eq_true_eq]
    omega) (dedup l')
  refine this.imp fun h => ?_
  unfold codeLe at h
  exact of_decide_eq_true h
open Classical in
noncomputable def rsL (b : Bk) (u : List Nat) : List (List Nat) := (allW b.m u.length).filter fun n => decide (RestOf b u n)
noncomputable def rsF (b : Bk) (u : List Nat) : List (List Int) := setW 4 ((rsL b u).map wi)
noncomputable def rsD (b : Bk) (u : List Nat) : D := .lst ((rsF b u).map wdI)
open Classical in
theorem mem_rsL {b : Bk} (B : BkOk b) {u n : List Nat} (hu : WdOk b u) : n ∈ rsL b u ↔ RestOf b u n := by
  unfold rsL
  rw [List.mem_filter]
  constructor
  · intro h
    exact of_decide_eq_true h.2
  · intro h
    exact ⟨mem_allW.mpr ⟨h.1.len B, h.1.ok B hu⟩, decide_eq_true h⟩
theorem mem_rsF {b : Bk} (B : BkOk b) {u : List Nat} (hu : WdOk b u) {k : List Int} : k ∈ rsF b u ↔ ∃ n, RestOf b u n ∧ k = wi n := by
  unfold rsF
  rw [mem_setW, List.mem_map]
  constructor
  · rintro ⟨n, h, rfl⟩
    exact ⟨n, (mem_rsL B hu).mp h, rfl⟩
  · rintro ⟨n, h, rfl⟩
    exact ⟨n, (mem_rsL B hu).mpr h, rfl⟩
theorem rsF_bd {b : Bk} (B : BkOk b) {u : List Nat} (hu : WdOk b u) {k : List Int} (h : k ∈ (rsL b u).map wi) : k.length = u.length ∧ TS.Bd 4 k := by
  obtain ⟨n, hn, rfl⟩ := List.mem_map.mp h
  have := (mem_rsL B hu).mp hn
  exact ⟨by unfold wi; rw [List.length_map, this.1.len B], bd_wi B (this.1.ok B hu)⟩
/-- the rests, from those of the steps -/
theorem rsF_steps {b : Bk} (B : BkOk b) {u : List Nat} (hu : WdOk b u) {l : List (List Int)} (h : ∀ k, k ∈ l ↔ (stepsF b u = [] ∧ k = wi u) ∨ ∃ v ∈ stepsF b u, k ∈ rsF b v) : setW 4 l = rsF b u := by
  refine setW_congr (d := u.length) (fun k hk => rsF_bd B hu hk) fun k => ?_
  rw [h, List.mem_map]
  constructor
  · rintro (⟨e, rfl⟩ | ⟨v, hv, hk⟩)
    · refine ⟨u, (mem_rsL B hu).mpr ⟨.refl, fun v s => ?_⟩, rfl⟩
      have := mem_stepsF.mpr s
      rw [e] at this
      cases this
    · have s := mem_stepsF.mp hv
      obtain ⟨n, hn, rfl⟩ := (mem_rsF B (step_ok B s hu)).mp hk
      exact ⟨n, (mem_rsL B hu).mpr ⟨.head s hn.1, hn.2⟩, rfl⟩
  · rintro ⟨n, hn, rfl⟩
    rcases rest_head ((mem_rsL B hu).mp hn) with ⟨e, nf⟩ | ⟨v, s, hv⟩
    · refine .inl ⟨?_, by rw [e]⟩
      cases hs : stepsF b u with
      | nil => rfl
      | cons v l =>
        exact absurd (mem_stepsF.mp (show v ∈ stepsF b u by rw [hs]; simp)) (nf v)
    · exact .inr ⟨v, mem_stepsF.mpr s, (mem_rsF B (step_ok B s hu)).mpr ⟨n, hv, rfl⟩⟩
end K8
/-! Meeting: the search of rests_of (plain). -/
namespace K8
open PySem PySem.Spec PyProof.Rows L2
structure DS where
  fk : List (List Nat)
  kk : List (List Nat)
  rows : List (List Nat)
def waitF (b : Bk) (s : DS) (here : List Nat) : List (List Nat) := (stepsF b here).filter fun v => !decide (v ∈ s.fk)
def dstep (b : Bk) (s : DS) : DS :=
  if waitF b s (s.rows.getLastD []) = [] then ⟨putN s.fk (s.rows.getLastD []), putN s.kk (s.rows.getLastD []), s.rows.dropLast⟩
  else ⟨s.fk, putN s.kk (s.rows.getLastD []), s.rows ++ [(waitF b s (s.rows.getLastD [])).headD []]⟩
def dfin (b : Bk) : Nat → DS → DS
  | 0, s => s
  | n + 1, s => if s.rows = [] then s else dfin b n (dstep b s)
noncomputable def rkB (b : Bk) : List Nat → Nat := Classical.epsilon fun rk => RkOk b rk ∧ ∀ u, rk u ≤ (allW b.m u.length).length
theorem rkB_ok {b : Bk} (B : BkOk b) (he : EndsB b) : RkOk b (rkB b) ∧ ∀ u, rkB b u ≤ (allW b.m u.length).length := Classical.epsilon_spec (p := fun rk => RkOk b rk ∧ ∀ u, rk u ≤ (allW b.m u.length).length) (ends_rk B he)
noncomputable def muS (b : Bk) (n : Nat) (s : DS) : Nat := (b.m ^ n - s.fk.length) * (b.m ^ n + 2) + if s.rows = [] then 0 else rkB b (s.rows.getLastD []) + 1
structure DOk (b : Bk) (n : Nat) (s : DS) : Prop where
  fn : s.fk.Nodup
  fm : ∀ u ∈ s.fk, u ∈ allW b.m n
  kn : s.kk.Nodup
  km : ∀ u ∈ s.kk, u ∈ allW b.m n
  rm : ∀ u ∈ s.rows, u ∈ allW b.m n
  rf : ∀ u ∈ s.rows, u ∉ s.fk
  rp : s.rows.Pairwise fun a c => rkB b c < rkB b a
theorem last_snoc {α : Type} (l : List α) (x d : α) : (l ++ [x]).getLastD d = x := by simp
theorem snoc_ne {α : Type} {l : List α} (h : l ≠ []) (d : α) : l = l.dropLast ++ [l.getLastD d] := by
  conv => lhs; rw [← List.dropLast_concat_getLast h]
  rw [List.getLastD_eq_getLast?, List.getLast?_eq_some_getLast h]
  rfl
theorem putN_new {α : Type} [DecidableEq α] {ks : List α} {x : α} (h : x ∉ ks) : putN ks x = ks ++ [x] := if_neg h
theorem dstep_ok {b : Bk} (B : BkOk b) (he : EndsB b) {n : Nat} {s : DS} (S : DOk b n s) (hr : s.rows ≠ []) : DOk b n (dstep b s) ∧ muS b n (dstep b s) < muS b n s ∧ (∀ u ∈ s.fk, u ∈ (dstep b s).fk) ∧ ∀ u ∈ s.rows, u ∈ (dstep b s).rows ∨ u ∈ (dstep b s).fk := by
  obtain ⟨R, Rb⟩ := rkB_ok B he
  have e := snoc_ne hr []
  obtain ⟨here, hh⟩ : ∃ x, x = s.rows.getLastD [] := ⟨_, rfl⟩
  obtain ⟨init, hi⟩ : ∃ x, x = s.rows.dropLast := ⟨_, rfl⟩
  rw [← hh, ← hi] at e
  have hmem : here ∈ s.rows := by rw [e]; simp
  have hW := S.rm here hmem
  have hF := S.rf here hmem
  have hk : ∀ u ∈ putN s.kk here, u ∈ allW b.m n := fun u hu => by
    rcases mem_putN.mp hu with h | rfl
    · exact S.km u h
    · exact hW
  unfold dstep
  rw [← hh, ← hi]
  by_cases hw : waitF b s here = []
  · rw [if_pos hw]
    have rp := S.rp
    rw [e, List.pairwise_append] at rp
    have hne : ∀ u ∈ init, u ≠ here := fun u hu z => by
      have := rp.2.2 u hu here (by simp)
      rw [z] at this
      omega
    have fl : s.fk.length + 1 ≤ b.m ^ n := by
      have := few_words (m := b.m) (n := n) (l := s.fk ++ [here]) (by rw [← putN_new hF]; exact nodup_putN S.fn) fun u hu => by
        rcases List.mem_append.mp hu with h | h
        · exact S.fm u h
        · rw [List.mem_singleton.mp h]
          exact hW
      simpa using this
    refine ⟨⟨nodup_putN S.fn, fun u hu => ?_, nodup_putN S.kn, hk, fun u hu => S.rm u (by rw [e]; simp [hu]), fun u hu hf => ?_, rp.1⟩, ?_, fun u hu => mem_putN.mpr (.inl hu), fun u hu => ?_⟩
    · rcases mem_putN.mp hu with h | rfl
      · exact S.fm u h
      · exact hW
    · rcases mem_putN.mp hf with h | h
      · exact S.rf u (by rw [e]; simp [hu]) h
      · exact hne u hu h
    · unfold muS
      rw [if_neg hr, ← hh]
      show (b.m ^ n - (putN s.fk here).length) * _ + (if init = [] then 0 else rkB b (init.getLastD []) + 1) < _
      rw [putN_new hF, List.length_append, List.length_singleton]
      have hb : (if init = [] then 0 else rkB b (init.getLastD []) + 1) ≤ b.m ^ n + 1 := by
        split
        · omega
        · rename_i hi0
          have hm : init.getLastD [] ∈ s.rows := by rw [e, snoc_ne hi0 []]; simp
          have := Rb (init.getLastD [])
          rw [(mem_allW.mp (S.rm _ hm)).1, allW_length] at this
          omega
      have : b.m ^ n - s.fk.length = (b.m ^ n - (s.fk.length + 1)) + 1 := by omega
      rw [this, Nat.add_mul]
      omega
    · rw [e] at hu
      rcases List.mem_append.mp hu with h | h
      · exact .inl h
      · exact .inr (mem_putN.mpr (.inr (List.mem_singleton.mp h)))
  · rw [if_neg hw]
    obtain ⟨x, hx⟩ : ∃ x, x = (waitF b s here).headD [] := ⟨_, rfl⟩
    rw [← hx]
    have hxm : x ∈ waitF b s here := by
      rw [hx]
      cases h : waitF b s here with
      | nil => exact absurd h hw
      | cons y l => simp
    unfold waitF at hxm
    rw [List.mem_filter] at hxm
    have st := mem_stepsF.mp hxm.1
    have hxf : x ∉ s.fk := by simpa using hxm.2
    have hu := (mem_allW.mp hW)
    have hlt := R here x hu.2 st
    have hxW : x ∈ allW b.m n := mem_allW.mpr ⟨by rw [step_len B st]; exact hu.1, step_ok B st hu.2⟩
    refine ⟨⟨S.fn, S.fm, nodup_putN S.kn, hk, fun u hu => ?_, fun u hu => ?_, ?_⟩, ?_, fun u hu => hu, fun u hu => .inl (List.mem_append_left _ hu)⟩
    · rcases List.mem_append.mp hu with h | h
      · exact S.rm u h
      · rw [List.mem_singleton.mp h]
        exact hxW
    · rcases List.mem_append.mp hu with h | h
      · exact S.rf u h
      · rw [List.mem_singleton.mp h]
        exact hxf
    · rw [List.pairwise_append]
      refine ⟨S.rp, List.pairwise_singleton _ _, fun a ha c hc => ?_⟩
      rw [List.mem_singleton.mp hc]
      have rp := S.rp
      rw [e, List.pairwise_append] at rp
      rw [e] at ha
      rcases List.mem_append.mp ha with h | h
      · have := rp.2.2 a h here (by simp)
        omega
      · rw [List.mem_singleton.mp h]
        exact hlt
    · unfold muS
      rw [if_neg hr, ← hh]
      show _ + (if s.rows ++ [x] = [] then 0 else rkB b ((s.rows ++ [x]).getLastD []) + 1) < _
      rw [if_neg (by simp), last_snoc]
      show (b.m ^ n - s.fk.length) * _ + _ < _
      omega
theorem dfin_stable {b : Bk} (B : BkOk b) (he : EndsB b) {n : Nat} : ∀ (k : Nat) (s : DS), DOk b n s → muS b n s ≤ k → dfin b k s = dfin b (muS b n s) s ∧ (dfin b k s).rows = [] ∧ DOk b n (dfin b k s) ∧ (∀ u ∈ s.fk, u ∈ (dfin b k s).fk) ∧ ∀ u ∈ s.rows, u ∈ (dfin b k s).fk
  | 0, s, S, h => by
    have e0 : s.rows = [] := by
      by_cases z : s.rows = []
      · exact z
      · have := (dstep_ok B he S z).2.1
        omega
    have : muS b n s = 0 := by omega
    rw [this]
    exact ⟨rfl, e0, S, fun u hu => hu, fun u hu => by rw [e0] at hu; cases hu⟩
  | k + 1, s, S, h => by
    by_cases z : s.rows = []
    · have e : ∀ k, dfin b k s = s := fun k => by
        cases k with
        | zero => rfl
        | succ k => exact if_pos z
      rw [e, e]
      exact ⟨rfl, z, S, fun u hu => hu, fun u hu => by rw [z] at hu; cases hu⟩
    · obtain ⟨S', lt, g1, g2⟩ := dstep_ok B he S z
      obtain ⟨i1, i2, i3, i4, i5⟩ := dfin_stable B he k (dstep b s) S' (by omega)
      have e1 : dfin b (k + 1) s = dfin b k (dstep b s) := if_neg z
      rw [e1]
      refine ⟨?_, i2, i3, fun u hu => i4 u (g1 u hu), fun u hu => ?_⟩
      · cases hm : muS b n s with
        | zero => omega
        | succ m =>
          have e2 : dfin b (m + 1) s = dfin b m (dstep b s) := if_neg z
          rw [e2, i1]
          exact (dfin_stable B he m (dstep b s) S' (by omega)).1.symm
      · rcases g2 u hu with h | h
        · exact i5 u h
        · exact i4 u h
termination_by k => k
decreasing_by all_goals omega
noncomputable def dend (b : Bk) (n : Nat) (s : DS) : DS := dfin b (muS b n s) s
theorem dend_step {b : Bk} (B : BkOk b) (he : EndsB b) {n : Nat} {s : DS} (S : DOk b n s) (hr : s.rows ≠ []) : dend b n s = dend b n (dstep b s) := by
  obtain ⟨S', lt, _⟩ := dstep_ok B he S hr
  unfold dend
  cases hm : muS b n s with
  | zero => omega
  | succ m =>
    have e2 : dfin b (m + 1) s = dfin b m (dstep b s) := if_neg hr
    rw [e2]
    exact (dfin_stable B he m (dstep b s) S' (by omega)).1
theorem dend_nil {b : Bk} {n : Nat} {s : DS} (hr : s.rows = []) : dend b n s = s := by
  unfold dend
  cases muS b n s with
  | zero => rfl
  | succ m => exact if_pos hr
def rows0 (fk : List (List Nat)) (w : List Nat) : List (List Nat) := if w ∈ fk then [] else [w]
noncomputable def dword (b : Bk) (n : Nat) (s : DS) (w : List Nat) : DS := dend b n ⟨s.fk, s.kk, rows0 s.fk w⟩
noncomputable def dAll (b : Bk) (n : Nat) (ws : List (List Nat)) : DS := ws.foldl (dword b n) ⟨[], [], []⟩
theorem start_ok {b : Bk} {n : Nat} {s : DS} (S : DOk b n s) {w : List Nat} (hw : w ∈ allW b.m n) : DOk b n ⟨s.fk, s.kk, rows0 s.fk w⟩ := by
  refine ⟨S.fn, S.fm, S.kn, S.km, fun u hu => ?_, fun u hu => ?_, ?_⟩
  · unfold rows0 at hu
    split at hu
    · cases hu
    · rw [List.mem_singleton.mp hu]
      exact hw
  · unfold rows0 at hu
    split at hu
    · cases hu
    · rw [List.mem_singleton.mp hu]
      assumption
  · unfold rows0
    split
    · exact List.Pairwise.nil
    · exact List.pairwise_singleton _ _
theorem dword_ok {b : Bk} (B : BkOk b) (he : EndsB b) {n : Nat} {s : DS} (S : DOk b n s) {w : List Nat} (hw : w ∈ allW b.m n) : DOk b n (dword b n s w) ∧ (dword b n s w).rows = [] ∧ (∀ u ∈ s.fk, u ∈ (dword b n s w).fk) ∧ w ∈ (dword b n s w).fk := by
  obtain ⟨_, i2, i3, i4, i5⟩ := dfin_stable B he _ _ (start_ok S hw) (Nat.le_refl _)
  refine ⟨i3, i2, i4, ?_⟩
  by_cases h : w ∈ s.fk
  · exact i4 w h
  · exact i5 w (by show w ∈ rows0 s.fk w; unfold rows0; rw [if_neg h]; simp)
theorem dAll_ok {b : Bk} (B : BkOk b) (he : EndsB b) {n : Nat} : ∀ (ws : List (List Nat)) (s : DS), DOk b n s → s.rows = [] → (∀ w ∈ ws, w ∈ allW b.m n) → DOk b n (ws.foldl (dword b n) s) ∧ (ws.foldl (dword b n) s).rows = [] ∧ (∀ u ∈ s.fk, u ∈ (ws.foldl (dword b n) s).fk) ∧ ∀ w ∈ ws, w ∈ (ws.foldl (dword b n) s).fk
  | [], s, S, h, _ => ⟨S, h, fun u hu => hu, fun u hu => by cases hu⟩
  | w :: ws, s, S, h, hw => by
    obtain ⟨S', h', g1, g2⟩ := dword_ok B he S (hw w (by simp))
    obtain ⟨a, c, d, e⟩ := dAll_ok B he ws _ S' h' fun x hx => hw x (by simp [hx])
    refine ⟨a, c, fun u hu => d u (g1 u hu), fun x hx => ?_⟩
    rcases List.mem_cons.mp hx with rfl | hx
    · exact d _ g2
    · exact e x hx
theorem dos_nil (b : Bk) (n : Nat) : DOk b n ⟨[], [], []⟩ := ⟨List.nodup_nil, fun u hu => (by cases hu), List.nodup_nil, fun u hu => (by cases hu), fun u hu => (by cases hu), fun u hu => (by cases hu), List.Pairwise.nil⟩
/-! ### dicts of words -/
theorem dget_f {ks : List (List Nat)} {f : List Nat → D} {u : List Nat} (h : u ∈ ks) : dgetD (ks.map wi) (ks.map f) (wi u) = some (f u) := by
  unfold dgetD
  rw [List.zip_map']
  induction ks with
  | nil => cases h
  | cons x ks ih =>
    rw [List.map_cons, List.find?_cons]
    by_cases z : x = u
    · subst z
      rw [decide_eq_true rfl]
      rfl
    · rw [decide_eq_false (fun e => z (wi_inj e))]
      rcases List.mem_cons.mp h with h | h
      · exact absurd h.symm z
      · exact ih h
theorem dputV_f (ks : List (List Nat)) (f : List Nat → D) (u : List Nat) : dputV (ks.map wi) (ks.map f) (wi u) (f u) = (putN ks u).map f := by
  unfold dputV putN
  by_cases h : u ∈ ks
  · rw [if_pos (wi_mem.mpr h), if_pos h, List.zip_map', List.map_map]
    refine List.map_congr_left fun x _ => ?_
    show (if wi x = wi u then _ else _) = _
    split
    · rename_i z
      rw [wi_inj z]
    · rfl
  · rw [if_neg (fun z => h (wi_mem.mp z)), if_neg h, List.map_append]
    rfl
end K8
/-! Meeting: rests_of. -/
namespace K8
open PySem PySem.Spec PyProof.Rows L2
def stD (b : Bk) (u : List Nat) : D := .lst ((stepsF b u).map wd)
def fndC (b : Bk) (fk : List (List Nat)) (f : List Nat → D) : C := .md (fk.map wi) (fk.map f)
section
variable {P : Program} {w : World} {K : PySem.W.Frag} {mg : Str → Option Value} {base : Heap}
theorem sc_rests_of : FnScope ["book", "words", "found", "known", "word", "rows", "here", "there", "wait", "some"] ["book", "words"] (defScope s_rests_of) := ⟨rfl, rfl, rfl, by decide +kernel, rfl, by decide +kernel, by decide +kernel⟩
def R_rests_of (ds : List D) (d : D) : Prop := ∃ b n, BkOk b ∧ EndsB b ∧ 1 ≤ n ∧ n ≤ 5 ∧ b.m ^ n ≤ 32 ∧ ds = [bkD b, .lst ((allW b.m n).map wd)] ∧ d = .dic ((dAll b n (allW b.m n)).fk.map wi) ((dAll b n (allW b.m n)).fk.map (rsD b))
theorem ok_rests_of (T : Gb K mg) (A : DefAt K mg "rests_of" s_rests_of) (G_steps_in : DefOk P w K mg base "steps_in" 2 ["book", "word"] (spD K R_steps_in)) : DefOk P w K mg base "rests_of" 3 ["book", "words"] (spD K R_rests_of) := by
  refine fn_ok A sc_rests_of (by decide) (fun _ _ _ _ _ _ us hl => match us, hl with | [_, _], _ => rfl) (fun ds d h => by obtain ⟨_, _, _, _, _, _, _, rfl, _⟩ := h; rfl) ?_
  intro f cdv A' outer s H E hr ds d ⟨b, n, B, he, hn1, hn5, h32, e1, e2⟩
  subst e1 e2
  have m3 := B.m3
  refine runs_step (run_asgC 2 3 (evP_consN evN_dict (evP_consN evN_dict evP_nil)) rfl sc_rests_of.nd rfl rfl (.inr rfl) (.inl rfl) (.inl rfl) (.inl rfl) (Nat.le_of_ble_eq_true rfl)) ?_
  refine runs_for (allW b.m n) wd (fun pre ρ => ∃ c4 c5 c6 c7 c8 c9, c7.own = false ∧ ρ = [.va (bkD b), .va (.lst ((allW b.m n).map wd)), fndC b (dAll b n pre).fk (rsD b), fndC b (dAll b n pre).kk (stD b), c4, c5, c6, c7, c8, c9]) .never rfl (itr_lst (ev_v 1 rfl)) ?_ ?_ ?_
  · exact ⟨.un, .un, .un, .un, .un, .un, rfl, rfl⟩
  · rintro pre u post ρ' hl ⟨c4, c5, c6, c7, c8, c9, h7, rfl⟩
    have huW : u ∈ allW b.m n := by rw [hl]; simp
    have hS : DOk b n (dAll b n pre) := (dAll_ok B he pre _ (dos_nil b n) rfl fun x hx => by rw [hl]; simp [hx]).1
    have est : dAll b n (pre ++ [u]) = dword b n (dAll b n pre) u := by
      unfold dAll
      rw [List.foldl_append]
      rfl
    generalize dAll b n pre = s0 at hS est
    refine ⟨_, _, (tg_name 4 sc_rests_of.nd rfl (.inl rfl)), ?_⟩
    refine runs_setN (cc := .ml ((rows0 s0.fk u).map wd)) 5 (evN_ifexp (evB_ninO 2 hr rfl (.inr (.inl rfl)) (ev_eq (ev_v 4 rfl) (wd_wi u)) rfl) (fun h => evN_eq (evN_lst (evA_cons (ev_v 4 rfl) evA_nil)) ?_) (fun h => evN_eq (evN_lst evA_nil) ?_)) rfl sc_rests_of.nd rfl (.inl rfl) ?_
    · have : u ∉ s0.fk := fun z => by rw [decide_eq_true (wi_mem.mpr z)] at h; cases h
      unfold rows0
      rw [if_neg this]
      rfl
    · have : u ∈ s0.fk := Classical.byContradiction fun z => by rw [decide_eq_false (fun y => z (wi_mem.mp y))] at h; cases h
      unfold rows0
      rw [if_pos this]
      rfl
    refine runs_while (fun m ρ => ∃ s c6 c7 c8 c9, DOk b n s ∧ m = muS b n s ∧ dend b n s = dword b n s0 u ∧ c7.own = false ∧ ρ = [.va (bkD b), .va (.lst ((allW b.m n).map wd)), fndC b s.fk (rsD b), fndC b s.kk (stD b), .va (wd u), .ml (s.rows.map wd), c6, c7, c8, c9]) .never ⟨⟨s0.fk, s0.kk, rows0 s0.fk u⟩, c6, c7, c8, c9, start_ok hS huW, rfl, rfl, h7, rfl⟩ ?_
    rintro m ρ ⟨s, c6, c7, c8, c9, S, rfl, hend, h7, rfl⟩
    refine ⟨_, _, ev_neNilO (n := 1) 5 hr rfl (.inl rfl) rfl rfl (okn_map fun _ => okn_wd), fun hb => ?_, fun hb => ?_⟩
    · have hne : s.rows ≠ [] := fun z => by rw [z] at hb; cases hb
      obtain ⟨S', hlt, _, _⟩ := dstep_ok B he S hne
      rw [dend_step B he S hne] at hend
      have hpos : 0 < s.rows.length := List.length_pos_iff.mpr hne
      have hhm : s.rows.getLastD [] ∈ s.rows := by
        have := snoc_ne hne []
        rw [this]
        simp
      have hunf : dstep b s = if waitF b s (s.rows.getLastD []) = [] then ⟨putN s.fk (s.rows.getLastD []), putN s.kk (s.rows.getLastD []), s.rows.dropLast⟩ else ⟨s.fk, putN s.kk (s.rows.getLastD []), s.rows ++ [(waitF b s (s.rows.getLastD [])).headD []]⟩ := rfl
      have hat := at_last (l := s.rows) (f := wd) (d0 := []) hpos
      obtain ⟨here, hh⟩ : ∃ x, x = s.rows.getLastD [] := ⟨_, rfl⟩
      rw [← hh] at hhm hunf hat
      have hW := mem_allW.mp (S.rm here hhm)
      have hhf := S.rf here hhm
      refine runs_set 6 (ev_ixO 5 rfl (.inl rfl) (ev_neg ev_int) rfl rfl ⟨_, rfl, by intro h; cases h⟩ hat) sc_rests_of.nd rfl (.inl rfl) ?_
      refine runs_step (ρ1 := [.va (bkD b), .va (.lst ((allW b.m n).map wd)), fndC b s.fk (rsD b), fndC b (putN s.kk here) (stD b), .va (wd u), .ml (s.rows.map wd), .va (wd here), c7, c8, c9]) (run_if (evB_ninO 3 hr rfl (.inl rfl) (ev_eq (ev_v 6 rfl) (wd_wi here)) rfl) (fun hb => ?_) (fun hb => ?_)) ?_
      · have klen := few_words S.kn S.km
        refine runs_step (run_put (ρ3 := []) 3 hr rfl (.inl rfl) (ev_call G_steps_in (hr.mono (by decide)) rfl (evA_cons (ev_v 0 rfl) (evA_cons (ev_v 6 rfl) evA_nil)) ⟨b, here, B, by omega, by omega, rfl, rfl⟩) (ev_eq (ev_v 6 rfl) (wd_wi here)) rfl rfl (by rw [List.length_map]; show _ < sizeLine; unfold sizeLine; omega)) (runs_nil ?_)
        have e1 := dputK_wi s.kk here
        have e2 : dputV (s.kk.map wi) (s.kk.map (stD b)) (wi here) (D.lst ((stepsF b here).map wd)) = _ := dputV_f s.kk (stD b) here
        rw [e1, e2]
        rfl
      · have hin : here ∈ s.kk := Classical.byContradiction fun z => by rw [decide_eq_false (fun y => z (wi_mem.mp y))] at hb; cases hb
        refine runs_nil ?_
        unfold putN
        rw [if_pos hin]
        rfl
      have hkm : here ∈ putN s.kk here := mem_putN.mpr (.inr rfl)
      generalize putN s.kk here = kk at hkm hunf
      have hget := dget_f (f := stD b) hkm
      have slen : (stepsF b here).length ≤ 32 := Nat.le_trans (few_words (m := b.m) (n := n) (nodup_stepsF b here) fun v hv => by
        have st := mem_stepsF.mp hv
        exact mem_allW.mpr ⟨by rw [step_len B st]; exact hW.1, step_ok B st hW.2⟩) h32
      refine runs_step (run_lc1 8 (stepsF b here) wd (fun v => !decide (v ∈ s.fk)) wd 7 rfl sc_rests_of.nd rfl rfl rfl (itr_lst (ds := (stepsF b here).map wd) (ev_getO 3 hr rfl (.inl rfl) (ev_eq (ev_v 6 rfl) (wd_wi here)) rfl rfl hget)) (blkOk_by rfl) (by show _ < sizeLine; unfold sizeLine; omega) rfl rfl (fun v hv X' hX => by
        obtain ⟨_, _, _, _, _, rfl⟩ := hX
        have e : (!decide (v ∈ s.fk)) = !decide (wi v ∈ s.fk.map wi) := by
          congr 1
          exact decide_eq_decide.mpr wi_mem.symm
        rw [e]
        exact (evTs_one (evB_ninO 2 hr rfl (.inr (.inl rfl)) (ev_eq (ev_v 7 rfl) (wd_wi v)) rfl))) (fun v hv hb X' hX => by obtain ⟨_, _, _, _, _, rfl⟩ := hX; exact (ev_v 7 rfl)) (by rintro _ ⟨⟩; exact h7)) ?_
      change Runs _ _ [.va (bkD b), .va (.lst ((allW b.m n).map wd)), fndC b s.fk (rsD b), fndC b kk (stD b), .va (wd u), .ml (s.rows.map wd), .va (wd here), c7, .ml ((waitF b s here).map wd), c9] _
      refine runs_if (ev_neNilO (n := 1) 8 hr rfl (.inl rfl) rfl rfl (okn_map fun _ => okn_wd)) (fun hb => ?_) (fun hb => ?_)
      · have hw : waitF b s here ≠ [] := fun z => by rw [z] at hb; cases hb
        rw [if_neg hw] at hunf
        have hlen : s.rows.length ≤ 32 := by
          refine Nat.le_trans (few_words (m := b.m) (n := n) ?_ S.rm) h32
          exact S.rp.imp fun h e => by rw [e] at h; omega
        refine runs_step (run_app 5 rfl (.inl rfl) (ev_ixO (d := wd ((waitF b s here).headD [])) 8 rfl (.inl rfl) ev_int rfl rfl ⟨_, rfl, by intro h; cases h⟩ (by
          cases hq : waitF b s here with
          | nil => exact absurd hq hw
          | cons x l => exact at_map (l := x :: l) (f := wd) (i := 0) (d0 := []) (Nat.zero_lt_succ _))) rfl (by intro h; cases h) rfl rfl (by rw [List.length_map]; show _ < sizeLine; unfold sizeLine; omega)) ?_
        refine runs_nil (runs_nil ⟨muS b n (dstep b s), hlt, dstep b s, .va (wd here), c7, .ml ((waitF b s here).map wd), c9, S', rfl, hend, h7, ?_⟩)
        rw [hunf]
        show _ = [_, _, _, _, _, C.ml ((s.rows ++ [(waitF b s here).headD []]).map wd), _, _, _, _]
        rw [List.map_append]
        rfl
      · have hw : waitF b s here = [] := by
          cases hq : waitF b s here with
          | nil => rfl
          | cons x l => rw [hq] at hb; cases hb
        rw [if_pos hw] at hunf
        have hall : ∀ v ∈ stepsF b here, v ∈ s.fk := fun v hv => Classical.byContradiction fun z => by
          have : v ∈ waitF b s here := List.mem_filter.mpr ⟨hv, by rw [decide_eq_false z]; rfl⟩
          rw [hw] at this
          cases this
        obtain ⟨l0, hl0⟩ : ∃ l0 : List (List Int), l0 = if stepsF b here = [] then [wi here] else [] := ⟨_, rfl⟩
        have beq0 := beq_dec (enc := fun l : List (List Nat) => D.lst (l.map wd)) (n := 2) (fun l => okn_lst (okn_map fun _ => okn_wd)) (fun a c e => (List.map_inj_right (fun x y z => wd_inj z)).mp (lst_inj e)) (stepsF b here) []
        refine runs_set (d := .lst (l0.map wdI)) 9 (ev_ifexpP (evB_cmp (ev_getO 3 hr rfl (.inl rfl) (ev_eq (ev_v 6 rfl) (wd_wi here)) rfl rfl hget) (ev_lst evA_nil) (cop_eqD (n := 2) hr (okn_lst (okn_map fun _ => okn_wd)) (okn_lst (by intro x hx; cases hx)))) (fun h => ?_) (fun h => ?_)) sc_rests_of.nd rfl (.inl rfl) ?_
        · have h : ((D.lst ((stepsF b here).map wd)).beq (.lst (([] : List (List Nat)).map wd))) = true := h
          rw [beq0] at h
          rw [hl0, if_pos (of_decide_eq_true h)]
          exact ev_lst (evA_cons (ev_eq (ev_v 6 rfl) (wd_wi here)) evA_nil)
        · have h : ((D.lst ((stepsF b here).map wd)).beq (.lst (([] : List (List Nat)).map wd))) = false := h
          rw [beq0] at h
          rw [hl0, if_neg (of_decide_eq_false h)]
          exact ev_lst evA_nil
        have l0len : l0.length ≤ 1 := by
          rw [hl0]
          split
          · exact Nat.le_refl _
          · exact Nat.zero_le _
        have rlen : ∀ v ∈ stepsF b here, (rsF b v).length ≤ 32 := fun v hv => by
          have st := mem_stepsF.mp hv
          refine Nat.le_trans (List.Nodup.length_le_of_subset (nodup_setW 4 _) (l₂ := (allW b.m n).map wi) fun k hk => ?_) (by rw [List.length_map, allW_length]; exact h32)
          obtain ⟨x, hx, rfl⟩ := (mem_rsF B (step_ok B st hW.2)).mp hk
          exact List.mem_map.mpr ⟨x, mem_allW.mpr ⟨by rw [hx.1.len B, step_len B st]; exact hW.1, hx.1.ok B (step_ok B st hW.2)⟩, rfl⟩
        have flen : ∀ q : List (List Nat), (∀ v ∈ q, v ∈ stepsF b here) → (q.flatMap (rsF b)).length ≤ q.length * 32 := fun q => by
          induction q with
          | nil => intro _; simp
          | cons v q ih =>
            intro hq
            have := ih fun x hx => hq x (by simp [hx])
            have := rlen v (hq v (by simp))
            rw [List.flatMap_cons, List.length_append, List.length_cons]
            omega
        refine runs_for (stepsF b here) wd (fun q ρ => ∃ c7, c7.own = false ∧ ρ = [.va (bkD b), .va (.lst ((allW b.m n).map wd)), fndC b s.fk (rsD b), fndC b kk (stD b), .va (wd u), .ml (s.rows.map wd), .va (wd here), c7, .ml ((waitF b s here).map wd), .va (.lst ((l0 ++ q.flatMap (rsF b)).map wdI))]) .never rfl (itr_lst (ds := (stepsF b here).map wd) (ev_getO 3 hr rfl (.inl rfl) (ev_eq (ev_v 6 rfl) (wd_wi here)) rfl rfl hget)) ?_ ?_ ?_
        · exact ⟨c7, h7, by rw [List.flatMap_nil, List.append_nil]; rfl⟩
        · rintro q v post2 ρ' hl2 ⟨c7, h7, rfl⟩
          have hv : v ∈ stepsF b here := by rw [hl2]; simp
          have hq := flen q fun x hx => by rw [hl2]; simp [hx]
          have hq2 : q.length ≤ 32 := by
            have := congrArg List.length hl2
            simp at this
            omega
          have hv2 := rlen v hv
          refine ⟨_, _, (tg_name 7 sc_rests_of.nd rfl (.inl rfl)), ?_⟩
          refine runs_set 9 (ev_op (ev_v 9 rfl) (ev_getO 2 hr rfl (.inr (.inl rfl)) (ev_eq (ev_v 7 rfl) (wd_wi v)) rfl rfl (dget_f (f := rsD b) (hall v hv))) (bop_cat (by rw [List.length_map, List.length_map, List.length_append]; show _ ≤ sizeLine; unfold sizeLine; omega))) sc_rests_of.nd rfl (.inl rfl) ?_
          refine runs_nil ⟨.va (wd v), rfl, ?_⟩
          rw [List.flatMap_append, List.flatMap_cons, List.flatMap_nil, List.append_nil, ← List.append_assoc, List.map_append (l₁ := l0 ++ q.flatMap (rsF b))]
          rfl
        · rintro ρ' ⟨c7, h7, rfl⟩
          have key : ∀ k, k ∈ l0 ++ (stepsF b here).flatMap (rsF b) ↔ (stepsF b here = [] ∧ k = wi here) ∨ ∃ v ∈ stepsF b here, k ∈ rsF b v := fun k => by
            rw [List.mem_append, List.mem_flatMap, hl0]
            constructor
            · rintro (h | h)
              · split at h
                · exact .inl ⟨by assumption, List.mem_singleton.mp h⟩
                · cases h
              · exact .inr h
            · rintro (⟨h1, rfl⟩ | h)
              · exact .inl (by rw [if_pos h1]; simp)
              · exact .inr h
          have erf := rsF_steps B hW.2 key
          have kin : ∀ k ∈ l0 ++ (stepsF b here).flatMap (rsF b), k ∈ (rsL b here).map wi := fun k hk => by
            have : k ∈ setW 4 (l0 ++ (stepsF b here).flatMap (rsF b)) := mem_setW.mpr hk
            rw [erf] at this
            exact mem_setW.mp this
          have klen := few_words S.fn S.fm
          refine runs_step (run_put (ρ3 := []) 2 hr rfl (.inr (.inl rfl)) (ev_of_new (evN_sortedSet (d := n) (ev_v 9 rfl) rfl (Nat.lt_of_le_of_lt (Nat.add_le_add_left (by decide) _) (room100 hr)) (fun k hk => by
            have := rsF_bd B hW.2 (kin k hk)
            rw [hW.1] at this
            exact this) hn1 (fun L nd hL => by
            have := List.Nodup.length_le_of_subset nd (l₂ := (allW b.m n).map wi) fun k hk => by
              obtain ⟨x, hx, rfl⟩ := List.mem_map.mp (kin k (hL k hk))
              have hx := (mem_rsL B hW.2).mp hx
              exact List.mem_map.mpr ⟨x, mem_allW.mpr ⟨by rw [hx.1.len B]; exact hW.1, hx.1.ok B hW.2⟩, rfl⟩
            rw [List.length_map, allW_length] at this
            omega) rfl T.sorted rfl T.set)) (ev_eq (ev_v 6 rfl) (wd_wi here)) rfl rfl (by rw [List.length_map]; show _ < sizeLine; unfold sizeLine; omega)) ?_
          rw [erf]
          refine runs_step (run_pop 5 rfl (.inl rfl) rfl rfl (fun z => hne (by simpa using z))) ?_
          refine runs_nil (runs_nil ⟨muS b n (dstep b s), hlt, dstep b s, .va (wd here), c7, .ml ((waitF b s here).map wd), .va (.lst ((l0 ++ (stepsF b here).flatMap (rsF b)).map wdI)), S', rfl, hend, h7, ?_⟩)
          rw [hunf]
          have e1 := dputK_wi s.fk here
          have e2 := dputV_f s.fk (rsD b) here
          show _ = [_, _, C.md ((putN s.fk here).map wi) ((putN s.fk here).map (rsD b)), _, _, C.ml (s.rows.dropLast.map wd), _, _, _, _]
          rw [← e1, ← e2, ← List.map_dropLast]
          rfl
    · have hz : s.rows = [] := by
        cases hq : s.rows with
        | nil => rfl
        | cons x l => rw [hq] at hb; cases hb
      rw [dend_nil hz] at hend
      refine runs_nil ⟨.va (wd u), .ml (s.rows.map wd), c6, c7, c8, c9, h7, ?_⟩
      rw [est, ← hend]
  · rintro ρ' ⟨c4, c5, c6, c7, c8, c9, h7, rfl⟩
    exact runs_ret (ev_varD 2 rfl (.inr (.inl rfl)) rfl) (rt_eq rfl)
end
end K8
/-! Meeting: clash_in, clash, has_one_rest, need_one_rest; rests: rested, rest. -/
namespace K8
open PySem PySem.Spec PyProof.Rows L2
noncomputable def clashW (b : Bk) (n : Nat) : Option (List Nat) := (allW b.m n).find? fun u => decide (1 < (rsF b u).length)
noncomputable def clashO (b : Bk) : Option (List Nat) := (List.range (2 * longF b - 1)).findSome? fun i => clashW b (1 + i)
noncomputable def clD (b : Bk) : Option (List Nat) → D
  | none => .non
  | some u => .tup [wd u, wdI ((rsF b u).getD 0 []), wdI ((rsF b u).getD 1 [])]
theorem clD_non (b : Bk) (o : Option (List Nat)) : (clD b o).isNon = o.isNone := by cases o <;> rfl
/-- no clash: one rest for every word -/
theorem clash_none {b : Bk} (B : BkOk b) (he : EndsB b) (h : clashO b = none) {u : List Nat} (hu : WdOk b u) : UR b u := by
  refine all_one B he (fun v hv h1 h2 => ?_) hu
  intro n n' hn hn'
  unfold clashO at h
  rw [List.findSome?_eq_none_iff] at h
  have h3 := h (v.length - 1) (List.mem_range.mpr (by omega))
  unfold clashW at h3
  rw [List.find?_eq_none] at h3
  have h4 := h3 v (mem_allW.mpr ⟨by omega, hv⟩)
  have h5 : (rsF b v).length ≤ 1 := by
    have : ¬(1 < (rsF b v).length) := by simpa using h4
    omega
  have m1 : wi n ∈ rsF b v := (mem_rsF B hv).mpr ⟨n, hn, rfl⟩
  have m2 : wi n' ∈ rsF b v := (mem_rsF B hv).mpr ⟨n', hn', rfl⟩
  cases hr : rsF b v with
  | nil => rw [hr] at m1; cases m1
  | cons x l =>
    rw [hr] at m1 m2 h5
    have : l = [] := by
      cases l with
      | nil => rfl
      | cons y l => simp at h5
    subst this
    exact wi_inj ((List.mem_singleton.mp m1).trans (List.mem_singleton.mp m2).symm)
theorem clash_some {b : Bk} (B : BkOk b) {u : List Nat} (h : clashO b = some u) : WdOk b u ∧ 1 ≤ u.length ∧ u.length ≤ 2 * longF b - 1 ∧ ∃ n n', RestOf b u n ∧ RestOf b u n' ∧ n ≠ n' ∧ clD b (some u) = .tup [wd u, wd n, wd n'] := by
  unfold clashO at h
  obtain ⟨i, hi, h2⟩ := List.exists_of_findSome?_eq_some h
  have hi := List.mem_range.mp hi
  unfold clashW at h2
  have h3 := List.find?_some h2
  have h4 := mem_allW.mp (List.mem_of_find?_eq_some h2)
  have h5 : 1 < (rsF b u).length := of_decide_eq_true h3
  have m0 : (rsF b u).getD 0 [] ∈ rsF b u := getD_mem (by omega)
  have m1 : (rsF b u).getD 1 [] ∈ rsF b u := getD_mem h5
  obtain ⟨n, hn, e0⟩ := (mem_rsF B h4.2).mp m0
  obtain ⟨n', hn', e1⟩ := (mem_rsF B h4.2).mp m1
  refine ⟨h4.2, by omega, by omega, n, n', hn, hn', fun z => ?_, ?_⟩
  · have nd : (rsF b u).Nodup := nodup_setW 4 _
    have : (rsF b u).getD 0 [] = (rsF b u).getD 1 [] := by rw [e0, e1, z]
    cases hr : rsF b u with
    | nil => rw [hr] at h5; simp at h5
    | cons x l =>
      cases l with
      | nil => rw [hr] at h5; simp at h5
      | cons y l =>
        rw [hr] at this nd
        have : x = y := this
        subst this
        exact (List.nodup_cons.mp nd).1 (by simp)
  · show D.tup [wd u, wdI ((rsF b u).getD 0 []), wdI ((rsF b u).getD 1 [])] = _
    rw [e0, e1, wd_wi n, wd_wi n']
/-! ### the rest of a word -/
def restN (b : Bk) : Nat → List Nat → List Nat
  | 0, u => u
  | n + 1, u => match stepsF b u with
    | [] => u
    | v :: _ => restN b n v
theorem restN_stable {b : Bk} (B : BkOk b) (he : EndsB b) : ∀ (k : Nat) (u : List Nat), WdOk b u → rkB b u ≤ k → restN b k u = restN b (rkB b u) u ∧ RestOf b u (restN b k u)
  | 0, u, hu, h => by
    have R := (rkB_ok B he).1
    have : rkB b u = 0 := by omega
    rw [this]
    exact ⟨rfl, .refl, fun v s => by have := R u v hu s; omega⟩
  | k + 1, u, hu, h => by
    have R := (rkB_ok B he).1
    cases hs : stepsF b u with
    | nil =>
      have e : ∀ k, restN b k u = u := fun k => by
        cases k with
        | zero => rfl
        | succ k => unfold restN; rw [hs]
      rw [e, e]
      exact ⟨rfl, .refl, fun v s => by have := mem_stepsF.mpr s; rw [hs] at this; cases this⟩
    | cons v l =>
      have st : Step b.rs u v := mem_stepsF.mp (by rw [hs]; simp)
      have lt := R u v hu st
      have e : ∀ k, restN b (k + 1) u = restN b k v := fun k => by
        conv => lhs; unfold restN
        rw [hs]
      obtain ⟨i1, i2⟩ := restN_stable B he k v (step_ok B st hu) (by omega)
      rw [e]
      refine ⟨?_, .head st i2.1, i2.2⟩
      cases hm : rkB b u with
      | zero => omega
      | succ m =>
        rw [e, i1]
        exact (restN_stable B he m v (step_ok B st hu) (by omega)).1.symm
termination_by k => k
decreasing_by all_goals omega
noncomputable def restedF (b : Bk) (u : List Nat) : List Nat := restN b (rkB b u) u
theorem restedF_rest {b : Bk} (B : BkOk b) (he : EndsB b) {u : List Nat} (hu : WdOk b u) : RestOf b u (restedF b u) := (restN_stable B he _ u hu (Nat.le_refl _)).2
theorem restedF_step {b : Bk} (B : BkOk b) (he : EndsB b) {u v : List Nat} {l : List (List Nat)} (hu : WdOk b u) (hs : stepsF b u = v :: l) : restedF b u = restedF b v := by
  have R := (rkB_ok B he).1
  have st : Step b.rs u v := mem_stepsF.mp (by rw [hs]; simp)
  have lt := R u v hu st
  unfold restedF
  cases hm : rkB b u with
  | zero => omega
  | succ m =>
    have e : restN b (m + 1) u = restN b m v := by
      conv => lhs; unfold restN
      rw [hs]
    rw [e]
    exact (restN_stable B he m v (step_ok B st hu) (by omega)).1
theorem restedF_nil {b : Bk} {u : List Nat} (hs : stepsF b u = []) : restedF b u = u := by
  unfold restedF
  cases rkB b u with
  | zero => rfl
  | succ k => unfold restN; rw [hs]
section
variable {P : Program} {w : World} {K : PySem.W.Frag} {mg : Str → Option Value} {base : Heap}
theorem sc_clash_in : FnScope ["book", "long", "words", "told", "word"] ["book"] (defScope s_clash_in) := ⟨rfl, rfl, rfl, by decide +kernel, rfl, by decide +kernel, by decide +kernel⟩
def R_clash_in (ds : List D) (d : D) : Prop := ∃ b, BkS b ∧ EndsB b ∧ ds = [bkD b] ∧ d = clD b (clashO b)
theorem ok_clash_in (T : Gb K mg) (A : DefAt K mg "clash_in" s_clash_in) (G_longest_rule : DefOk P w K mg base "longest_rule" 1 ["book"] (spD K R_longest_rule)) (G_all_words : DefOk P w K mg base "all_words" 1 ["book", "long"] (spD K R_all_words)) (G_rests_of : DefOk P w K mg base "rests_of" 3 ["book", "words"] (spD K R_rests_of)) : DefOk P w K mg base "clash_in" 4 ["book"] (spD K R_clash_in) := by
  refine fn_ok A sc_clash_in (by decide) (fun _ _ _ _ _ _ us hl => match us, hl with | [_], _ => rfl) (fun ds d h => by obtain ⟨_, _, _, rfl, _⟩ := h; rfl) ?_
  intro f cdv A' outer s H E hr ds d ⟨b, BS, he, e1, e2⟩
  subst e1 e2
  have B := BS.toBkOk
  have L3 := longF_le B
  have m2 := B.m2
  refine runs_for (List.range (2 * longF b - 1)) (fun i => nD (1 + i)) (fun pre ρ => ∃ c1 c2 c3 c4, (pre.findSome? fun i => clashW b (1 + i)) = none ∧ ρ = [.va (bkD b), c1, c2, c3, c4]) .never rfl (itr_range2 (m := 1) (n := 2 * longF b) ev_int (ev_eq (ev_op ev_int (ev_call G_longest_rule (hr.mono (by decide)) rfl (evA_cons (ev_v 0 rfl) evA_nil) ⟨b, B, rfl, rfl⟩) (bop_mulS ?_)) (by push_cast; rfl)) (by decide) (by omega) rfl T.range) ?_ ?_ ?_
  · unfold CMul
    omega
  · exact ⟨.un, .un, .un, .un, rfl, rfl⟩
  · rintro pre i post ρ' hl ⟨c1, c2, c3, c4, hpre, rfl⟩
    have hi : i < 2 * longF b - 1 := List.mem_range.mp (by rw [hl]; simp)
    have h32 : b.m ^ (1 + i) ≤ 32 := Nat.le_trans (Nat.pow_le_pow_right (by omega) (by omega)) BS.sm
    refine ⟨_, _, (tg_name 1 sc_clash_in.nd rfl (.inl rfl)), ?_⟩
    refine runs_set 2 (ev_call G_all_words (hr.mono (by decide)) rfl (evA_cons (ev_v 0 rfl) (evA_cons (ev_v 1 rfl) evA_nil)) ⟨b, 1 + i, B, by omega, rfl, rfl⟩) sc_clash_in.nd rfl (.inl rfl) ?_
    refine runs_set 3 (ev_call G_rests_of (hr.mono (by decide)) rfl (evA_cons (ev_v 0 rfl) (evA_cons (ev_v 2 rfl) evA_nil)) ⟨b, 1 + i, B, he, by omega, by omega, h32, rfl, rfl⟩) sc_clash_in.nd rfl (.inl rfl) ?_
    have hfk := (dAll_ok B he (allW b.m (1 + i)) _ (dos_nil b (1 + i)) rfl fun x hx => hx).2.2.2
    change ∀ w ∈ allW b.m (1 + i), w ∈ (dAll b (1 + i) (allW b.m (1 + i))).fk at hfk
    generalize (dAll b (1 + i) (allW b.m (1 + i))).fk = fk at hfk
    refine runs_for (allW b.m (1 + i)) wd (fun q ρ => ∃ c4, (q.find? fun u => decide (1 < (rsF b u).length)) = none ∧ ρ = [.va (bkD b), .va (nD (1 + i)), .va (.lst ((allW b.m (1 + i)).map wd)), .va (.dic (fk.map wi) (fk.map (rsD b))), c4]) .never rfl (itr_lst (ev_v 2 rfl)) ?_ ?_ ?_
    · exact ⟨c4, rfl, rfl⟩
    · rintro q u rest ρ' hl2 ⟨c4, hq, rfl⟩
      have hu : u ∈ fk := hfk u (by rw [hl2]; simp)
      have hg := dget_f (f := rsD b) hu
      refine ⟨_, _, (tg_name 4 sc_clash_in.nd rfl (.inl rfl)), ?_⟩
      refine runs_if (evB_cmp (ev_len (ev_get hr (ev_v 3 rfl) (ev_eq (ev_v 4 rfl) (wd_wi u)) hg) rfl rfl T.len) ev_int cop_gt) (fun hb => ?_) (fun hb => ?_)
      · have h1 : 1 < (rsF b u).length := by
          have h := of_decide_eq_true hb
          rw [List.length_map] at h
          omega
        have hc : clashO b = some u := by
          unfold clashO
          rw [hl, List.findSome?_append, hpre]
          have : clashW b (1 + i) = some u := by
            unfold clashW
            rw [hl2, List.find?_append, hq, Option.none_or, List.find?_cons, decide_eq_true h1]
          rw [Option.none_or, List.findSome?_cons, this]
        refine runs_ret (ev_tup (evA_cons (ev_v 4 rfl) (evA_cons (ev_ix (ev_get hr (ev_v 3 rfl) (ev_eq (ev_v 4 rfl) (wd_wi u)) hg) ev_int (iop_lst (at_map (l := rsF b u) (f := wdI) (i := 0) (d0 := []) (by omega)))) (evA_cons (ev_ix (ev_get hr (ev_v 3 rfl) (ev_eq (ev_v 4 rfl) (wd_wi u)) hg) ev_int (iop_lst (at_map (l := rsF b u) (f := wdI) (i := 1) (d0 := []) h1))) evA_nil)))) (rt_eq ?_)
        rw [hc]
        rfl
      · have h1 : ¬(1 < (rsF b u).length) := by
          have h := of_decide_eq_false hb
          rw [List.length_map] at h
          omega
        refine runs_nil (runs_nil ⟨.va (wd u), ?_, rfl⟩)
        rw [List.find?_append, hq, Option.none_or, List.find?_cons, decide_eq_false h1]
        rfl
    · rintro ρ' ⟨c4, hq, rfl⟩
      refine runs_nil ⟨_, _, _, c4, ?_, rfl⟩
      rw [List.findSome?_append, hpre, Option.none_or, List.findSome?_cons, show clashW b (1 + i) = none from hq]
      rfl
  · rintro ρ' ⟨c1, c2, c3, c4, hpre, rfl⟩
    refine runs_ret ev_non (rt_eq ?_)
    rw [show clashO b = none from hpre]
    rfl
theorem sc_clash : FnScope ["book"] ["book"] (defScope s_clash) := ⟨rfl, rfl, rfl, by decide +kernel, rfl, by decide +kernel, by decide +kernel⟩
theorem ok_clash (T : Gb K mg) (A : DefAt K mg "clash" s_clash) (G_need_ending : DefOk P w K mg base "need_ending" 12 ["book"] (spD K R_need_ending)) (G_clash_in : DefOk P w K mg base "clash_in" 4 ["book"] (spD K R_clash_in)) : DefOk P w K mg base "clash" 13 ["book"] (spD K R_clash_in) := by
  refine fn_ok A sc_clash (by decide) (fun _ _ _ _ _ _ us hl => match us, hl with | [_], _ => rfl) (fun ds d h => by obtain ⟨_, _, _, rfl, _⟩ := h; rfl) ?_
  intro f cdv A' outer s H E hr ds d ⟨b, BS, he, e1, e2⟩
  subst e1 e2
  refine runs_step (run_expr (ev_call G_need_ending (hr.mono (by decide)) rfl (evA_cons (ev_v 0 rfl) evA_nil) ⟨b, BS.toBkOk, he, rfl, rfl⟩)) ?_
  exact runs_ret (ev_call G_clash_in (hr.mono (by decide)) rfl (evA_cons (ev_v 0 rfl) evA_nil) ⟨b, BS, he, rfl, rfl⟩) (rt_eq rfl)
theorem sc_has_one_rest : FnScope ["book"] ["book"] (defScope s_has_one_rest) := ⟨rfl, rfl, rfl, by decide +kernel, rfl, by decide +kernel, by decide +kernel⟩
def R_has_one_rest (ds : List D) (d : D) : Prop := ∃ b, BkS b ∧ EndsB b ∧ ds = [bkD b] ∧ d = .bl (clashO b).isNone
theorem ok_has_one_rest (T : Gb K mg) (A : DefAt K mg "has_one_rest" s_has_one_rest) (G_need_ending : DefOk P w K mg base "need_ending" 12 ["book"] (spD K R_need_ending)) (G_clash_in : DefOk P w K mg base "clash_in" 4 ["book"] (spD K R_clash_in)) : DefOk P w K mg base "has_one_rest" 13 ["book"] (spD K R_has_one_rest) := by
  refine fn_ok A sc_has_one_rest (by decide) (fun _ _ _ _ _ _ us hl => match us, hl with | [_], _ => rfl) (fun ds d h => by obtain ⟨_, _, _, rfl, _⟩ := h; rfl) ?_
  intro f cdv A' outer s H E hr ds d ⟨b, BS, he, e1, e2⟩
  subst e1 e2
  refine runs_step (run_expr (ev_call G_need_ending (hr.mono (by decide)) rfl (evA_cons (ev_v 0 rfl) evA_nil) ⟨b, BS.toBkOk, he, rfl, rfl⟩)) ?_
  refine runs_ret (ev_isNone (ev_call G_clash_in (hr.mono (by decide)) rfl (evA_cons (ev_v 0 rfl) evA_nil) ⟨b, BS, he, rfl, rfl⟩)) (rt_eq ?_)
  rw [clD_non]
theorem sc_need_one_rest : FnScope ["book"] ["book"] (defScope s_need_one_rest) := ⟨rfl, rfl, rfl, by decide +kernel, rfl, by decide +kernel, by decide +kernel⟩
def R_need_one_rest (ds : List D) (d : D) : Prop := ∃ b, BkS b ∧ EndsB b ∧ clashO b = none ∧ ds = [bkD b] ∧ d = .non
theorem ok_need_one_rest (T : Gb K mg) (A : DefAt K mg "need_one_rest" s_need_one_rest) (G_need_ending : DefOk P w K mg base "need_ending" 12 ["book"] (spD K R_need_ending)) (G_clash_in : DefOk P w K mg base "clash_in" 4 ["book"] (spD K R_clash_in)) : DefOk P w K mg base "need_one_rest" 13 ["book"] (spD K R_need_one_rest) := by
  refine fn_ok A sc_need_one_rest (by decide) (fun _ _ _ _ _ _ us hl => match us, hl with | [_], _ => rfl) (fun ds d h => by obtain ⟨_, _, _, _, rfl, _⟩ := h; rfl) ?_
  intro f cdv A' outer s H E hr ds d ⟨b, BS, he, hc, e1, e2⟩
  subst e1 e2
  refine runs_step (run_expr (ev_call G_need_ending (hr.mono (by decide)) rfl (evA_cons (ev_v 0 rfl) evA_nil) ⟨b, BS.toBkOk, he, rfl, rfl⟩)) ?_
  refine runs_if (evB_notNone (ev_call G_clash_in (hr.mono (by decide)) rfl (evA_cons (ev_v 0 rfl) evA_nil) ⟨b, BS, he, rfl, rfl⟩)) (fun hb => ?_) (fun hb => ?_)
  · rw [clD_non, hc] at hb
    cases hb
  · exact runs_nil (runs_nil (.inr ⟨rfl, _, rfl⟩))
theorem sc_rested : FnScope ["book", "word", "found", "some"] ["book", "word"] (defScope s_rested) := ⟨rfl, rfl, rfl, by decide +kernel, rfl, by decide +kernel, by decide +kernel⟩
def R_rested (ds : List D) (d : D) : Prop := ∃ b u, BkOk b ∧ EndsB b ∧ WdOk b u ∧ 1 ≤ u.length ∧ u.length ≤ 20 ∧ ds = [bkD b, wd u] ∧ d = wd (restedF b u)
theorem ok_rested (T : Gb K mg) (A : DefAt K mg "rested" s_rested) (G_steps_in : DefOk P w K mg base "steps_in" 2 ["book", "word"] (spD K R_steps_in)) : DefOk P w K mg base "rested" 3 ["book", "word"] (spD K R_rested) := by
  refine fn_ok A sc_rested (by decide) (fun _ _ _ _ _ _ us hl => match us, hl with | [_, _], _ => rfl) (fun ds d h => by obtain ⟨_, _, _, _, _, _, _, rfl, _⟩ := h; rfl) ?_
  intro f cdv A' outer s H E hr ds d ⟨b, u, B, he, hu, h1, h20, e1, e2⟩
  subst e1 e2
  refine runs_set 2 (ev_v 1 rfl) sc_rested.nd rfl (.inl rfl) ?_
  refine runs_set 3 (ev_call G_steps_in (hr.mono (by decide)) rfl (evA_cons (ev_v 0 rfl) (evA_cons (ev_v 2 rfl) evA_nil)) ⟨b, u, B, h1, h20, rfl, rfl⟩) sc_rested.nd rfl (.inl rfl) ?_
  refine runs_while (fun m ρ => ∃ v, WdOk b v ∧ v.length = u.length ∧ m = rkB b v ∧ restedF b v = restedF b u ∧ ρ = [.va (bkD b), .va (wd u), .va (wd v), .va (.lst ((stepsF b v).map wd))]) .never ⟨u, hu, rfl, rfl, rfl, rfl⟩ ?_
  rintro m ρ ⟨v, hv, hl, rfl, hrest, rfl⟩
  have beq0 := beq_dec (enc := fun l : List (List Nat) => D.lst (l.map wd)) (n := 2) (fun l => okn_lst (okn_map fun _ => okn_wd)) (fun a c e => (List.map_inj_right (fun x y z => wd_inj z)).mp (lst_inj e)) (stepsF b v) []
  refine ⟨_, _, (evB_cmp (ev_v 3 rfl) (ev_lst evA_nil) (cop_neD (n := 2) hr (okn_lst (okn_map fun _ => okn_wd)) (okn_lst (by intro x hx; cases hx)))), fun hb => ?_, fun hb => ?_⟩
  · have hb : (!(D.lst ((stepsF b v).map wd)).beq (.lst (([] : List (List Nat)).map wd))) = true := hb
    rw [beq0] at hb
    have hne : stepsF b v ≠ [] := by simpa using hb
    cases hs : stepsF b v with
    | nil => exact absurd hs hne
    | cons x l =>
      have st : Step b.rs v x := mem_stepsF.mp (by rw [hs]; simp)
      have lt := (rkB_ok B he).1 v x hv st
      have hx := step_len B st
      refine runs_set 2 (ev_ix (d := wd x) (ev_v 3 rfl) ev_int (iop_lst at_zero)) sc_rested.nd rfl (.inl rfl) ?_
      refine runs_set 3 (ev_call G_steps_in (hr.mono (by decide)) rfl (evA_cons (ev_v 0 rfl) (evA_cons (ev_v 2 rfl) evA_nil)) ⟨b, x, B, by omega, by omega, rfl, rfl⟩) sc_rested.nd rfl (.inl rfl) ?_
      exact runs_nil ⟨rkB b x, lt, x, step_ok B st hv, by omega, rfl, by rw [← hrest, restedF_step B he hv hs], rfl⟩
  · have hb : (!(D.lst ((stepsF b v).map wd)).beq (.lst (([] : List (List Nat)).map wd))) = false := hb
    rw [beq0] at hb
    have hne : stepsF b v = [] := by simpa using hb
    refine runs_ret (ev_v 2 rfl) (rt_eq ?_)
    rw [← hrest, restedF_nil hne]
theorem sc_rest : FnScope ["book", "word"] ["book", "word"] (defScope s_rest) := ⟨rfl, rfl, rfl, by decide +kernel, rfl, by decide +kernel, by decide +kernel⟩
def R_rest (ds : List D) (d : D) : Prop := ∃ b u, BkS b ∧ EndsB b ∧ clashO b = none ∧ WdOk b u ∧ 1 ≤ u.length ∧ u.length ≤ 20 ∧ ds = [bkD b, wd u] ∧ d = wd (restedF b u)
theorem ok_rest (T : Gb K mg) (A : DefAt K mg "rest" s_rest) (G_need_one_rest : DefOk P w K mg base "need_one_rest" 13 ["book"] (spD K R_need_one_rest)) (G_need_word : DefOk P w K mg base "need_word" 2 ["book", "word", "most"] (spD K R_need_word)) (G_rested : DefOk P w K mg base "rested" 3 ["book", "word"] (spD K R_rested)) : DefOk P w K mg base "rest" 14 ["book", "word"] (spD K R_rest) := by
  refine fn_ok A sc_rest (by decide) (fun _ _ _ _ _ _ us hl => match us, hl with | [_, _], _ => rfl) (fun ds d h => by obtain ⟨_, _, _, _, _, _, _, _, rfl, _⟩ := h; rfl) ?_
  intro f cdv A' outer s H E hr ds d ⟨b, u, BS, he, hc, hu, h1, h20, e1, e2⟩
  subst e1 e2
  refine runs_step (run_expr (ev_call G_need_one_rest (hr.mono (by decide)) rfl (evA_cons (ev_v 0 rfl) evA_nil) ⟨b, BS, he, hc, rfl, rfl⟩)) ?_
  refine runs_step (run_expr (ev_call G_need_word (hr.mono (by decide)) rfl (evA_cons (ev_v 0 rfl) (evA_cons (ev_v 1 rfl) (evA_cons (ev_gint rfl T.ms) evA_nil))) ⟨b, u, 20, hu, h20, rfl, rfl⟩)) ?_
  exact runs_ret (ev_call G_rested (hr.mono (by decide)) rfl (evA_cons (ev_v 0 rfl) (evA_cons (ev_v 1 rfl) evA_nil)) ⟨b, u, BS.toBkOk, he, hu, h1, h20, rfl, rfl⟩) (rt_eq rfl)
end
end K8
set_option maxHeartbeats 1000000
/-! The law: own lists as arguments. -/
namespace K8
open PySem PySem.Spec PyProof.Rows L2
section
variable {X : Cx} {e elt iter : Expr} {es : List Expr} {sts : List Stmt} {pos p : Pos} {ρ ρ1 : List C} {d : D} {ds : List D} {k : Nat} {x : Str} {ps : List Str} {P : Out → Prop} {scope : Scope}
/-- one's own list, with the address at which it stands -/
theorem Rl.mlmr {K : PySem.W.Frag} {M F H : Hp} {σ : St} {i : Nat} (R : Rl K M ρ F σ H) (h : ρ[i]? = some (.ml ds)) : ∃ p, Rl K M (ρ.set i (.mr p ds)) F σ H := by
  obtain ⟨fp, h1, h2⟩ := R.ow
  obtain ⟨p, hs, ⟨hA, xs, hx, hl⟩, hf⟩ := h1 i _ h rfl
  have hi : i < ρ.length := (List.getElem?_eq_some_iff.mp h).1
  have key : ∀ {j : Nat} {c : C}, (ρ.set i (.mr p ds))[j]? = some c → (j = i ∧ c = .mr p ds) ∨ (j ≠ i ∧ ρ[j]? = some c) := fun {j c} q => by
    by_cases hj : i = j
    · subst hj
      rw [List.getElem?_set_self hi] at q
      exact .inl ⟨rfl, (Option.some.inj q).symm⟩
    · rw [List.getElem?_set_ne hj] at q
      exact .inr ⟨fun z => hj z.symm, q⟩
  have old : ∀ {j : Nat} {c : C}, (ρ.set i (.mr p ds))[j]? = some c → c.own = true → ∃ c', ρ[j]? = some c' ∧ c'.own = true := fun {j c} q o => by
    rcases key q with ⟨rfl, _⟩ | ⟨_, q⟩
    · exact ⟨_, h, rfl⟩
    · exact ⟨c, q, o⟩
  refine ⟨p, R.z, by rw [List.length_set]; exact R.len, fun j d' q => ?_, fp, fun j c q o => ?_, fun j k cj ck hne e1 o1 e2 o2 => ?_⟩
  · rcases key q with ⟨_, z⟩ | ⟨_, q⟩
    · cases z
    · exact R.va j d' q
  · rcases key q with ⟨rfl, rfl⟩ | ⟨_, q⟩
    · exact ⟨p, hs, ⟨hA, rfl, xs, hx, hl⟩, hf⟩
    · exact h1 j c q o
  · obtain ⟨c1, e1', o1'⟩ := old e1 o1
    obtain ⟨c2, e2', o2'⟩ := old e2 o2
    exact h2 j k c1 c2 hne e1' o1' e2' o2'
theorem runs_mlmr (i : Nat) (h : ρ[i]? = some (.ml ds)) (r : ∀ p, Runs X sts (ρ.set i (.mr p ds)) P) : Runs X sts ρ P :=
  ⟨fun pins s σ H E I ⟨M, F, R, q⟩ => by
    obtain ⟨p, R'⟩ := R.mlmr h
    exact (r p).run pins s σ H E I ⟨M, F, R', q⟩⟩
/-- one's own list given to a def that changes it -/
theorem ev_callM2 {R : List D → List D → D → List D → Prop} {y : Str} {py : Pos} {i : Nat} {r : Addr} {ds00 ds0 ds1 : List D} (G : DefOk X.prog X.w X.K X.mg X.base x k ps (spM X.K R)) (hr : Room k X.A) (hg : Gl X x) (hN : X.N[i]? = some y) (hv : Vis X.env.scope y) (h00 : ρ[i]? = some (.mr r ds00)) (ha : EvA X es ρ ds ρ1) (h0 : ρ1[i]? = some (.mr r ds0)) (h : R ds0 ds d ds1)
    (hdb : (x == ("__debug__" : Str)) = false := by decide) (he : starEach (Expr.Name y py :: es) X.env = (false, eval (Expr.Name y py) X.env) :: starEach es X.env := by rfl) (hpl : (backTo pos (starEach es X.env)).any (·.1) = false := by rfl) (hd : (y == ("__debug__" : Str)) = false := by decide) (hcd : (y == ("__classdict__" : Str)) = false := by decide) :
    Ev X (.Call (.Name x p) (.Name y py :: es) [] pos) ρ d (ρ1.set i (.mr r ds1)) := by
  obtain ⟨f, fd, gm, kp, b, F⟩ := G
  refine pe_imp (pe_call F hr hg gm kp b .nil (E := E0) pass0 (pa_cons (pe_var hN hv hd hcd) ha he) hdb he hpl) fun σ H Q ⟨M, F, R, q⟩ => ?_
  obtain ⟨p, xs, hs, hp, l0, f1, m1⟩ := R.asL h00 rfl
  refine ⟨_, hs, M, F, R, fun F1 H1 vs s1 R1 l => ?_⟩
  obtain ⟨p', xs1, hs1, hp1, l1, f2, m2⟩ := R1.asL h0 rfl
  rw [hs] at hs1
  cases hs1
  have pr : p = r := by
    obtain ⟨fp, g1, _⟩ := R1.ow
    obtain ⟨p2, hs2, ⟨_, e2, _⟩, _⟩ := g1 i _ h0 rfl
    rw [hs] at hs2
    cases hs2
    exact e2.symm
  subst pr
  have R2 : Rl X.K M (ρ1.set i .un) F1 σ H1 := R1.weak ⟨by rw [List.length_set], fun j c e => by
    by_cases hj : i = j
    · subst hj
      rw [List.getElem?_set] at e
      simp only [if_true] at e
      split at e
      · exact .inl (Option.some.inj e).symm
      · cases e
    · rw [List.getElem?_set_ne hj] at e
      exact .inr e⟩
  obtain ⟨fp, g1, g2⟩ := R1.ow
  obtain ⟨p2, hs2, ⟨hA, _, _⟩, hf⟩ := g1 i _ h0 rfl
  have apart : ∀ (j : Nat) c, j ≠ i → ρ1[j]? = some c → c.own = true → p ∉ fp j := fun j c hj e o hm => g2 j i c _ hj e o h0 rfl p hm (by
    rw [hs] at hs2
    cases hs2
    rw [hA]
    exact List.mem_singleton.mpr rfl)
  let A : Addr → Prop := fun a => ∃ (j : Nat) (c : C), j ≠ i ∧ ρ1[j]? = some c ∧ c.own = true ∧ a ∈ fp j
  have inA : ∀ {a}, A a → F1 a = none ∧ M a = none ∧ H1 a ≠ none := fun {a} ⟨j, c, _, e, o, ha⟩ => (g1 j c e o).elim fun p q => q.2.2 a ha
  have pA : ¬ A p := fun ⟨j, c, hj, e, o, hm⟩ => apart j c hj e o hm
  refine ⟨ownM M H1 A, F1, p, xs1, vs, ds0, ds, d, ds1, by rw [List.append_nil], h, ⟨R1.z.le, fun a u e => ?_, fun a u e => ?_, R1.z.tp⟩, hp1, l1, f2, ?_, l, fun F2 H2 v xs2 s2 z f3 h3 l3 iv => ?_⟩
  · unfold ownM at e
    split at e
    · exact e
    · exact R1.z.mh _ _ e
  · unfold ownM
    split
    · rename_i ha
      rw [(inA ha).1] at e
      cases e
    · exact R1.z.fm a u e
  · unfold ownM
    rw [if_neg pA]
    exact m2
  · refine q F2 H2 v (s1.trans s2) ⟨⟨z.le, fun a u e => ?_, fun a u e => ?_, z.tp⟩, by rw [List.length_set]; exact R1.len, fun j d' e => ?_, fp, fun j c e o => ?_, fun j k cj ck hne e1 o1 e2 o2 => ?_⟩ iv
    · refine z.mh _ _ ?_
      unfold ownM
      split
      · rename_i ha
        rw [(inA ha).2.1] at e
        cases e
      · exact e
    · have q := z.fm a u e
      unfold ownM at q
      split at q
      · rename_i ha
        exact .inl (inA ha).2.1
      · exact q
    · by_cases hj : i = j
      · subst hj
        rw [List.getElem?_set] at e
        simp only [if_true] at e
        split at e
        · cases e
        · cases e
      · rw [List.getElem?_set_ne hj] at e
        obtain ⟨v, a, b⟩ := R1.va j d' e
        exact ⟨v, a, b.mono s2⟩
    · by_cases hj : i = j
      · subst hj
        rw [List.getElem?_set] at e
        simp only [if_true] at e
        split at e
        · cases e
          rw [hs] at hs2
          cases hs2
          refine ⟨_, hs, ⟨hA, rfl, xs2, h3, l3⟩, fun y hy => ?_⟩
          rw [hA] at hy
          rw [List.mem_singleton.mp hy]
          exact ⟨f3, m2, by rw [h3]; simp⟩
        · cases e
      · rw [List.getElem?_set_ne hj] at e
        obtain ⟨p', a, b, f⟩ := g1 j c e o
        have hh : ∀ y ∈ fp j, H2 y = H1 y ∧ F2 y = none := fun y hy => by
          have ay : A y := ⟨j, c, fun z => hj z.symm, e, o, hy⟩
          have g3 := (inA ay).2.2
          cases q : H1 y with
          | none => exact absurd q g3
          | some u =>
            have m : ownM M H1 A y = some u := by
              unfold ownM
              rw [if_pos ay]
              exact q
            refine ⟨z.mh _ _ m, ?_⟩
            cases r : F2 y with
            | none => rfl
            | some t =>
              rcases z.fm y t r with m' | ⟨x1, y1, m'⟩
              · rw [m'] at m
                cases m
              · rw [m'] at m
                cases m
                exact absurd q (b.nf y hy x1 y1)
        refine ⟨p', a, b.keep s2 fun y hy => (hh y hy).1, fun y hy => ?_⟩
        obtain ⟨k1, k2, k3⟩ := f y hy
        exact ⟨(hh y hy).2, k2, by rw [(hh y hy).1]; exact k3⟩
    · have old : ∀ {j : Nat} {c : C}, (ρ1.set i (.mr p ds1))[j]? = some c → c.own = true → ∃ c', ρ1[j]? = some c' ∧ c'.own = true := fun {j c} e o => by
        by_cases hj : i = j
        · subst hj
          exact ⟨_, h0, rfl⟩
        · rw [List.getElem?_set_ne hj] at e
          exact ⟨c, e, o⟩
      obtain ⟨c1, e1', o1'⟩ := old e1 o1
      obtain ⟨c2, e2', o2'⟩ := old e2 o2
      exact g2 j k c1 c2 hne e1' o1' e2' o2'
/-- a comprehension over one name whose block changes slots -/
theorem evN_mapS {α : Type} (l : List α) (enc : α → D) (f : Nat → D) (st : Nat → List C) (j : Nat) {y : Str} {px : Pos} (hc : X.calm = true) (hN : X.N.Nodup) (hi : Itr' X (.Name y px) iter ρ (l.map enc) (st 0)) (ok : BlkOk X.N X.env.scope scope [(y, j)]) (hl : l.length < sizeLine)
    (hj : X.N[j]? = some y) (hx : scope.names.lookup y = some .local) (hlen : (st l.length).length = (st 0).length) (hun : (st l.length)[j]? = some .un)
    (he : ∀ (i : Nat) a, l[i]? = some a → ∀ X', Blk X scope X' → Ev X' elt ((st i).set j (.va (enc a))) (f i) ((st (i + 1)).set j (.va (enc a))))
    (hs : ∀ x, foldedSetIterable iter X.env x = pure x := by intro _; rfl) : EvN X (.ListComp elt [⟨.Name y px, iter, [], 0⟩] scope pos) ρ (.ml ((List.range l.length).map f)) (st l.length) := by
  have L : LcOk X scope (.Name y px) elt [] ([(y, j)].map (·.2)) (st 0) (l.map enc) (fun i => wipeR (st i) [j]) (fun i => (List.range i).map f) :=
    { r0 := .refl _
      o0 := rfl
      small := by rw [List.length_map]; exact hl
      turn := fun i x' hx' => by
        rw [List.getElem?_map] at hx'
        cases ha : l[i]? with
        | none => rw [ha] at hx'; cases hx'
        | some a =>
          rw [ha] at hx'
          have ex : enc a = x' := Option.some.inj hx'
          subst ex
          refine ⟨(st i).set j (.va (enc a)), [j], true, (st i).set j (.va (enc a)), by simp, fun X' hX => ?_, fun X' _ => evTs_nil, fun _ => ⟨f i, (st (i + 1)).set j (.va (enc a)), he i a ha, by rw [List.range_succ, List.map_append]; rfl, ?_⟩, fun hb => by cases hb⟩
          · obtain ⟨s0, H0, C0, cl0, fp0, rfl⟩ := hX
            have t := tg_name (X := X.blk s0 H0 scope (compEnvC scope cl0 C0 X.env) fp0) (pos := px) (ρ := wipeR (st i) [j]) (d := enc a) j hN hj (.inl (lookup_relabel_local hx)) (.inr (lookup_relabel_local hx))
            simp only [wipeR, List.set_set] at t
            exact t
          · show Ge (wipeR ((st (i + 1)).set j _) [j]) (wipeR (st (i + 1)) [j])
            rw [wipe1]
            exact .refl _ }
  have h := evN_lc (ρ2 := st l.length) (pos := pos) hc hN hi ok L hlen (fun j' c e => ?_) hs
  · rw [List.length_map] at h
    exact h
  · by_cases hj' : j' = j
    · subst hj'
      rw [hun] at e
      exact .inl (Option.some.inj e).symm
    · refine .inr (.inl ⟨by simpa using hj', ?_⟩)
      rw [List.length_map]
      show (wipeR (st l.length) [j])[j']? = some c
      simp only [wipeR]
      rw [List.getElem?_set_ne fun z => hj' z.symm]
      exact e
end
end K8
set_option maxHeartbeats 2000000
/-! The law's draws: _law_taken, _law_pick, _law_order, _law_letters. -/
namespace K8
open PySem PySem.Spec PyProof.Rows L2
/-- what the law's row holds beside the script -/
structure RS where
  i : Nat
  s : Int
  t : Int
def rowQ (ns : List Int) (r : RS) : List D := [.scr ns, .int (r.i : Int), .int r.s, .int r.t]
def takF (ns : List Int) (r : RS) (m : Nat) : Nat × RS :=
  if 0 < r.t then ((r.t % m).toNat, ⟨r.i, r.s, r.t / m⟩)
  else if ns.length < r.i + 1 then (((r.s * 48271 + 11) % 2147483647 / 7 % m).toNat, ⟨r.i + 1, (r.s * 48271 + 11) % 2147483647, r.t⟩)
  else ((ns.getD r.i 0 % m).toNat, ⟨r.i + 1, (r.s * 48271 + ns.getD r.i 0 + 11) % 2147483647, if 10 ^ 18 ≤ ns.getD r.i 0 then ns.getD r.i 0 / m else r.t⟩)
theorem modN (x : Int) {m : Nat} (h : 0 < m) : x % (m : Int) = ((x % (m : Int)).toNat : Int) := (Int.toNat_of_nonneg (Int.emod_nonneg _ (by omega))).symm
theorem modL (x : Int) {m : Nat} (h : 0 < m) : (x % (m : Int)).toNat < m := by
  have h1 := Int.emod_lt_of_pos x (b := (m : Int)) (by omega)
  have h2 := Int.emod_nonneg x (b := (m : Int)) (by omega)
  omega
theorem takF_lt (ns : List Int) (r : RS) {m : Nat} (h : 0 < m) : (takF ns r m).1 < m := by
  unfold takF
  split
  · exact modL _ h
  · split
    · exact modL _ h
    · exact modL _ h
theorem divW {x : Int} {m : Nat} (h : 0 < m) (hm : m ≤ 100) : CDivW x (m : Int) := ⟨by omega, by
  rw [Int.natAbs_natCast]
  have h1 := Nat.log2_le_self m
  omega⟩
/-- the walks of the row -/
def ordGo (ns : List Int) : Nat → List Nat → List Nat → RS → List Nat × RS
  | 0, _, fd, r => (fd, r)
  | k + 1, lf, fd, r => ordGo ns k (lf.take (takF ns r lf.length).1 ++ lf.drop ((takF ns r lf.length).1 + 1)) (fd ++ [lf.getD (takF ns r lf.length).1 0]) (takF ns r lf.length).2
def ordF (ns : List Int) (r : RS) (m : Nat) : List Nat × RS := ordGo ns m (List.range m) [] r
theorem perm_out (l : List Nat) {a : Nat} (h : a < l.length) : l.Perm (l.getD a 0 :: (l.take a ++ l.drop (a + 1))) := by
  have e : l = l.take a ++ l.getD a 0 :: l.drop (a + 1) := by
    rw [List.getD_eq_getElem?_getD, List.getElem?_eq_getElem h, Option.getD_some]
    simp
  exact (List.Perm.of_eq e).trans List.perm_middle
theorem ordGo_perm (ns : List Int) : ∀ (k : Nat) (lf fd : List Nat) (r : RS), lf.length = k → (ordGo ns k lf fd r).1.Perm (fd ++ lf)
  | 0, lf, fd, r, h => by
    have : lf = [] := List.length_eq_zero_iff.mp h
    subst this
    simp [ordGo]
  | k + 1, lf, fd, r, h => by
    have ha := takF_lt ns r (m := lf.length) (by omega)
    refine (ordGo_perm ns k _ _ _ (by simp; omega)).trans ?_
    rw [List.append_assoc]
    exact List.Perm.append_left fd (perm_out lf ha).symm
theorem ordF_perm (ns : List Int) (r : RS) (m : Nat) : (ordF ns r m).1.Perm (List.range m) := by
  have := ordGo_perm ns m (List.range m) [] r (by simp)
  rw [List.nil_append] at this
  exact this
def letGo (ns : List Int) (m : Nat) : Nat → RS → RS
  | 0, r => r
  | n + 1, r => (takF ns (letGo ns m n r) m).2
def letN (ns : List Int) (m : Nat) (r : RS) (n : Nat) : List Nat := (List.range n).map fun i => (takF ns (letGo ns m i r) m).1
theorem letN_lt (ns : List Int) {m : Nat} (h : 0 < m) (r : RS) (n : Nat) : ∀ x ∈ letN ns m r n, x < m := fun x hx => by
  obtain ⟨i, _, rfl⟩ := List.mem_map.mp hx
  exact takF_lt _ _ h
theorem letN_len (ns : List Int) (m : Nat) (r : RS) (n : Nat) : (letN ns m r n).length = n := by simp [letN]
section
variable {P : Program} {w : World} {K : PySem.W.Frag} {mg : Str → Option Value} {base : Heap}
theorem rtM {d d' : D} {ρ0 : List C} {p : Addr} {ds1 : List D} (e : d' = d) (h : ρ0[0]? = some (.mr p ds1)) : ∃ ρ, ρ[0]? = some (.mr p ds1) ∧ Out.rt d' ρ0 = Out.rt d ρ := ⟨ρ0, h, by rw [e]⟩
theorem sc__law_taken : FnScope ["_law_row", "_law_many", "_law_found", "_law_cell"] ["_law_row", "_law_many"] (defScope s__law_taken) := ⟨rfl, rfl, rfl, by decide +kernel, rfl, by decide +kernel, by decide +kernel⟩
def R__law_taken (ds0 ds : List D) (d : D) (ds1 : List D) : Prop := ∃ ns r m, 0 < m ∧ m ≤ 100 ∧ ds0 = rowQ ns r ∧ ds = [nD m] ∧ d = nD (takF ns r m).1 ∧ ds1 = rowQ ns (takF ns r m).2
theorem ok__law_taken (T : Gb K mg) (A : DefAt K mg "_law_taken" s__law_taken) : DefOk P w K mg base "_law_taken" 1 ["_law_row", "_law_many"] (spM K R__law_taken) := by
  refine fn_okM A sc__law_taken (by decide) (fun _ _ _ _ _ _ us hl => match us, hl with | [_, _], _ => rfl) (fun ds0 ds d ds1 h => by obtain ⟨_, _, _, _, _, _, rfl, _⟩ := h; rfl) ?_
  intro f cdv A' outer s H E hr q ds0 ds d ds1 ⟨ns, r, m, m0, m1, e1, e2, e3, e4⟩
  subst e1 e2 e3 e4
  have hd : CDivW r.t (m : Int) := divW m0 m1
  refine runs_if (evB_cmp (ev_ixO 0 rfl (.inl rfl) ev_int rfl rfl ⟨_, rfl, by intro h; cases h⟩ rfl) ev_int cop_gt) (fun hb => ?_) (fun hb => ?_)
  · have ht : 0 < r.t := of_decide_eq_true hb
    refine runs_set 2 (ev_op (ev_intI (ev_ixO 0 rfl (.inl rfl) ev_int rfl rfl ⟨_, rfl, by intro h; cases h⟩ rfl) rfl T.int) (ev_v 1 rfl) (bop_mod (by omega))) sc__law_taken.nd rfl (.inl rfl) ?_
    refine runs_step (run_setIx (c0 := .un) 0 rfl (.inl rfl) (ev_op (ev_ixO 0 rfl (.inl rfl) ev_int rfl rfl ⟨_, rfl, by intro h; cases h⟩ rfl) (ev_v 1 rfl) (bop_div hd)) ev_int rfl (by intro h; cases h) rfl rfl rfl) ?_
    refine runs_ret (ev_v 2 rfl) (rtM ?_ ?_)
    · unfold takF
      rw [if_pos ht]
      exact congrArg D.int (modN _ m0)
    · unfold takF
      rw [if_pos ht]
      rfl
  · have ht : ¬ 0 < r.t := of_decide_eq_false hb
    refine runs_nil ?_
    refine runs_step (run_setIx (c0 := .un) 0 rfl (.inl rfl) (ev_op (ev_ixO 0 rfl (.inl rfl) ev_int rfl rfl ⟨_, rfl, by intro h; cases h⟩ rfl) ev_int bop_add) ev_int rfl (by intro h; cases h) rfl rfl rfl) ?_
    refine runs_if (evB_cmp (ev_ixO 0 rfl (.inl rfl) ev_int rfl rfl ⟨_, rfl, by intro h; cases h⟩ rfl) (ev_len (n := ns.length) (ev_ixO 0 rfl (.inl rfl) ev_int rfl rfl ⟨_, rfl, by intro h; cases h⟩ rfl) rfl rfl T.len) cop_gt) (fun hb => ?_) (fun hb => ?_)
    · have hi : ns.length < r.i + 1 := by
        have := of_decide_eq_true hb
        omega
      refine runs_step (run_setIx (c0 := .un) 0 rfl (.inl rfl) (ev_op (ev_intI (ev_op (ev_op (ev_ixO 0 rfl (.inl rfl) ev_int rfl rfl ⟨_, rfl, by intro h; cases h⟩ rfl) ev_int (bop_mulS (by unfold CMul; omega))) ev_int bop_add) rfl T.int) ev_int (bop_mod (by omega))) ev_int rfl (by intro h; cases h) rfl rfl rfl) ?_
      refine runs_ret (ev_op (ev_intI (ev_op (ev_ixO 0 rfl (.inl rfl) ev_int rfl rfl ⟨_, rfl, by intro h; cases h⟩ rfl) ev_int (bop_div (by exact divW (m := 7) (by omega) (by omega)))) rfl T.int) (ev_v 1 rfl) (bop_mod (by omega))) (rtM ?_ ?_)
      · unfold takF
        rw [if_neg ht, if_pos hi]
        exact congrArg D.int (modN _ m0)
      · unfold takF
        rw [if_neg ht, if_pos hi]
        rfl
    · have hi : ¬ ns.length < r.i + 1 := by
        have := of_decide_eq_false hb
        omega
      refine runs_nil ?_
      refine runs_set 3 (ev_ix (ev_ixO 0 rfl (.inl rfl) ev_int rfl rfl ⟨_, rfl, by intro h; cases h⟩ rfl) (ev_eq (d' := nD r.i) (ev_op (ev_ixO 0 rfl (.inl rfl) ev_int rfl rfl ⟨_, rfl, by intro h; cases h⟩ rfl) ev_int bop_sub) (by show D.int _ = D.int _; congr 1; omega)) (iop_scr (n := ns.getD r.i 0) ?_)) sc__law_taken.nd rfl (.inl rfl) ?_
      · refine atI_nat ?_
        rw [List.getD_eq_getElem?_getD, List.getElem?_eq_getElem (by omega)]
        rfl
      generalize hc : ns.getD r.i 0 = c
      refine runs_step (run_setIx (c0 := .un) 0 rfl (.inl rfl) (ev_op (ev_intI (ev_op (ev_op (ev_op (ev_ixO 0 rfl (.inl rfl) ev_int rfl rfl ⟨_, rfl, by intro h; cases h⟩ rfl) ev_int (bop_mulS (by unfold CMul; omega))) (ev_v 3 rfl) bop_add) ev_int bop_add) rfl T.int) ev_int (bop_mod (by omega))) ev_int rfl (by intro h; cases h) rfl rfl rfl) ?_
      refine runs_step (ρ1 := [.mr q (rowQ ns (takF ns r m).2), .va (nD m), .un, .va (.int c)]) (run_if (evB_cmp (ev_v 3 rfl) (ev_op ev_int ev_int (bop_pow ⟨by omega, by omega, by decide⟩)) cop_ge) (fun hb => ?_) (fun hb => ?_)) ?_
      · have h10 : (10 : Int) ^ 18 ≤ c := of_decide_eq_true hb
        refine runs_step (run_setIx (c0 := .un) 0 rfl (.inl rfl) (ev_op (ev_v 3 rfl) (ev_v 1 rfl) (bop_div (divW m0 m1))) ev_int rfl (by intro h; cases h) rfl rfl rfl) ?_
        refine runs_nil ?_
        unfold takF
        rw [if_neg ht, if_neg hi, hc, if_pos h10]
        rfl
      · have h10 : ¬ (10 : Int) ^ 18 ≤ c := of_decide_eq_false hb
        refine runs_nil ?_
        unfold takF
        rw [if_neg ht, if_neg hi, hc, if_neg h10]
        rfl
      refine runs_ret (ev_op (ev_intI (ev_v 3 rfl) rfl T.int) (ev_v 1 rfl) (bop_mod (by omega))) (rtM ?_ rfl)
      unfold takF
      rw [if_neg ht, if_neg hi, hc]
      exact congrArg D.int (modN _ m0)
theorem sc__law_pick : FnScope ["_law_row", "_law_things"] ["_law_row", "_law_things"] (defScope s__law_pick) := ⟨rfl, rfl, rfl, by decide +kernel, rfl, by decide +kernel, by decide +kernel⟩
def R__law_pick (ds0 ds : List D) (d : D) (ds1 : List D) : Prop := ∃ ns r l, 0 < l.length ∧ l.length ≤ 100 ∧ ds0 = rowQ ns r ∧ ds = [.lst l] ∧ d = l.getD (takF ns r l.length).1 .non ∧ ds1 = rowQ ns (takF ns r l.length).2
theorem ok__law_pick (T : Gb K mg) (A : DefAt K mg "_law_pick" s__law_pick) (G__law_taken : DefOk P w K mg base "_law_taken" 1 ["_law_row", "_law_many"] (spM K R__law_taken)) : DefOk P w K mg base "_law_pick" 2 ["_law_row", "_law_things"] (spM K R__law_pick) := by
  refine fn_okM A sc__law_pick (by decide) (fun _ _ _ _ _ _ us hl => match us, hl with | [_, _], _ => rfl) (fun ds0 ds d ds1 h => by obtain ⟨_, _, _, _, _, _, rfl, _⟩ := h; rfl) ?_
  intro f cdv A' outer s H E hr q ds0 ds d ds1 ⟨ns, r, l, m0, m1, e1, e2, e3, e4⟩
  subst e1 e2 e3 e4
  refine runs_ret (ev_ix (ev_v 1 rfl) (ev_callM (i := 0) (r := q) (d := nD (takF ns r l.length).1) G__law_taken (hr.mono (by decide)) rfl rfl (.inl rfl) (evA_cons (ev_len (n := l.length) (ev_v 1 rfl) rfl rfl T.len) evA_nil) rfl ⟨ns, r, l.length, m0, m1, rfl, rfl, rfl, rfl⟩) (iop_lst (d := l.getD (takF ns r l.length).1 .non) ?_)) (rtM rfl rfl)
  refine atI_nat ?_
  have := takF_lt ns r m0
  rw [List.getD_eq_getElem?_getD, List.getElem?_eq_getElem this]
  rfl
theorem sc__law_order : FnScope ["_law_row", "_law_many", "_law_left", "_law_found", "_law_turn", "_law_at"] ["_law_row", "_law_many"] (defScope s__law_order) := ⟨rfl, rfl, rfl, by decide +kernel, rfl, by decide +kernel, by decide +kernel⟩
def R__law_order (ds0 ds : List D) (d : D) (ds1 : List D) : Prop := ∃ ns r m, m ≤ 100 ∧ ds0 = rowQ ns r ∧ ds = [nD m] ∧ d = nsD (ordF ns r m).1 ∧ ds1 = rowQ ns (ordF ns r m).2
theorem ok__law_order (T : Gb K mg) (A : DefAt K mg "_law_order" s__law_order) (G__law_taken : DefOk P w K mg base "_law_taken" 1 ["_law_row", "_law_many"] (spM K R__law_taken)) : DefOk P w K mg base "_law_order" 2 ["_law_row", "_law_many"] (spM K R__law_order) := by
  refine fn_okM A sc__law_order (by decide) (fun _ _ _ _ _ _ us hl => match us, hl with | [_, _], _ => rfl) (fun ds0 ds d ds1 h => by obtain ⟨_, _, _, _, _, rfl, _⟩ := h; rfl) ?_
  intro f cdv A' outer s H E hr q ds0 ds d ds1 ⟨ns, r, m, m1, e1, e2, e3, e4⟩
  subst e1 e2 e3 e4
  refine runs_step (run_parC 2 3 (evP_cons (d := nsD (List.range m)) (ev_of_new (evN_listRg (ev_v 1 rfl) (by omega) rfl rfl T.list rfl T.range)) (evP_consN (evN_lst evA_nil) evP_nil)) rfl sc__law_order.nd rfl rfl (by decide) rfl rfl (.inr ⟨_, rfl⟩) (.inl rfl) (Nat.le_of_ble_eq_true rfl) rfl) ?_
  refine runs_for (List.range m) nD (fun pre ρ => ∃ lf fd r' c4 c5, pre.length + lf.length = m ∧ fd.length = pre.length ∧ ordGo ns lf.length lf fd r' = ordF ns r m ∧ ρ = [.mr q (rowQ ns r'), .va (nD m), .va (nsD lf), .ml (fd.map nD), c4, c5]) .never rfl (itr_range1 (ev_v 1 rfl) (by omega) rfl T.range) ?_ ?_ ?_
  · exact ⟨List.range m, [], r, .un, .un, by simp, rfl, by simp [ordF], rfl⟩
  · rintro pre a post ρ' hl ⟨lf, fd, r', c4, c5, h1, h2, h3, rfl⟩
    have hlen : m = pre.length + (post.length + 1) := by
      have := congrArg List.length hl
      simpa using this
    have hat := takF_lt ns r' (m := lf.length) (by omega)
    refine ⟨_, _, (tg_name 4 sc__law_order.nd rfl (.inl rfl)), ?_⟩
    refine runs_set 5 (ev_callM (i := 0) (r := q) (d := nD (takF ns r' lf.length).1) G__law_taken (hr.mono (by decide)) rfl rfl (.inl rfl) (evA_cons (ev_len (n := lf.length) (ev_v (d := nsD lf) 2 rfl) (by simp [LenD, nsD]) rfl T.len) evA_nil) rfl ⟨ns, r', lf.length, by omega, by omega, rfl, rfl, rfl, rfl⟩) sc__law_order.nd rfl (.inl rfl) ?_
    refine runs_step (run_app 3 rfl (.inl rfl) (ev_ix (ev_v (d := nsD lf) 2 rfl) (ev_v (d := nD (takF ns r' lf.length).1) 5 rfl) (iop_lst (at_map (d0 := 0) hat))) rfl (by intro h; cases h) rfl rfl (by rw [List.length_map]; show _ < sizeLine; unfold sizeLine; omega)) ?_
    refine runs_set 2 (ev_eq (d' := nsD (lf.take (takF ns r' lf.length).1 ++ lf.drop ((takF ns r' lf.length).1 + 1))) (ev_op (ev_sliceL (ev_v (d := nsD lf) 2 rfl) evO_none (evO_some (ev_v (d := nD (takF ns r' lf.length).1) 5 rfl))) (ev_sliceL (ev_v (d := nsD lf) 2 rfl) (evO_some (ev_eq (d' := nD ((takF ns r' lf.length).1 + 1)) (ev_op (ev_v (d := nD (takF ns r' lf.length).1) 5 rfl) ev_int bop_add) rfl)) evO_none) (bop_cat ?_)) ?_) sc__law_order.nd rfl (.inl rfl) ?_
    · rw [cut_to, cut_from, List.length_take, List.length_drop, List.length_map]
      show _ ≤ sizeLine
      unfold sizeLine
      omega
    · rw [cut_to, cut_from]
      simp [nsD]
    · refine runs_nil ⟨lf.take (takF ns r' lf.length).1 ++ lf.drop ((takF ns r' lf.length).1 + 1), fd ++ [lf.getD (takF ns r' lf.length).1 0], (takF ns r' lf.length).2, .va (nD a), .va (nD (takF ns r' lf.length).1), ?_, by simp [h2], ?_, ?_⟩
      · rw [List.length_append, List.length_append, List.length_take, List.length_drop, List.length_singleton]
        omega
      · obtain ⟨k, hk⟩ : ∃ k, lf.length = k + 1 := ⟨lf.length - 1, by omega⟩
        have e : (lf.take (takF ns r' lf.length).1 ++ lf.drop ((takF ns r' lf.length).1 + 1)).length = k := by
          rw [List.length_append, List.length_take, List.length_drop]
          omega
        rw [e, ← h3]
        conv => rhs; rw [hk]
        rfl
      · rw [List.map_append]
        rfl
  · rintro ρ' ⟨lf, fd, r', c4, c5, h1, h2, h3, rfl⟩
    have : lf = [] := List.length_eq_zero_iff.mp (by rw [List.length_range] at h1; omega)
    subst this
    have h4 : (fd, r') = ordF ns r m := h3
    rw [← h4]
    refine runs_ret (ev_vF 3 rfl) (rtM rfl rfl)
theorem sc__law_letters : FnScope ["_law_row", "_law_many", "_law_long", "_law_k"] ["_law_row", "_law_many", "_law_long"] (defScope s__law_letters) := ⟨rfl, rfl, rfl, by decide +kernel, rfl, by decide +kernel, by decide +kernel⟩
def R__law_letters (ds0 ds : List D) (d : D) (ds1 : List D) : Prop := ∃ ns r m n, 0 < m ∧ m ≤ 100 ∧ n ≤ 1000 ∧ ds0 = rowQ ns r ∧ ds = [nD m, nD n] ∧ d = wd (letN ns m r n) ∧ ds1 = rowQ ns (letGo ns m n r)
theorem ok__law_letters (T : Gb K mg) (A : DefAt K mg "_law_letters" s__law_letters) (G__law_taken : DefOk P w K mg base "_law_taken" 1 ["_law_row", "_law_many"] (spM K R__law_taken)) : DefOk P w K mg base "_law_letters" 2 ["_law_row", "_law_many", "_law_long"] (spM K R__law_letters) := by
  refine fn_okM A sc__law_letters (by decide) (fun _ _ _ _ _ _ us hl => match us, hl with | [_, _, _], _ => rfl) (fun ds0 ds d ds1 h => by obtain ⟨_, _, _, _, _, _, _, _, rfl, _⟩ := h; rfl) ?_
  intro f cdv A' outer s H E hr q ds0 ds d ds1 ⟨ns, r, m, n, m0, m1, n1, e1, e2, e3, e4⟩
  subst e1 e2 e3 e4
  refine runs_ret (ev_eq (d' := wd (letN ns m r n)) (ev_tupleL (ev_of_new (evN_mapS (List.range n) nD (fun i => nD (takF ns (letGo ns m i r) m).1) (fun i => [.mr q (rowQ ns (letGo ns m i r)), .va (nD m), .va (nD n), .un]) 3 rfl sc__law_letters.nd (itr_range1 (ev_v 2 rfl) (by omega) rfl T.range) (blkOk_by rfl) (by rw [List.length_range]; show _ < sizeLine; unfold sizeLine; omega) rfl rfl rfl rfl (fun i a ha X' hX => by
    obtain ⟨_, _, _, _, _, rfl⟩ := hX
    exact (ev_callM (i := 0) (r := q) G__law_taken (hr.mono (by decide)) rfl rfl (.inr (.inl rfl)) (evA_cons (ev_v 1 rfl) evA_nil) rfl ⟨ns, letGo ns m i r, m, m0, m1, rfl, rfl, rfl, rfl⟩)))) rfl T.tuple) ?_) (rtM rfl ?_)
  · rw [List.length_range]
    unfold letN wd
    rw [List.map_map]
    rfl
  · rw [List.length_range]
    rfl
end
end K8
/-! The law's calm books: _law_calm. -/
namespace K8
open PySem PySem.Spec PyProof.Rows L2
/-! ### what makes a drawn book fit -/
theorem asc_sort {rs : List Rule} (nd : rs.Nodup) : (sortBy ruD rs).Pairwise fun r s => dlt (ruD r) (ruD s) = true := by
  have h1 := sortBy_pw ruD rs
  have h2 : (sortBy ruD rs).Nodup := (sortBy_perm ruD rs).nodup_iff.mpr nd
  refine (List.Pairwise.and h1 h2).imp fun {a b} ⟨x, y⟩ => ?_
  cases z : dlt (ruD a) (ruD b) with
  | true => rfl
  | false =>
    have x2 : dle (ruD b) (ruD a) = true := by rw [dle_dlt, z]; rfl
    exact absurd (ruD_inj (dle_anti okn_ruD okn_ruD (alike_ruD a b) x x2)) y
structure Fit (m : Nat) (rs : List Rule) : Prop where
  m2 : 2 ≤ m
  m3 : m ≤ 3
  nd : rs.Nodup
  few : rs.length ≤ 12
  tot : (rs.map fun r => r.1.length).sum ≤ 12
  ru : ∀ r ∈ rs, Ru m r
  sm : ∀ r ∈ rs, m ^ (2 * r.1.length - 1) ≤ 32
def bkR (m : Nat) (rs : List Rule) : Bk := ⟨m, sortBy ruD rs⟩
theorem Fit.bkS {m : Nat} {rs : List Rule} (f : Fit m rs) : BkS (bkR m rs) where
  m2 := f.m2
  m3 := f.m3
  few := by
    show (sortBy ruD rs).length ≤ 12
    rw [(sortBy_perm ruD rs).length_eq]
    exact f.few
  tot := by
    show ((sortBy ruD rs).map fun r => r.1.length).sum ≤ 12
    rw [((sortBy_perm ruD rs).map _).sum_nat]
    exact f.tot
  ru := fun r hr => f.ru r ((sortBy_perm ruD rs).mem_iff.mp hr)
  asc := asc_sort f.nd
  sm := by
    show m ^ (2 * longF (bkR m rs) - 1) ≤ 32
    rcases (foldl_max (sortBy ruD rs) 0).2.2 with h | ⟨r, hr, h⟩
    · have e : longF (bkR m rs) = 0 := h
      rw [e, show 2 * 0 - 1 = 0 from rfl, Nat.pow_zero]
      decide
    · have e : longF (bkR m rs) = r.1.length := h
      rw [e]
      exact f.sm r ((sortBy_perm ruD rs).mem_iff.mp hr)
/-- the same by computing -/
def ruB (m : Nat) (r : Rule) : Bool := decide (r.2.length = r.1.length) && decide (1 ≤ r.1.length) && decide (r.1.length ≤ 3) && r.1.all (fun x => decide (x < m)) && r.2.all (fun x => decide (x < m)) && decide (r.1 ≠ r.2) && decide (m ^ (2 * r.1.length - 1) ≤ 32)
def fitB (m : Nat) (rs : List Rule) : Bool := decide rs.Nodup && decide (rs.length ≤ 12) && decide ((rs.map fun r => r.1.length).sum ≤ 12) && rs.all (ruB m)
theorem fit_by {m : Nat} {rs : List Rule} (m2 : 2 ≤ m) (m3 : m ≤ 3) (h : fitB m rs = true) : Fit m rs := by
  unfold fitB at h
  simp only [Bool.and_eq_true, decide_eq_true_eq, List.all_eq_true] at h
  obtain ⟨⟨⟨h1, h2⟩, h3⟩, h4⟩ := h
  have h5 : ∀ r ∈ rs, Ru m r ∧ m ^ (2 * r.1.length - 1) ≤ 32 := fun r hr => by
    have := h4 r hr
    unfold ruB at this
    simp only [Bool.and_eq_true, decide_eq_true_eq, List.all_eq_true] at this
    obtain ⟨⟨⟨⟨⟨⟨a, b⟩, c⟩, d⟩, e⟩, f⟩, g⟩ := this
    exact ⟨⟨a, b, c, d, e, f⟩, g⟩
  exact ⟨m2, m3, h1, h2, h3, fun r hr => (h5 r hr).1, fun r hr => (h5 r hr).2⟩
/-! ### the calm books' rules -/
def calmT (o : List Nat) (a b : Nat) : Nat := if o.getD b 0 < o.getD a 0 then a else b
def calmX0 (way : Nat) (o : List Nat) (a b : Nat) : List Rule := if way = 0 ∧ a ≠ b then [([a, b], [calmT o a b, calmT o a b])] else []
def calmX1 (way : Nat) (o : List Nat) (a b : Nat) : List Rule := if way = 1 ∧ o.getD b 0 < o.getD a 0 then [([a, b], [b, a])] else []
def calmX2 (way : Nat) (o : List Nat) (a b : Nat) : List Rule := if way = 2 ∧ a = b ∧ 0 < o.getD a 0 then [([a], [o.idxOf 0])] else []
def calmX3 (way : Nat) (o : List Nat) (a b : Nat) : List Rule := if way = 3 ∧ a = b ∧ 0 < o.getD a 0 then [([a, a], [o.idxOf 0, a])] else []
def calmX (way : Nat) (o : List Nat) (a b : Nat) : List Rule := calmX0 way o a b ++ calmX1 way o a b ++ calmX2 way o a b ++ calmX3 way o a b
def calm0 (m way : Nat) (o : List Nat) : List Rule := if way = 4 ∧ 2 < m then [([o.getD 2 0], [o.getD 0 0]), ([o.getD 1 0, o.getD 0 0], [o.getD 0 0, o.getD 1 0])] else []
def calmR (m way : Nat) (o : List Nat) : List Rule := calm0 m way o ++ (List.range m).flatMap fun a => (List.range m).flatMap fun b => calmX way o a b
theorem len_flat {α β : Type} {f : α → List β} {k : Nat} (h : ∀ a, (f a).length ≤ k) : ∀ l : List α, (l.flatMap f).length ≤ k * l.length
  | [] => Nat.zero_le _
  | a :: l => by
    rw [List.flatMap_cons, List.length_append, List.length_cons, Nat.mul_add, Nat.mul_one]
    have := h a
    have := len_flat h l
    omega
theorem calmX_len (way : Nat) (o : List Nat) (a b : Nat) : (calmX way o a b).length ≤ 4 := by
  unfold calmX calmX0 calmX1 calmX2 calmX3
  split <;> split <;> split <;> split <;> simp
def tups (m : Nat) : Nat → List (List Nat)
  | 0 => [[]]
  | n + 1 => (List.range m).flatMap fun a => (tups m n).map fun l => a :: l
theorem mem_tups {m : Nat} : ∀ {n : Nat} {l : List Nat}, l.length = n → (∀ x ∈ l, x < m) → l ∈ tups m n
  | 0, l, h, _ => by
    rw [List.length_eq_zero_iff.mp h]
    exact List.mem_singleton.mpr rfl
  | n + 1, [], h, _ => by cases h
  | n + 1, a :: l, h, hl => by
    unfold tups
    rw [List.mem_flatMap]
    exact ⟨a, List.mem_range.mpr (hl a List.mem_cons_self), List.mem_map.mpr ⟨l, mem_tups (by simpa using h) fun x hx => hl x (List.mem_cons_of_mem _ hx), rfl⟩⟩
theorem calm_all : ∀ m ∈ [2, 3], ∀ way ∈ List.range 5, ∀ o ∈ tups m m, o.Nodup → fitB m (calmR m way o) = true := by decide +kernel
theorem perm_tups {m : Nat} {o : List Nat} (h : o.Perm (List.range m)) : o ∈ tups m m ∧ o.Nodup :=
  ⟨mem_tups (by rw [h.length_eq, List.length_range]) fun x hx => List.mem_range.mp (h.mem_iff.mp hx), h.nodup_iff.mpr List.nodup_range⟩
theorem calm_fit {m way : Nat} {o : List Nat} (m2 : 2 ≤ m) (m3 : m ≤ 3) (hw : way < 5) (h : o.Perm (List.range m)) : Fit m (calmR m way o) := by
  have := perm_tups h
  refine fit_by m2 m3 (calm_all m ?_ way (List.mem_range.mpr hw) o this.1 this.2)
  have : m = 2 ∨ m = 3 := by omega
  rcases this with rfl | rfl <;> simp
def calmF (ns : List Int) (r : RS) : Bk × RS :=
  (bkR (2 + (takF ns r 2).1) (calmR (2 + (takF ns r 2).1) (takF ns (takF ns r 2).2 5).1 (ordF ns (takF ns (takF ns r 2).2 5).2 (2 + (takF ns r 2).1)).1), (ordF ns (takF ns (takF ns r 2).2 5).2 (2 + (takF ns r 2).1)).2)
theorem calmF_ok (ns : List Int) (r : RS) : BkS (calmF ns r).1 := by
  have h1 := takF_lt ns r (m := 2) (by omega)
  have h2 := takF_lt ns (takF ns r 2).2 (m := 5) (by omega)
  exact (calm_fit (by omega) (by omega) h2 (ordF_perm ns _ _)).bkS
section
variable {X : Cx} {o e : Expr} {apos cpos : Pos} {ρ ρ1 ρ2 : List C}
theorem nsD_ints (ns : List Nat) : ns.map nD = (ns.map fun (n : Nat) => (n : Int)).map D.int := by
  rw [List.map_map]
  rfl
/-- xs.index(v) -/
theorem ev_index {ns : List Nat} {v j : Nat} (h : Ev X o ρ (nsD ns) ρ1) (ha : Ev X e ρ1 (nD v) ρ2) (hj : ns[j]? = some v) (hno : ∀ (i : Nat) z, i < j → ns[i]? = some z → z ≠ v)
    (hbase : attributeBase o "index" X.env (eval o X.env) = eval o X.env := by rfl)
    (hfew : ((backTo cpos (starEach [e] X.env)).all (fun x => !x.1) && (backToKw cpos (keywordEach [] X.env)).all (fun x => x.1.isSome) && decide ([e].length + ([] : List Keyword).length + (if ([] : List Keyword).isEmpty then 0 else 1) < 30)) = true := by rfl)
    (hline : (apos.endLine == cpos.line) = true := by rfl) (hs : starEach [e] X.env = (false, eval e X.env) :: starEach [] X.env := by rfl) (hplain : (backTo cpos (starEach [] X.env)).any (·.1) = false := by rfl) : Ev X (.Call (.Attribute o "index" apos) [e] [] cpos) ρ (nD j) ρ2 :=
  pe_imp (pe_bm PySem.F.plainAttrs_list PySem.F.slot_list_index PySem.F.type_list_index mt_index h (evA_cons ha evA_nil hs) hbase hfew hline hs hplain) fun σ H Q ⟨M, F, R, q⟩ => ⟨M, F, R, fun F1 H1 x s1 R1 i1 => by
    cases i1 with
    | @lst a vs _ h1 l1 =>
      rw [nsD_ints] at l1
      have ev := IsL.ints l1
      subst ev
      refine ⟨.inl ⟨rfl, _, .inl (.inl (R1.z.le.lst h1))⟩, M, F1, R1, fun F2 H2 us s2 R2 l2 => ?_⟩
      cases l2 with
      | cons i2 l3 =>
        cases l3
        cases i2
        refine ⟨a, _, .int (v : Int), j, .int (v : Int), rfl, rfl, .inl (.inl (R2.z.le.lst (s2 _ _ h1))), rfl, ?_, ?_, ?_, fun i z hi hz => ?_, q F2 H2 _ (s1.trans s2) R2 (.int _)⟩
        · rw [List.all_eq_true]
          intro x hx
          obtain ⟨_, _, rfl⟩ := List.mem_map.mp hx
          rfl
        · rw [List.getElem?_map, List.getElem?_map, hj]
          rfl
        · simp [eqV]
        · rw [List.getElem?_map, List.getElem?_map] at hz
          cases hn : ns[i]? with
          | none => rw [hn] at hz; cases hz
          | some n =>
            rw [hn] at hz
            cases hz
            have := hno i n hi hn
            simp [eqV]
            omega⟩
end
theorem idx_at {o : List Nat} {v : Nat} (h : v ∈ o) : o[o.idxOf v]? = some v := by
  rw [List.getElem?_eq_getElem (List.idxOf_lt_length_of_mem h), List.getElem_idxOf]
theorem idx_no {o : List Nat} {v : Nat} : ∀ (i : Nat) z, i < o.idxOf v → o[i]? = some z → z ≠ v := by
  intro i z hi hz e
  subst e
  obtain ⟨hlt, e⟩ := List.getElem?_eq_some_iff.mp hz
  have := List.not_of_lt_findIdx hi
  simp [e] at this
section
variable {P : Program} {w : World} {K : PySem.W.Frag} {mg : Str → Option Value} {base : Heap}
theorem sc__law_calm : FnScope ["_law_row", "_law_most", "_law_many", "_law_way", "_law_rules", "_law_order_here", "_law_a", "_law_b", "_law_top"] ["_law_row", "_law_most"] (defScope s__law_calm) := ⟨rfl, rfl, rfl, by decide +kernel, rfl, by decide +kernel, by decide +kernel⟩
def R__law_calm (ds0 ds : List D) (d : D) (ds1 : List D) : Prop := ∃ ns r, ds0 = rowQ ns r ∧ ds = [.int 3] ∧ d = bkD (calmF ns r).1 ∧ ds1 = rowQ ns (calmF ns r).2
theorem dec_nat {a b : Nat} : decide ((a : Int) < (b : Int)) = decide (a < b) := by
  by_cases h : a < b
  · rw [decide_eq_true h, decide_eq_true (by omega)]
  · rw [decide_eq_false h, decide_eq_false (by omega)]
theorem map_app1 (rs : List Rule) (r : Rule) : rs.map ruD ++ [ruD r] = (rs ++ [r]).map ruD := by simp
theorem evB_eq {X : Cx} {a : Expr} {ρ ρ1 : List C} {k k' : Bool} (h : EvB X a ρ k ρ1) (e : k = k') : EvB X a ρ k' ρ1 := e ▸ h
theorem evW_eq {X : Cx} {a : Expr} {ρ ρ1 : List C} {k k' : Bool} (h : EvW X a ρ k ρ1) (e : k = k') : EvW X a ρ k' ρ1 := e ▸ h
theorem dec_natE {a b : Nat} : decide ((a : Int) = (b : Int)) = decide (a = b) := by
  by_cases h : a = b
  · rw [decide_eq_true h, decide_eq_true (by omega)]
  · rw [decide_eq_false h, decide_eq_false (by omega)]
theorem ok__law_calm (T : Gb K mg) (A : DefAt K mg "_law_calm" s__law_calm) (G__law_taken : DefOk P w K mg base "_law_taken" 1 ["_law_row", "_law_many"] (spM K R__law_taken)) (G__law_order : DefOk P w K mg base "_law_order" 2 ["_law_row", "_law_many"] (spM K R__law_order)) : DefOk P w K mg base "_law_calm" 3 ["_law_row", "_law_most"] (spM K R__law_calm) := by
  refine fn_okM A sc__law_calm (by decide) (fun _ _ _ _ _ _ us hl => match us, hl with | [_, _], _ => rfl) (fun ds0 ds d ds1 h => by obtain ⟨_, _, _, rfl, _⟩ := h; rfl) ?_
  intro f cdv A' outer s H E hr q ds0 ds d ds1 ⟨ns, r, e1, e2, e3, e4⟩
  subst e1 e2 e3 e4
  have h1 := takF_lt ns r (m := 2) (by omega)
  have h2 := takF_lt ns (takF ns r 2).2 (m := 5) (by omega)
  unfold calmF
  generalize hr1 : (takF ns r 2).2 = r1
  generalize hm : 2 + (takF ns r 2).1 = m
  rw [hr1] at h2
  generalize hr2 : (takF ns r1 5).2 = r2
  generalize hw : (takF ns r1 5).1 = way
  rw [hw] at h2
  have hpm := ordF_perm ns r2 m
  generalize hr3 : (ordF ns r2 m).2 = r3
  generalize ho : (ordF ns r2 m).1 = o
  rw [ho] at hpm
  have ol : o.length = m := by rw [hpm.length_eq, List.length_range]
  have z0 : 0 ∈ o := hpm.mem_iff.mpr (List.mem_range.mpr (by omega))
  refine runs_step (run_parC3 2 3 4 (evP_cons (d := nD m) (ev_eq (ev_op ev_int (ev_callM (i := 0) (r := q) (d := nD (takF ns r 2).1) G__law_taken (hr.mono (by decide)) rfl rfl (.inl rfl) (evA_cons (ev_op (ev_v 1 rfl) ev_int bop_sub) evA_nil) rfl ⟨ns, r, 2, by omega, by omega, rfl, rfl, rfl, rfl⟩) bop_add) (by rw [← hm]; rfl)) (evP_cons (d := nD way) (ev_callM (i := 0) (r := q) G__law_taken (hr.mono (by decide)) rfl rfl (.inl rfl) (evA_cons ev_int evA_nil) rfl ⟨ns, r1, 5, by omega, by omega, by rw [← hr1], rfl, by rw [← hw], rfl⟩) (evP_consN (evN_lst evA_nil) evP_nil))) rfl sc__law_calm.nd rfl rfl rfl (by decide) (by decide) (by decide) rfl rfl rfl (.inr ⟨_, rfl⟩) (.inr ⟨_, rfl⟩) (.inl rfl) (Nat.le_of_ble_eq_true rfl) (Nat.le_of_ble_eq_true rfl) rfl) ?_
  rw [hr2]
  refine runs_set 5 (ev_callM (i := 0) (r := q) (d := nsD o) G__law_order (hr.mono (by decide)) rfl rfl (.inl rfl) (evA_cons (ev_v (d := nD m) 2 rfl) evA_nil) rfl ⟨ns, r2, m, by omega, rfl, rfl, by rw [← ho], rfl⟩) sc__law_calm.nd rfl (.inl rfl) ?_
  rw [hr3]
  refine runs_step (ρ1 := [.mr q (rowQ ns r3), .va (.int 3), .va (nD m), .va (nD way), .ml ((calm0 m way o).map ruD), .va (nsD o), .un, .un, .un]) (run_if (PW.pt (evW_and (evB_cmp (ev_v (d := nD way) 3 rfl) ev_int cop_eqI) fun h => (evW_and1 (evB_cmp (ev_v (d := nD m) 2 rfl) ev_int cop_gt)))) (fun hb => ?_) (fun hb => ?_)) ?_
  · simp only [Bool.and_eq_true, decide_eq_true_eq] at hb
    obtain ⟨b1, b2⟩ := hb
    have at0 : Iop (Bx P w K mg base ["_law_row", "_law_most", "_law_many", "_law_way", "_law_rules", "_law_order_here", "_law_a", "_law_b", "_law_top"] "_law_calm" (defScope s__law_calm) f cdv A' outer s H E) (nsD o) (.int 0) (nD (o.getD 0 0)) := iop_lst (at_map (i := 0) (by omega))
    have at1 : Iop (Bx P w K mg base ["_law_row", "_law_most", "_law_many", "_law_way", "_law_rules", "_law_order_here", "_law_a", "_law_b", "_law_top"] "_law_calm" (defScope s__law_calm) f cdv A' outer s H E) (nsD o) (.int 1) (nD (o.getD 1 0)) := iop_lst (at_map (i := 1) (by omega))
    have at2 : Iop (Bx P w K mg base ["_law_row", "_law_most", "_law_many", "_law_way", "_law_rules", "_law_order_here", "_law_a", "_law_b", "_law_top"] "_law_calm" (defScope s__law_calm) f cdv A' outer s H E) (nsD o) (.int 2) (nD (o.getD 2 0)) := iop_lst (at_map (i := 2) (by omega))
    refine runs_setN 4 (evN_lst (evA_cons (ev_tup (evA_cons (ev_tup (evA_cons (ev_ix (ev_v (d := nsD o) 5 rfl) ev_int at2) evA_nil)) (evA_cons (ev_tup (evA_cons (ev_ix (ev_v (d := nsD o) 5 rfl) ev_int at0) evA_nil)) evA_nil))) (evA_cons (ev_tup (evA_cons (ev_tup (evA_cons (ev_ix (ev_v (d := nsD o) 5 rfl) ev_int at1) (evA_cons (ev_ix (ev_v (d := nsD o) 5 rfl) ev_int at0) evA_nil))) (evA_cons (ev_tup (evA_cons (ev_ix (ev_v (d := nsD o) 5 rfl) ev_int at0) (evA_cons (ev_ix (ev_v (d := nsD o) 5 rfl) ev_int at1) evA_nil))) evA_nil))) evA_nil))) rfl sc__law_calm.nd rfl (.inl rfl) ?_
    refine runs_nil ?_
    unfold calm0
    rw [if_pos ⟨by omega, by omega⟩]
    rfl
  · refine runs_nil ?_
    have hn : ¬(way = 4 ∧ 2 < m) := fun ⟨a, b⟩ => by
      have hb' : (decide ((way : Int) = 4) && decide ((2 : Int) < (m : Int))) = false := hb
      rw [decide_eq_true (by omega), decide_eq_true (by omega)] at hb'
      cases hb'
    unfold calm0
    rw [if_neg hn]
    rfl
  refine runs_for (List.range m) nD (fun pre ρ => ∃ c6 c7 c8, ρ = [.mr q (rowQ ns r3), .va (.int 3), .va (nD m), .va (nD way), .ml ((calm0 m way o ++ pre.flatMap fun a => (List.range m).flatMap fun b => calmX way o a b).map ruD), .va (nsD o), c6, c7, c8]) .never rfl (itr_range1 (ev_v (d := nD m) 2 rfl) (by omega) rfl T.range) ?_ ?_ ?_
  · exact ⟨.un, .un, .un, by simp⟩
  · rintro pre a post ρ' hl ⟨c6, c7, c8, rfl⟩
    have ham : a < m := List.mem_range.mp (by rw [hl]; simp)
    refine ⟨_, _, (tg_name 6 sc__law_calm.nd rfl (.inl rfl)), ?_⟩
    generalize hacc : (calm0 m way o ++ pre.flatMap fun a => (List.range m).flatMap fun b => calmX way o a b) = acc
    refine runs_for (List.range m) nD (fun pre ρ => ∃ c7 c8, ρ = [.mr q (rowQ ns r3), .va (.int 3), .va (nD m), .va (nD way), .ml ((acc ++ pre.flatMap fun b => calmX way o a b).map ruD), .va (nsD o), .va (nD a), c7, c8]) .never rfl (itr_range1 (ev_v (d := nD m) 2 rfl) (by omega) rfl T.range) ?_ ?_ ?_
    · exact ⟨c7, c8, by simp⟩
    · rintro pre2 b post2 ρ' hl2 ⟨c7, c8, rfl⟩
      have hbm : b < m := List.mem_range.mp (by rw [hl2]; simp)
      refine ⟨_, _, (tg_name 7 sc__law_calm.nd rfl (.inl rfl)), ?_⟩
      generalize hac2 : (acc ++ pre2.flatMap fun b => calmX way o a b) = rs
      have small : ∀ (l : List Rule), l.length ≤ 3 → ((rs ++ l).map ruD).length < sizeLine := fun l hl3 => by
        have q1 : pre.length + 1 ≤ m := by
          have := congrArg List.length hl
          simp at this
          omega
        have q2 : pre2.length + 1 ≤ m := by
          have := congrArg List.length hl2
          simp at this
          omega
        have q3 : (pre.flatMap fun a => (List.range m).flatMap fun b => calmX way o a b).length ≤ 12 * pre.length := len_flat (fun a => Nat.le_trans (len_flat (calmX_len way o a) _) (by rw [List.length_range]; omega)) _
        have q4 : (pre2.flatMap fun b => calmX way o a b).length ≤ 4 * pre2.length := len_flat (calmX_len way o a) _
        have q5 : (calm0 m way o).length ≤ 2 := by
          unfold calm0
          split <;> simp
        rw [List.length_map, List.length_append, ← hac2, List.length_append, ← hacc, List.length_append]
        show _ < sizeLine
        unfold sizeLine
        omega
      have oa : Iop (Bx P w K mg base ["_law_row", "_law_most", "_law_many", "_law_way", "_law_rules", "_law_order_here", "_law_a", "_law_b", "_law_top"] "_law_calm" (defScope s__law_calm) f cdv A' outer s H E) (nsD o) (nD a) (nD (o.getD a 0)) := iop_lst (at_map (i := a) (by omega))
      have ob : Iop (Bx P w K mg base ["_law_row", "_law_most", "_law_many", "_law_way", "_law_rules", "_law_order_here", "_law_a", "_law_b", "_law_top"] "_law_calm" (defScope s__law_calm) f cdv A' outer s H E) (nsD o) (nD b) (nD (o.getD b 0)) := iop_lst (at_map (i := b) (by omega))
      refine runs_set 8 (ev_ifexpP (d := nD (calmT o a b)) (evB_cmp (ev_ix (ev_v (d := nsD o) 5 rfl) (ev_v (d := nD a) 6 rfl) oa) (ev_ix (ev_v (d := nsD o) 5 rfl) (ev_v (d := nD b) 7 rfl) ob) cop_gt) (fun h => ev_eq (ev_v (d := nD a) 6 rfl) ?_) (fun h => ev_eq (ev_v (d := nD b) 7 rfl) ?_)) sc__law_calm.nd rfl (.inl rfl) ?_
      · unfold calmT
        rw [if_pos (by have := of_decide_eq_true h; omega)]
      · unfold calmT
        rw [if_neg (by have := of_decide_eq_false h; omega)]
      refine runs_step (ρ1 := [.mr q (rowQ ns r3), .va (.int 3), .va (nD m), .va (nD way), .ml ((rs ++ calmX0 way o a b).map ruD), .va (nsD o), .va (nD a), .va (nD b), .va (nD (calmT o a b))]) (run_if (PW.pt (evW_and (evB_cmp (ev_v (d := nD way) 3 rfl) ev_int cop_eqI) fun h => (evW_and1 (evB_cmp (ev_v (d := nD a) 6 rfl) (ev_v (d := nD b) 7 rfl) cop_neI)))) (fun hb => ?_) (fun hb => ?_)) ?_
      · simp only [Bool.and_eq_true, Bool.not_eq_true', decide_eq_true_eq, decide_eq_false_iff_not] at hb
        refine runs_step (run_app 4 rfl (.inl rfl) (ev_tup (evA_cons (ev_tup (evA_cons (ev_v (d := nD a) 6 rfl) (evA_cons (ev_v (d := nD b) 7 rfl) evA_nil))) (evA_cons (ev_tup (evA_cons (ev_v (d := nD (calmT o a b)) 8 rfl) (evA_cons (ev_v (d := nD (calmT o a b)) 8 rfl) evA_nil))) evA_nil))) rfl (by intro h; cases h) rfl rfl (by have := small [] (by simp); simpa using this)) (runs_nil ?_)
        unfold calmX0
        rw [if_pos ⟨by omega, by omega⟩, ← map_app1]
        rfl
      · refine runs_nil ?_
        unfold calmX0
        rw [if_neg (fun ⟨x, y⟩ => by
          have hb' : (decide ((way : Int) = 0) && !decide ((a : Int) = (b : Int))) = false := hb
          rw [decide_eq_true (by omega), decide_eq_false (by omega)] at hb'
          cases hb'), List.append_nil]
        rfl
      refine runs_step (ρ1 := [.mr q (rowQ ns r3), .va (.int 3), .va (nD m), .va (nD way), .ml ((rs ++ calmX0 way o a b ++ calmX1 way o a b).map ruD), .va (nsD o), .va (nD a), .va (nD b), .va (nD (calmT o a b))]) (run_if (PW.pt (evW_and (evB_cmp (ev_v (d := nD way) 3 rfl) ev_int cop_eqI) fun h => (evW_and1 (evB_cmp (ev_ix (ev_v (d := nsD o) 5 rfl) (ev_v (d := nD a) 6 rfl) oa) (ev_ix (ev_v (d := nsD o) 5 rfl) (ev_v (d := nD b) 7 rfl) ob) cop_gt)))) (fun hb => ?_) (fun hb => ?_)) ?_
      · simp only [Bool.and_eq_true, decide_eq_true_eq] at hb
        refine runs_step (run_app 4 rfl (.inl rfl) (ev_tup (evA_cons (ev_tup (evA_cons (ev_v (d := nD a) 6 rfl) (evA_cons (ev_v (d := nD b) 7 rfl) evA_nil))) (evA_cons (ev_tup (evA_cons (ev_v (d := nD b) 7 rfl) (evA_cons (ev_v (d := nD a) 6 rfl) evA_nil))) evA_nil))) rfl (by intro h; cases h) rfl rfl (small _ (by unfold calmX0; split <;> simp))) (runs_nil ?_)
        unfold calmX1
        rw [if_pos ⟨by omega, by omega⟩, ← map_app1]
        rfl
      · refine runs_nil ?_
        unfold calmX1
        rw [if_neg (fun ⟨x, y⟩ => by
          have hb' : (decide ((way : Int) = 1) && decide ((o.getD b 0 : Int) < (o.getD a 0 : Int))) = false := hb
          rw [decide_eq_true (by omega), decide_eq_true (by omega)] at hb'
          cases hb'), List.append_nil]
      refine runs_step (ρ1 := [.mr q (rowQ ns r3), .va (.int 3), .va (nD m), .va (nD way), .ml ((rs ++ calmX0 way o a b ++ calmX1 way o a b ++ calmX2 way o a b).map ruD), .va (nsD o), .va (nD a), .va (nD b), .va (nD (calmT o a b))]) (run_if (PW.pt (evW_and (evB_cmp (ev_v (d := nD way) 3 rfl) ev_int cop_eqI) fun h => (evW_and (evB_cmp (ev_v (d := nD a) 6 rfl) (ev_v (d := nD b) 7 rfl) cop_eqI) fun h => (evW_and1 (evB_cmp (ev_ix (ev_v (d := nsD o) 5 rfl) (ev_v (d := nD a) 6 rfl) oa) ev_int cop_gt))))) (fun hb => ?_) (fun hb => ?_)) ?_
      · simp only [Bool.and_eq_true, decide_eq_true_eq] at hb
        refine runs_step (run_app 4 rfl (.inl rfl) (ev_tup (evA_cons (ev_tup (evA_cons (ev_v (d := nD a) 6 rfl) evA_nil)) (evA_cons (ev_tup (evA_cons (ev_index (ns := o) (v := 0) (j := o.idxOf 0) (ev_v (d := nsD o) 5 rfl) ev_int (idx_at z0) idx_no) evA_nil)) evA_nil))) rfl (by intro h; cases h) rfl rfl (by rw [List.append_assoc]; exact small _ (by rw [List.length_append]; unfold calmX0 calmX1; split <;> split <;> simp))) (runs_nil ?_)
        unfold calmX2
        rw [if_pos ⟨by omega, by omega, by omega⟩, ← map_app1]
        rfl
      · refine runs_nil ?_
        unfold calmX2
        rw [if_neg (fun ⟨x, y, z⟩ => by
          have hb' : (decide ((way : Int) = 2) && (decide ((a : Int) = (b : Int)) && decide ((0 : Int) < (o.getD a 0 : Int)))) = false := hb
          rw [decide_eq_true (by omega), decide_eq_true (by omega), decide_eq_true (by omega)] at hb'
          cases hb'), List.append_nil]
      refine runs_step (ρ1 := [.mr q (rowQ ns r3), .va (.int 3), .va (nD m), .va (nD way), .ml ((rs ++ calmX0 way o a b ++ calmX1 way o a b ++ calmX2 way o a b ++ calmX3 way o a b).map ruD), .va (nsD o), .va (nD a), .va (nD b), .va (nD (calmT o a b))]) (run_if (PW.pt (evW_and (evB_cmp (ev_v (d := nD way) 3 rfl) ev_int cop_eqI) fun h => (evW_and (evB_cmp (ev_v (d := nD a) 6 rfl) (ev_v (d := nD b) 7 rfl) cop_eqI) fun h => (evW_and1 (evB_cmp (ev_ix (ev_v (d := nsD o) 5 rfl) (ev_v (d := nD a) 6 rfl) oa) ev_int cop_gt))))) (fun hb => ?_) (fun hb => ?_)) ?_
      · simp only [Bool.and_eq_true, decide_eq_true_eq] at hb
        refine runs_step (run_app 4 rfl (.inl rfl) (ev_tup (evA_cons (ev_tup (evA_cons (ev_v (d := nD a) 6 rfl) (evA_cons (ev_v (d := nD a) 6 rfl) evA_nil))) (evA_cons (ev_tup (evA_cons (ev_index (ns := o) (v := 0) (j := o.idxOf 0) (ev_v (d := nsD o) 5 rfl) ev_int (idx_at z0) idx_no) (evA_cons (ev_v (d := nD a) 6 rfl) evA_nil))) evA_nil))) rfl (by intro h; cases h) rfl rfl (by rw [List.append_assoc, List.append_assoc]; exact small _ (by rw [List.length_append, List.length_append]; unfold calmX0 calmX1 calmX2; split <;> split <;> split <;> simp))) (runs_nil ?_)
        unfold calmX3
        rw [if_pos ⟨by omega, by omega, by omega⟩, ← map_app1]
        rfl
      · refine runs_nil ?_
        unfold calmX3
        rw [if_neg (fun ⟨x, y, z⟩ => by
          have hb' : (decide ((way : Int) = 3) && (decide ((a : Int) = (b : Int)) && decide ((0 : Int) < (o.getD a 0 : Int)))) = false := hb
          rw [decide_eq_true (by omega), decide_eq_true (by omega), decide_eq_true (by omega)] at hb'
          cases hb'), List.append_nil]
      refine runs_nil ⟨.va (nD b), .va (nD (calmT o a b)), ?_⟩
      rw [List.flatMap_append, ← List.append_assoc, hac2]
      simp only [List.flatMap_cons, List.flatMap_nil, List.append_nil, calmX, List.append_assoc]
    · rintro ρ' ⟨c7, c8, rfl⟩
      refine runs_nil ⟨.va (nD a), c7, c8, ?_⟩
      rw [List.flatMap_append, ← List.append_assoc, hacc]
      simp only [List.flatMap_cons, List.flatMap_nil, List.append_nil]
  · rintro ρ' ⟨c6, c7, c8, rfl⟩
    have key : ∀ rs : List Rule, Fit m rs → Srtb (rs.map ruD) := fun rs f => srtb_of (n := 2) (fun _ => okn_ruD) alike_ruD (fun r _ => ⟨_, _, rfl⟩)
    have F := calm_fit (by omega) (by omega) h2 hpm
    refine runs_ret (ev_eq (d' := bkD (bkR m (calmR m way o))) (ev_tup (evA_cons (ev_v (d := nD m) 2 rfl) (evA_cons (ev_tupleL (ev_of_new (evN_sorted (n := 2) (ev_vF 4 rfl) (room100 hr) (fun d hd => by obtain ⟨r, _, rfl⟩ := List.mem_map.mp hd; exact okn_ruD) (key _ F) rfl T.sorted)) rfl T.tuple) evA_nil))) ?_) (rtM rfl rfl)
    show D.tup [nD m, D.tup ((List.map ruD (calmR m way o)).mergeSort dle)] = bkD (bkR m (calmR m way o))
    rw [sortBy_map]
    rfl
end
end K8
set_option maxHeartbeats 1000000
/-! Dicts whose keys are pairs of words (a book's rules). -/
namespace K8
open PySem PySem.Spec PyProof.Rows L2
open PySem.SeqAt PySem.W PySem.Sem
/-! ### keys -/
def nNum (l : List Nat) : NestedKey := .tup (l.map fun (n : Nat) => .num (n : Int))
def nkey (r : Rule) : NestedKey := .tup [nNum r.1, nNum r.2]
theorem nNum_inj {a b : List Nat} (h : nNum a = nNum b) : a = b := by
  unfold nNum at h
  injection h with h
  refine (List.map_inj_right (fun x y e => ?_)).mp h
  injection e with e
  exact_mod_cast e
theorem nkey_inj {r s : Rule} (h : nkey r = nkey s) : r = s := by
  unfold nkey at h
  injection h with h
  simp only [List.cons.injEq, and_true] at h
  exact Prod.ext (nNum_inj h.1) (nNum_inj h.2)
theorem depth_nums : ∀ l : List Nat, NestedKey.depthAll (l.map fun (n : Nat) => NestedKey.num (n : Int)) = 0
  | [] => rfl
  | n :: l => by
    rw [List.map_cons]
    show max _ _ = 0
    rw [depth_nums l]
    rfl
theorem depth_nkey (r : Rule) : (nkey r).depth ≤ 8 := by
  have h : ∀ l : List Nat, (nNum l).depth = 1 := fun l => by
    show NestedKey.depthAll _ + 1 = 1
    rw [depth_nums]
  show max (nNum r.1).depth (max (nNum r.2).depth 0) + 1 ≤ 8
  rw [h, h]
  decide
/-- the tuple at a is the rule r -/
def RuAt (H : Hp) (r : Rule) (a : Addr) : Prop := ∃ b c, H a = some (.tup [.ref b, .ref c]) ∧ H b = some (.tup (r.1.map fun (n : Nat) => V.int (n : Int))) ∧ H c = some (.tup (r.2.map fun (n : Nat) => V.int (n : Int)))
theorem nested_nums {h : Heap} : ∀ {l : List Nat} {its : List Value}, Vals (l.map fun (n : Nat) => V.int (n : Int)) its → NestedAll h (l.map fun (n : Nat) => .num (n : Int)) its
  | [], _, .nil => .nil
  | n :: l, u :: us, .cons r t => by
    obtain ⟨k, rfl⟩ := (show ∃ k, u = Value.int (n : Int) k from r)
    exact .cons (.int _ _) (nested_nums t)
section
variable {X : Cx} {pins : List (Addr × Obj)} {σ : St} {H : Hp} {s : Shared} {r : Rule} {a p : Addr}
theorem nested_word (I : L2.Inv X pins σ H s) {l : List Nat} (h : H a = some (.tup (l.map fun (n : Nat) => V.int (n : Int)))) : NestedIs s.heap (nNum l) (.ref a) := by
  obtain ⟨its, rv, ⟨o, ho, hc, n, hd⟩, _⟩ := I.tuple (.inl (.inl h))
  exact .tup ho hc hd (by simpa using nested_nums rv)
theorem nested_rule (I : L2.Inv X pins σ H s) (h : RuAt H r a) : (nestedKind X.prog X.w).is s.heap (nkey r) a := by
  obtain ⟨b, c, h1, h2, h3⟩ := h
  obtain ⟨its, rv, ⟨o, ho, hc, n, hd⟩, _⟩ := I.tuple (.inl (.inl h1))
  cases rv with
  | cons r1 t1 =>
    cases t1 with
    | cons r2 t2 =>
      cases t2
      cases r1
      cases r2
      exact ⟨.tup ho hc hd (.cons (nested_word I h2) (.cons (nested_word I h3) .nil)), depth_nkey r⟩
/-! ### the dict -/
def dnEnt (x : Rule × Addr) : NestedKey × Addr × Value := (nkey x.1, x.2, .bool true)
def DN (P : Program) (w : World) (xs : List (Rule × Addr)) (p : Addr) : HO := .ext fun h => (p == sysModules) = false ∧ ∃ o es ep, h.get? p = some o ∧ o.ExactDict ∧ o.data = .dict es ep ∧ es.toList = (xs.map dnEnt).map (entryOfKey (nestedKind P w))
theorem dn_ok {P : Program} {w : World} {xs : List (Rule × Addr)} {h : Heap} {H : Hp} {o : Obj} {es : Array DictEntry} {ep : Nat} (hs : (p == sysModules) = false) (ho : h.get? p = some o) (hx : o.ExactDict) (hd : o.data = .dict es ep) (he : es.toList = (xs.map dnEnt).map (entryOfKey (nestedKind P w))) : ObjOk P w H h p (DN P w xs p) :=
  ⟨⟨hs, o, es, ep, ho, hx, hd, he⟩, ⟨_, ho⟩, fun h1 h2 x k => let ⟨hs, o, es, ep, ho, r⟩ := x; ⟨hs, o, es, ep, k o ho, r⟩⟩
theorem dn_get {P : Program} {w : World} {xs : List (Rule × Addr)} {h : Heap} (ok : HOk P w H h) (e : H p = some (DN P w xs p)) : (p == sysModules) = false ∧ ∃ o es ep, h.get? p = some o ∧ o.ExactDict ∧ o.data = .dict es ep ∧ es.toList = (xs.map dnEnt).map (entryOfKey (nestedKind P w)) := (ok p _ e).1
def addN (xs : List (Rule × Addr)) (r : Rule) (a : Addr) : List (Rule × Addr) := if r ∈ xs.map (·.1) then xs else xs ++ [(r, a)]
theorem atKey_dn (xs : List (Rule × Addr)) (r : Rule) : (atKey (xs.map dnEnt) (nkey r)).isSome = decide (r ∈ xs.map (·.1)) := by
  unfold atKey
  rw [Option.isSome_map]
  by_cases h : r ∈ xs.map (·.1)
  · rw [decide_eq_true h]
    obtain ⟨x, hx, rfl⟩ := List.mem_map.mp h
    rw [List.find?_isSome]
    exact ⟨dnEnt x, List.mem_map.mpr ⟨x, hx, rfl⟩, by simp [dnEnt]⟩
  · rw [decide_eq_false h]
    cases z : (xs.map dnEnt).find? fun x => decide (x.1 = nkey r) with
    | none => rfl
    | some y =>
      have h1 := List.find?_some z
      obtain ⟨x, hx, rfl⟩ := List.mem_map.mp (List.mem_of_find?_eq_some z)
      have h2 : nkey x.1 = nkey r := of_decide_eq_true h1
      exact absurd (List.mem_map.mpr ⟨x, hx, nkey_inj h2⟩) h
theorem stored_dn (xs : List (Rule × Addr)) (r : Rule) (a : Addr) : storedH (xs.map dnEnt) (nkey r) a (.bool true) = (addN xs r a).map dnEnt := by
  unfold storedH addN
  rw [atKey_dn]
  by_cases h : r ∈ xs.map (·.1)
  · rw [decide_eq_true h, if_pos rfl, if_pos h, List.map_map]
    refine List.map_congr_left fun x _ => ?_
    show putAt (nkey r) (.bool true) (dnEnt x) = dnEnt x
    unfold putAt dnEnt
    split <;> rfl
  · rw [decide_eq_false h, if_neg h]
    simp [dnEnt]
theorem dn_set {A : Around} {E : Value → Shared → Prop} {Q : Unit → Shared → Prop} {xs : List (Rule × Addr)} (hu : A.units + 20 < cLine) (I : L2.Inv X pins σ H s) (hp : H p = some (DN X.prog X.w xs p)) (nd : (xs.map (·.1)).Nodup) (hk : ∀ x ∈ xs, RuAt H x.1 x.2) (hr : RuAt H r a) (hl : xs.length ≤ sizeLine)
    (h : ∀ s', L2.Inv X pins σ (upd H p (DN X.prog X.w (addN xs r a) p)) s' → Q () s') : wpAny (model X.prog X.w) A (setItem (.ref p) (.ref a) (.bool true)) Q E s := by
  obtain ⟨hs, o, es, ep, ho, hx, hd, he⟩ := dn_get I.hok hp
  have un : A.in1.units + 8 < cLine := by
    have : A.in1.units ≤ A.units + 2 := by
      show _ ≤ _
      first | exact Nat.le_refl _ | (simp [Around.in1, Around.units]; done) | omega
    omega
  have nd2 : ((xs.map dnEnt).map (·.1)).Nodup := by
    rw [List.map_map, show ((·.1) ∘ dnEnt) = nkey ∘ (fun x : Rule × Addr => x.1) from rfl, ← List.map_map]
    exact List.Pairwise.map _ (fun a b hne z => hne (nkey_inj z)) nd
  have dd : s.heap.DictOfH (nestedKind X.prog X.w) p (xs.map dnEnt) := ⟨o, es, ep, ho, hx, hd, he, fun y hy => by
    obtain ⟨x, hxm, rfl⟩ := List.mem_map.mp hy
    exact nested_rule I (hk x hxm), nd2⟩
  refine wpAny_setItem_heap (hsz := by rw [List.length_map]; exact hl) un (nested_rule I hr) dd fun h' dd' hsb => h _ ?_
  rw [stored_dn] at dd'
  obtain ⟨q, es', ep', hq, h2, h3, h4, _, h5⟩ := dd'
  exact d_write I (by rw [hp]; exact True.intro) hsb ⟨q, hq⟩ (dn_ok hs hq h2 h3 h4)
end
/-! ### rules -/
def tDNew (P : Program) (w : World) : TE := fun _ H Q => ∀ p, H p = none → Q (.ref p) (upd H p (DN P w [] p))
def sDPutN (P : Program) (w : World) (td ty : TE) : TS := fun D σ H => td σ H fun x H2 => ty σ H2 fun y H3 => ∃ p xs r a, x = .ref p ∧ y = .ref a ∧ H3 p = some (DN P w xs p) ∧ (xs.map (·.1)).Nodup ∧ (∀ x ∈ xs, RuAt H3 x.1 x.2) ∧ RuAt H3 r a ∧ xs.length ≤ sizeLine ∧ D.nx σ (upd H3 p (DN P w (addN xs r a) p))
def rSortKeysN (K : PySem.W.Frag) (P : Program) (w : World) : List V → Hp → VK → Prop := fun vs H Q => ∃ (p a : Addr) (xs : List (Rule × Addr)) (ds : List D), vs = [V.ref p] ∧ H p = some (keysO p a) ∧ H a = some (DN P w xs a) ∧ Srtb ds ∧ xs.length = ds.length ∧ xs.length ≤ sizeLine ∧
  (∀ q ∈ (xs.map fun x => V.ref x.2).zip ds, Dp K H q.1 q.2.py) ∧
  ∀ l, H l = none → Q (.ref l) (upd H l (.lst ((((xs.map fun x => V.ref x.2).zip ds).mergeSort fun x y => dle x.2 y.2).map (·.1))))
def tKeysN (P : Program) (w : World) (te : TE) : TE := fun σ H Q => te σ H fun x H1 => ∃ a xs, x = .ref a ∧ H1 a = some (DN P w xs a) ∧ ∀ p, H1 p = none → Q (.ref p) (upd H1 p (keysO p a))
section
variable {X : Cx} {e i : Expr} {td ty te : TE} {apos cpos pos pos' p0 : Pos}
theorem pe_dnewN : PE X (.Dict [] [] pos) (tDNew X.prog X.w) := ⟨fun pins s σ H Q I h => wpAny_Dict_empty ⟨.ref s.heap.objs.size, _, I.laid (a := s.heap.objs.size) (o := DN X.prog X.w [] s.heap.objs.size) (t' := s.toks) (fun _ _ q => Heap.get?_push_of_some _ q) (Nat.le_refl _)
  (dn_ok (es := #[]) (ep := 0) (beq_eq_false_iff_ne.mpr (Ne.symm (Nat.ne_of_lt I.big))) (Heap.get?_push_size _ rfl) ⟨rfl, rfl, rfl⟩ rfl rfl), rfl, h _ (I.hok.fresh (Nat.le_refl _))⟩⟩
theorem ps_dputN {kd : Nat} {pc : Pos} (hu : X.A.units + 20 < cLine) (ho : PE X e td) (hi : PE X i ty) (hs : swapsWith (.Constant (.bool true) kd pc) (some (.Subscript e i pos')) pos.line X.env = pure false) :
    PS X (.Assign [.Subscript e i pos'] (.Constant (.bool true) kd pc) pos) (sDPutN X.prog X.w td ty) := by
  refine ⟨fun pins s σ H D I h => ?_⟩
  refine wpAny_Assign_Subscript (thn ((pe_bl (b := true)).run pins s σ H (fun v H1 => v = V.bl true ∧ sDPutN X.prog X.w td ty D σ H1) I ⟨rfl, h⟩) fun r s1 ⟨v, H1, I1, rv, q1⟩ => thn (ho.run pins s1 σ H1 _ I1 q1.2) fun u s2 ⟨x, H2, I2, rx, q2⟩ => thn (hi.run pins s2 σ H2 _ I2 q2) fun iv s3 ⟨y, H3, I3, ry, p, xs, r', a, ex, ey, hp, nd, hk, hr, hl, q3⟩ => ?_) hs
  subst ex ey
  obtain rfl : u = Value.ref p := rx
  obtain rfl : iv = Value.ref a := ry
  obtain rfl := q1.1
  obtain rfl : r = Value.bool true := rv
  exact dn_set hu I3 hp nd hk hr hl fun s4 I4 => ⟨σ, _, I4, q3⟩
theorem mt_keysN : MtR X "dict.keys" (fun x xs H Q => ∃ (a : Addr) (ys : List (Rule × Addr)), x = .ref a ∧ xs = [] ∧ H a = some (DN X.prog X.w ys a) ∧ ∀ p, H p = none → Q (.ref p) (upd H p (keysO p a))) := by
  intro pins s σ H x xs v us Q I rx rxs h
  obtain ⟨a, ys, rfl, rfl, ha, q⟩ := h
  cases rx
  cases rxs
  obtain ⟨hs, o, es, ep, ho, hx, hdat, _⟩ := dn_get I.hok ha
  have hm : s.heap.DictRaw a es ep := ⟨o, ho, hx, hdat⟩
  refine call_meetsIn PySem.F.slot_dict_keys hm.typeIs PySem.F.entry_dict_keys (PySem.F.args_dict_keys_1 _) (meets_dict_keys_raw a hs) ⟨⟨es, ep, hm⟩, ?_⟩
  have hf : H s.heap.objs.size = none := I.hok.fresh (Nat.le_refl _)
  exact ⟨.ref s.heap.objs.size, upd H s.heap.objs.size (keysO s.heap.objs.size a), I.laid (t' := s.toks) (fun b u e => Heap.get?_push_of_some _ e) (Nat.le_refl _) (keysO_ok (Heap.get?_push_size _ rfl)), rfl, q _ hf⟩
theorem pe_keysN (he : PE X e te) (hbase : attributeBase e "keys" X.env (eval e X.env) = eval e X.env := by rfl) (hline : (apos.endLine == cpos.line) = true := by rfl) : PE X (.Call (.Attribute e "keys" apos) [] [] cpos) (tKeysN X.prog X.w te) := by
  refine ⟨fun pins s σ H Q I h => ?_⟩
  refine wpAny_Call_method0_late hbase hline (thn (he.run pins s σ H _ I h) fun v s1 ⟨x, H1, I1, r1, a, ys, ex, hd, q1⟩ => ?_)
  subst ex
  obtain rfl : v = Value.ref a := r1
  obtain ⟨hs, o, es, ep, ho, hx, hdat, _⟩ := dn_get I1.hok hd
  exact ⟨"dict", "dict.keys", PySem.F.plainAttrs_dict, PySem.F.slot_dict_keys, PySem.F.type_dict_keys, ⟨o, ho, hx.1⟩, fun b e2 => by cases e2; exact ⟨o, ho, hx.2.1⟩, Calls.callWith_builtin rfl (PySem.evalArgs_none (mt_keysN pins s1 σ H1 (.ref a) [] (.ref a) [] Q I1 rfl .nil ⟨a, ys, rfl, rfl, hd, q1⟩))⟩
theorem keys_valsN {prog : Program} {w : World} {es : Array DictEntry} {ks : List (Rule × Addr)} (he : es.toList = (ks.map dnEnt).map (entryOfKey (nestedKind prog w))) {vs : List Value} (hl : vs.length = es.size) (h : ∀ (j : Nat) (v : Value), vs[j]? = some v → ∃ hi : j < es.size, v = es[j].key) : vs = (ks.map fun x => x.2).map Value.ref := by
  have l1 : es.size = ks.length := by
    have := size_of_entries he
    simpa using this
  apply List.ext_getElem?
  intro j
  rw [List.getElem?_map, List.getElem?_map]
  cases hj : vs[j]? with
  | none =>
    have h1 := List.getElem?_eq_none_iff.mp hj
    rw [List.getElem?_eq_none (by omega)]
    all_goals rfl
  | some v =>
    obtain ⟨hi, hv⟩ := h j v hj
    have qe := entry_at he j
    rw [Array.getElem?_eq_getElem hi, List.getElem?_map] at qe
    cases hb : ks[j]? with
    | none =>
      rw [hb] at qe
      exact nomatch (show some es[j] = none from qe)
    | some b =>
      rw [hb] at qe
      have e2 : es[j] = entryOfKey (nestedKind prog w) (dnEnt b) := Option.some.inj qe
      rw [hv, e2]
      all_goals rfl
theorem cr_sortedKeysN (hc : X.calm = true) (hu : X.A.units + 100 < cLine) : CallR X (.builtin "sorted") (rSortKeysN X.K X.prog X.w) := by
  intro pins s σ H xs us Q I r h
  obtain ⟨p, a, ys, ds, rfl, hp, hd, hs, hl, hz, hdp, q⟩ := h
  obtain ⟨u, rfl, rx⟩ := vals1 r
  cases rx
  obtain ⟨hsm, o, es, ep, ho, hx, hdt, he⟩ := dn_get I.hok hd
  have l1 : es.size = ys.length := by
    have := size_of_entries he
    simpa using this
  have hv : KdlKeysView s.heap p a := (I.hok p _ hp).1
  refine sorted_src (KdlSrc.rawKeys (r := p) (d := a) (es := es) (ep := ep)) (I.ok.hd hc) ⟨hv, o, ho, hx, hdt⟩ (by omega) fun h' tk vs kp hlen hvs => ?_
  have ev := keys_valsN he hlen hvs
  have rv : Vals ((ys.map fun x => x.2).map V.ref) vs := by rw [ev]; exact vals_refs _
  rw [List.map_map] at rv
  exact sort_tail I kp rv (by simp; omega) hdp hs (by omega) hu fun l hl' => q l hl'
end
/-! ### in the layer -/
def addrV : V → Addr
  | .ref a => a
  | _ => 0
/-- an own dict with the rules rs as keys -/
def dnC (P : Program) (w : World) (rs : List Rule) : C := .mo (fun p vs => DN P w (rs.zip (vs.map addrV)) p) (rs.map ruD)
def putR (rs : List Rule) (r : Rule) : List Rule := if r ∈ rs then rs else rs ++ [r]
section
variable {K : PySem.W.Frag} {F M H : Hp} {ρ : List C} {σ : St}
theorem ints_at {v : V} {l : List Nat} (i : Is K F v (wd l)) : ∃ b, v = .ref b ∧ F b = some (.tup (l.map fun (n : Nat) => V.int (n : Int))) := by
  rw [wd_wdI] at i
  cases i with
  | tup h1 l1 =>
    have := l1.ints
    subst this
    exact ⟨_, rfl, by rw [h1, List.map_map]; rfl⟩
theorem ruAt_is {v : V} {r : Rule} (z : Le F H) (i : Is K F v (ruD r)) : ∃ a, v = .ref a ∧ RuAt H r a := by
  cases i with
  | tup h1 l1 =>
    cases l1 with
    | cons i1 l2 =>
      cases l2 with
      | cons i2 l3 =>
        cases l3
        obtain ⟨b, rfl, hb⟩ := ints_at i1
        obtain ⟨c, rfl, hc⟩ := ints_at i2
        exact ⟨_, rfl, b, c, z.tup h1, z.tup hb, z.tup hc⟩
theorem rules_at (z : Le F H) : ∀ {vs : List V} {rs : List Rule}, IsL K F vs (rs.map ruD) → vs = ((rs.zip (vs.map addrV)).map fun x => V.ref x.2) ∧ (rs.zip (vs.map addrV)).map (·.1) = rs ∧ ∀ x ∈ rs.zip (vs.map addrV), RuAt H x.1 x.2
  | _, [], .nil => ⟨rfl, rfl, fun x hx => by cases hx⟩
  | _, r :: rs, .cons h t => by
    obtain ⟨a, rfl, ha⟩ := ruAt_is z h
    obtain ⟨i1, i2, i3⟩ := rules_at z t
    refine ⟨?_, ?_, fun x hx => ?_⟩
    · rw [List.map_cons, List.zip_cons_cons, List.map_cons]
      exact congrArg _ i1
    · rw [List.map_cons, List.zip_cons_cons, List.map_cons, i2]
    · rw [List.map_cons, List.zip_cons_cons] at hx
      rcases List.mem_cons.mp hx with rfl | hx
      · exact ha
      · exact i3 x hx
theorem Rl.dn {P : Program} {w : World} {rs : List Rule} {i : Nat} (R : Rl K M ρ F σ H) (h : ρ[i]? = some (dnC P w rs)) : ∃ p vs, σ[i]? = some (some (.ref p)) ∧ H p = some (DN P w (rs.zip (vs.map addrV)) p) ∧ IsL K F vs (rs.map ruD) ∧ F p = none ∧ M p = none := by
  obtain ⟨fp, h1, _⟩ := R.ow
  obtain ⟨p, hs, ⟨hA, vs, h2, h3, _⟩, hf⟩ := h1 i _ h rfl
  obtain ⟨f1, f2, _⟩ := hf p (by rw [hA]; exact List.mem_singleton.mpr rfl)
  exact ⟨p, vs, hs, h2, h3, f1, f2⟩
theorem own_dn {P : Program} {w : World} {rs : List Rule} {p : Addr} {vs : List V} (h : H p = some (DN P w (rs.zip (vs.map addrV)) p)) (l : IsL K F vs (rs.map ruD)) : OwnAt K F H (dnC P w rs) p [p] := ⟨rfl, vs, h, l, fun x y z => by unfold DN at z; cases z⟩
theorem put_zip {rs : List Rule} {vs : List V} {r : Rule} {a : Addr} (hl : vs.length = rs.length) : addN (rs.zip (vs.map addrV)) r a = (putR rs r).zip ((if r ∈ rs then vs else vs ++ [V.ref a]).map addrV) := by
  have e : (rs.zip (vs.map addrV)).map (·.1) = rs := List.map_fst_zip (by simp [hl])
  unfold addN putR
  rw [e]
  split
  · rfl
  · rw [List.map_append, List.zip_append (by simp [hl])]
    rfl
theorem put_is {rs : List Rule} {vs : List V} {r : Rule} {a : Addr} (l : IsL K F vs (rs.map ruD)) (h : Is K F (.ref a) (ruD r)) : IsL K F (if r ∈ rs then vs else vs ++ [V.ref a]) ((putR rs r).map ruD) := by
  unfold putR
  split
  · exact l
  · rw [List.map_append]
    exact l.append (.one h)
theorem nodup_putR {rs : List Rule} (r : Rule) (h : rs.Nodup) : (putR rs r).Nodup := by
  unfold putR
  split
  · exact h
  · rw [List.nodup_append]
    refine ⟨h, List.nodup_cons.mpr ⟨by simp, List.nodup_nil⟩, fun a ha b hb e => ?_⟩
    rw [List.mem_singleton.mp hb] at e
    subst e
    contradiction
end
section
variable {X : Cx} {e : Expr} {pos cpos apos p0 : Pos} {ρ ρ1 : List C} {rs rs0 : List Rule} {r : Rule} {k : Nat}
theorem evN_dictN : EvN X (.Dict [] [] pos) ρ (dnC X.prog X.w []) ρ :=
  pe_imp pe_dnewN fun σ H Q ⟨M, F, R, q⟩ => fun p hp => q F _ p (Same.refl _) (R.ownO (c := dnC X.prog X.w []) hp rfl (own_dn (vs := []) upd_same .nil))
/-- d[r] = True, d an own dict of rules -/
theorem run_putN (i : Nat) {x : Str} {px sp pc : Pos} {kd : Nat} (hr : Room k X.A) (hN : X.N[i]? = some x) (hv : Vis X.env.scope x) (he : Ev X e ρ (ruD r) ρ1) (h0 : ρ[i]? = some (dnC X.prog X.w rs0)) (h1 : ρ1[i]? = some (dnC X.prog X.w rs)) (nd : rs.Nodup) (hz : rs.length ≤ sizeLine)
    (hs' : swapsWith (.Constant (.bool true) kd pc) (some (.Subscript (.Name x px) e sp)) pos.line X.env = pure false := by rfl) (hd : (x == ("__debug__" : Str)) = false := by decide) (hcd : (x == ("__classdict__" : Str)) = false := by decide) :
    Run X (.Assign [.Subscript (.Name x px) e sp] (.Constant (.bool true) kd pc) pos) ρ (fun o => o = .nx (ρ1.set i (dnC X.prog X.w (putR rs r)))) :=
  ps_imp (ps_dputN (by have := room100 hr; omega) (pe_var hN hv hd hcd) he hs') fun E σ H ⟨M, F, R, k⟩ => by
    obtain ⟨p0, vs0, hs0, _⟩ := R.dn h0
    refine ⟨_, hs0, M, F, R, fun F2 H2 u s2 R2 iu => ?_⟩
    obtain ⟨p, vs, hs, hp, l, f1, m1⟩ := R2.dn h1
    rw [hs0] at hs
    cases hs
    obtain ⟨a, rfl, ha⟩ := ruAt_is R2.z.le iu
    obtain ⟨i1, i2, i3⟩ := rules_at R2.z.le l
    have hlen : vs.length = rs.length := by simpa using l.length
    refine ⟨_, _, r, a, rfl, rfl, hp, by rw [i2]; exact nd, i3, ha, by simp [hlen]; exact hz, k _ rfl F2 σ _ s2 (R2.wrO h1 rfl rfl hs0 (fun A oa => oa.1) ?_ (fun xs z => by unfold DN at z; cases z))⟩
    refine own_dn (vs := if r ∈ rs then vs else vs ++ [V.ref a]) ?_ (put_is l iu)
    rw [upd_same, put_zip hlen]
theorem evN_sortedKeysN (i : Nat) {x : Str} {px : Pos} (h : ρ[i]? = some (dnC X.prog X.w rs)) (hz : rs.length ≤ sizeLine) (hc : X.calm = true) (hu : X.A.units + 100 < cLine) (hs : Srtb (rs.map ruD)) (hg : Gl X "sorted") (hm : X.mg "sorted" = none) (hN : X.N[i]? = some x := by rfl) (hv : Vis X.env.scope x := by first | exact .inl rfl | exact .inr (.inl rfl) | exact .inr (.inr rfl)) (hd : (x == ("__debug__" : Str)) = false := by decide) (hcd : (x == ("__classdict__" : Str)) = false := by decide)
    (hbase : attributeBase (.Name x px) "keys" X.env (eval (.Name x px) X.env) = eval (.Name x px) X.env := by rfl) (hline : (apos.endLine == cpos.line) = true := by rfl)
    (he : starEach [Expr.Call (.Attribute (.Name x px) "keys" apos) [] [] cpos] X.env = (false, eval (Expr.Call (.Attribute (.Name x px) "keys" apos) [] [] cpos) X.env) :: starEach [] X.env := by rfl) :
    EvN X (.Call (.Name "sorted" p0) [.Call (.Attribute (.Name x px) "keys" apos) [] [] cpos] [] pos) ρ (.ml ((rs.map ruD).mergeSort dle)) ρ := by
  refine pe_imp (pe_callB (cr_sortedKeysN hc hu) hg hm (by decide +kernel) (pa_cons (pe_keysN (pe_var hN hv hd hcd) hbase hline) pa_nil he) (he := he)) fun σ H Q ⟨M, F, R, q⟩ => ?_
  obtain ⟨a, vs, hs', hp', l, _⟩ := R.dn h
  have hlen : vs.length = rs.length := by simpa using l.length
  refine ⟨_, hs', a, _, rfl, hp', fun p hp => ?_⟩
  have R1 := R.alloc (o := keysO p a) hp
  obtain ⟨i1, i2, i3⟩ := rules_at R.z.le l
  refine ⟨p, a, _, rs.map ruD, rfl, upd_same, by rw [upd_ne (ne_of_none hp' hp)]; exact hp', hs, by simp [hlen], by simp [hlen]; exact hz, fun x hx => ?_, fun l' hl' => ?_⟩
  · rw [← i1] at hx
    obtain ⟨r, hr, er⟩ := List.mem_map.mp (List.of_mem_zip hx).2
    exact dp_of R1.z.le 2 (by rw [← er]; exact okn_ruD) (isL_zip (l.mono (same_upd (R.freeP hp))) x hx)
  · rw [← i1]
    exact q _ _ l' (same_upd (R.freeP hp)) (R1.own hl' (sort_is (l.mono (same_upd (R.freeP hp)))))
end
end K8
/-! t[::-1] for tuples. -/
namespace K8
open PySem PySem.Spec PyProof.Rows L2
open HT
section
variable {prog : Program} {w : World} {A : Around} {E : Value → Shared → Prop} {s : Shared}
theorem sliceApplied_rev {sl : Addr} {vs : Value} {n : Nat} {Q : Int × Int × Nat → Shared → Prop} (hs : s.heap.IsSliceOf sl .none .none vs) (ps : IsPart vs (some (-1)))
    (h : Q ((n : Int) - 1, -1, n) s) : wpAny (model prog w) A (Builtin.Slice.sliceApplied (.ref sl) (pure (n : Int))) Q E s := by
  obtain ⟨os, hos, hcs, hds⟩ := id hs
  unfold Builtin.Slice.sliceApplied Builtin.Slice.sliceFields
  refine wpAny_bind (wpAny_bind (wpAny_field hos hds (x := .none) rfl (wpAny_bind (wpAny_field hos hds (x := .none) rfl (wpAny_bind (wpAny_field hos hds (x := vs) rfl (wpAny_pure ?_)))))))
  refine wpAny_bind (slicePart_ ps ?_)
  show wpAny _ _ (if ((-1 : Int) == 0) = true then _ else _) _ _ s
  rw [if_neg (by decide)]
  refine wpAny_bind (slicePart_none (wpAny_bind (slicePart_none (wpAny_bind (wpAny_pure ?_)))))
  show wpAny _ _ (match Builtin.Slice.sliceAdjust none none (-1) (n : Int) with | (lo, hi) => pure (lo, (-1 : Int), Builtin.Slice.slicePlaces lo hi (-1))) _ _ s
  have e1 : Builtin.Slice.sliceAdjust none none (-1) (n : Int) = ((n : Int) - 1, -1) := rfl
  rw [e1]
  have e2 : Builtin.Slice.slicePlaces ((n : Int) - 1) (-1) (-1) = n := by
    unfold Builtin.Slice.slicePlaces
    have h1 : ¬((-1 : Int) > 0) := by omega
    simp only [h1, if_false]
    split
    · have e : ((n : Int) - 1 - -1 - 1) / (- -1) = (n : Int) - 1 := by
        rw [show (- -1 : Int) = 1 from rfl, Int.ediv_one]
        omega
      rw [e]
      omega
    · omega
  show wpAny _ _ (pure ((n : Int) - 1, (-1 : Int), Builtin.Slice.slicePlaces ((n : Int) - 1) (-1) (-1))) _ _ s
  rw [e2]
  exact wpAny_pure h
theorem filterMap_some {α β : Type} {f : α → Option β} {g : α → β} : ∀ {L : List α}, (∀ k ∈ L, f k = some (g k)) → L.filterMap f = L.map g
  | [], _ => rfl
  | a :: L, h => by
    rw [List.filterMap_cons, h a List.mem_cons_self, List.map_cons, filterMap_some fun k hk => h k (List.mem_cons_of_mem _ hk)]
theorem pick_rev (l : List Value) : ((List.range l.length).filterMap fun (k : Nat) => l[(((l.length : Nat) : Int) - 1 + (k : Int) * -1).toNat]?) = l.reverse := by
  have e : ((List.range l.length).filterMap fun (k : Nat) => l[(((l.length : Nat) : Int) - 1 + (k : Int) * -1).toNat]?) = (List.range l.length).map fun k => l.reverse.getD k .none := by
    refine filterMap_some fun k hk => ?_
    have hk := List.mem_range.mp hk
    have e1 : (((l.length : Nat) : Int) - 1 + (k : Int) * -1).toNat = l.length - 1 - k := by omega
    rw [e1, List.getD_eq_getElem?_getD, List.getElem?_reverse hk, List.getElem?_eq_getElem (by omega)]
    rfl
  rw [e]
  apply List.ext_getElem
  · simp
  · intro i h1 h2
    simp only [List.length_map, List.length_range] at h1
    rw [List.getElem_map, List.getElem_range, List.getD_eq_getElem?_getD, List.getElem?_eq_getElem (by simpa using h1)]
    rfl
theorem getItem_tuple_rev {t sl : Addr} {l : List Value} {vs : Value} {Q : Value → Shared → Prop} (ht : IsTup s.heap t l.toArray) (hs : s.heap.IsSliceOf sl .none .none vs) (ps : IsPart vs (some (-1)))
    (h : Q (.ref s.heap.objs.size) { s with heap := s.heap.push { cls := .type "tuple", data := .seq l.reverse.toArray } })
    (hsz : l.length ≤ sizeLine) : wpAny (model prog w) A (getItem (.ref t) (.ref sl)) Q E s := by
  have htake : sizeOk (.seq l.reverse.toArray) := by
    show l.reverse.toArray.size ≤ sizeLine
    rw [List.size_toArray, List.length_reverse]
    exact hsz
  obtain ⟨os, hos, hcs, hds⟩ := id hs
  have hTs : s.TypeIs (.ref sl) "slice" := ⟨os, hos, hcs⟩
  unfold getItem
  try with_reducible refine wpAny_holding ?_
  first | refine wpAny_bind (wpAny_pure ?_) | skip
  refine wpAny_bind (wpAny_sequenceKey ht.typeIs (by decide) ?_)
  refine wpAny_bind (wpAny_callSpecial?_slot (name := Str.ofString "__getitem__") ht.typeIs PyProof.Rows.slot_tuple_getitem
    (wpAny_call_entry PyProof.Rows.slot_tuple_getitem ht.typeIs entry_tuple_getitem ?_ (args_tuple_getitem _ _)))
  show wpAny _ _ (Builtin.Tuple.tupleItemsOf (.ref t) >>= _) _ _ s
  refine wpAny_bind (tupleItemsOf_ ht ?_)
  refine wpAny_bind (wpAny_typeOf hTs ?_)
  rw [if_pos (by decide)]
  refine wpAny_bind (sliceApplied_rev hs ps ?_)
  have hno : ¬ ((((l.toArray.size : Nat) : Int) - 1 == 0 && (-1 : Int) == 1 && l.toArray.size == l.toArray.size) = true) := by
    intro q
    rw [Bool.and_eq_true, Bool.and_eq_true] at q
    exact absurd q.1.2 (by decide)
  show wpAny _ _ (if (((l.toArray.size : Nat) : Int) - 1 == 0 && (-1 : Int) == 1 && l.toArray.size == l.toArray.size) = true then _ else _) _ _ s
  rw [if_neg hno]
  have e : ((List.range l.toArray.size).filterMap fun (k : Nat) => l.toArray[((l.toArray.size : Nat) - 1 + (k : Int) * -1 : Int).toNat]?).toArray = l.reverse.toArray := by
    have := pick_rev l
    simpa using congrArg List.toArray this
  rw [e]
  first
    | exact wpAny_bind (m := Builtin.Tuple.tupleExact _) (wpAny_newObj_type (wpAny_pure ⟨_, rfl, wpAny_pure h⟩) htake)
    | exact wpAny_bind (m := Builtin.Tuple.tupleExact _) (wpAny_newObj_type (wpAny_bind (wpAny_pure (wpAny_pure ⟨_, rfl, wpAny_pure h⟩))) htake)
    | exact wpAny_bind (wpAny_bind (m := Builtin.Tuple.tupleExact _) (wpAny_newObj_type (wpAny_pure (wpAny_pure ⟨_, rfl, wpAny_pure h⟩)) htake))
    | exact wpAny_bind (wpAny_bind (m := Builtin.Tuple.tupleExact _) (wpAny_newObj_type (wpAny_pure ⟨_, rfl, wpAny_pure h⟩) htake))
end
def tRevT (K : PySem.W.Frag) (te : TE) : TE := fun σ H Q => te σ H fun x H1 => ∃ a xs, x = .ref a ∧ SqT K H1 a xs ∧ ∀ p, H1 p = none → Q (.ref p) (upd H1 p (.tup xs.reverse))
section
variable {X : Cx} {e : Expr} {te : TE} {k : Nat} {p1 p2 p3 pos : Pos} {ρ ρ1 : List C} {ds : List D}
theorem pe_revT (he : PE X e te) : PE X (.Subscript e (.Slice none none (some (.UnaryOp .USub (.Constant (.int 1) k p1) p2)) p3) pos) (tRevT X.K te) := by
  refine ⟨fun pins s σ H Q I h => ?_⟩
  refine Subscript_ (thn (he.run pins s σ H _ I h) fun v s1 ⟨x, H1, I1, r1, q1⟩ => ?_)
  obtain ⟨a, xs, ex, hx, q⟩ := q1
  subst ex
  cases r1
  have hst : PO X (some (.UnaryOp .USub (.Constant (.int 1) k p1) p2)) (tPart (tUn (rU fun i => .int (-i)) (tC (.int 1)))) := po_some (pe_un un_neg pe_int)
  refine wpAny_Slice (thn (po_none.run pins s1 σ H1 (fun o H2 => o = none ∧ H2 = H1) I1 ⟨rfl, rfl⟩) fun vl s2 ⟨l, H2, I2, pl, el, e2⟩ => ?_)
  subst el e2
  refine thn (po_none.run pins s2 σ H2 (fun o H3 => o = none ∧ H3 = H2) I2 ⟨rfl, rfl⟩) fun vu s3 ⟨u, H3, I3, pu, eu, e3⟩ => ?_
  subst eu e3
  refine thn (hst.run pins s3 σ H3 (fun o H4 => o = some (-1) ∧ H4 = H3) I3 ⟨1, rfl, -1, rfl, rfl, rfl⟩) fun vs s4 ⟨o, H4, I4, ps, eo, e4⟩ => ?_
  subst eo e4
  cases pl
  cases pu
  have I5 : L2.Inv X pins σ H4 { s4 with heap := s4.heap.push { cls := .type "slice", data := .fields #[.none, .none, vs] } } := I4.kept (t' := s4.toks) fun b ob q => Heap.get?_push_of_some _ q
  obtain ⟨its, r, ht, hz⟩ := I5.tuple hx
  have hlen := r.length
  show wpAny (model X.prog X.w) X.A (subscriptTail e (.Slice none none (some (.UnaryOp .USub (.Constant (.int 1) k p1) p2)) p3) (.ref a) (.ref s4.heap.objs.size)) (EP X pins σ Q) X.xe { s4 with heap := s4.heap.push { cls := .type "slice", data := .fields #[.none, .none, vs] } }
  refine tail_any (ops := [.ref a, .ref s4.heap.objs.size]) ht.typeIs (PyProof.Rows.slot_tuple_getitem.lookup) ?_ (by with_unfolding_all rfl)
  refine getItem_tuple_rev ht (Heap.IsSliceOf.new _ .none .none vs) ps ?_ (by omega)
  refine ⟨.ref _, _, I5.laid (t' := s4.toks) (o := .tup xs.reverse) (fun b ob q => Heap.get?_push_of_some _ q) (Nat.le_refl _) ?_, rfl, q _ (I5.hok.fresh (Nat.le_refl _))⟩
  exact ⟨by rw [List.length_reverse]; exact hz, _, r.reverse, IsTup.new _ _⟩
theorem ev_revT (h : Ev X e ρ (.tup ds) ρ1) : Ev X (.Subscript e (.Slice none none (some (.UnaryOp .USub (.Constant (.int 1) k p1) p2)) p3) pos) ρ (.tup ds.reverse) ρ1 :=
  pe_imp (pe_revT h) fun σ H Q ⟨M, F, R, q⟩ => ⟨M, F, R, fun F1 H1 x s1 R1 i1 => by
    cases i1 with
    | @tup a xs _ h1 l1 =>
      refine ⟨a, xs, rfl, .inl (.inl (R1.z.le.tup h1)), fun p hp => ?_⟩
      have sm := same_upd (o := .tup xs.reverse) (R1.freeP hp)
      exact q _ _ _ (s1.trans sm) (R1.alloc hp) (.tup upd_same (l1.reverse.mono sm))⟩
end
end K8
set_option maxHeartbeats 2000000
/-! The law's other books: _law_book. -/
namespace K8
open PySem PySem.Spec PyProof.Rows L2
def cutW (l : List Nat) (i j : Option Int) : List Nat := (l.drop (HT.sIx l.length 0 i)).take (HT.sIx l.length l.length j - HT.sIx l.length 0 i)
theorem cut_wd (l : List Nat) (i j : Option Int) : D.tup (cutD (l.map nD) i j) = wd (cutW l i j) := by
  unfold cutD cutW wd
  rw [List.length_map, List.map_take, List.map_drop]
theorem mem_cutW {l : List Nat} {i j : Option Int} {x : Nat} (h : x ∈ cutW l i j) : x ∈ l := List.mem_of_mem_drop (List.mem_of_mem_take h)
theorem sIx_m1 (n d : Nat) : HT.sIx n d (some (-1)) = n - 1 := by
  show (if (-1 : Int) < 0 then ((-1 : Int) + (n : Int)).toNat else min (-1 : Int).toNat n) = n - 1
  rw [if_pos (by decide)]
  omega
theorem sIx_1 (n d : Nat) : HT.sIx n d (some 1) = min 1 n := HT.sIx_nat n d 1
def joinW (a b : List Nat) : List Nat := cutW a none (some (-1)) ++ cutW b (some (-1)) none
def headW (a b : List Nat) : List Nat := cutW a none (some 1) ++ cutW b (some 1) none
theorem joinW_len {a b : List Nat} (h : a.length = b.length) (h1 : 1 ≤ a.length) : (joinW a b).length = a.length := by
  unfold joinW cutW
  rw [List.length_append, List.length_take, List.length_drop, List.length_take, List.length_drop, sIx_m1, sIx_m1, HT.sIx_none, HT.sIx_none]
  omega
theorem headW_len {a b : List Nat} (h : a.length = b.length) (h1 : 1 ≤ a.length) : (headW a b).length = a.length := by
  unfold headW cutW
  rw [List.length_append, List.length_take, List.length_drop, List.length_take, List.length_drop, sIx_1, sIx_1, HT.sIx_none, HT.sIx_none]
  omega
structure PrOk (m n : Nat) (p : Rule) : Prop where
  la : p.1.length = n
  lb : p.2.length = n
  a : ∀ x ∈ p.1, x < m
  b : ∀ x ∈ p.2, x < m
theorem PrOk.swap {m n : Nat} {p : Rule} (h : PrOk m n p) : PrOk m n (p.2, p.1) := ⟨h.lb, h.la, h.b, h.a⟩
theorem PrOk.join {m n : Nat} {p : Rule} (h : PrOk m n p) (h1 : 1 ≤ n) : PrOk m n (joinW p.1 p.2, joinW p.2 p.1) :=
  ⟨by rw [joinW_len (h.la.trans h.lb.symm) (by rw [h.la]; exact h1)]; exact h.la, by rw [joinW_len (h.lb.trans h.la.symm) (by rw [h.lb]; exact h1)]; exact h.lb,
    fun x hx => (List.mem_append.mp hx).elim (fun z => h.a x (mem_cutW z)) fun z => h.b x (mem_cutW z), fun x hx => (List.mem_append.mp hx).elim (fun z => h.b x (mem_cutW z)) fun z => h.a x (mem_cutW z)⟩
theorem PrOk.head {m n : Nat} {p : Rule} (h : PrOk m n p) (h1 : 1 ≤ n) : PrOk m n (headW p.2 p.1, headW p.1 p.2) :=
  ⟨by rw [headW_len (h.lb.trans h.la.symm) (by rw [h.lb]; exact h1)]; exact h.lb, by rw [headW_len (h.la.trans h.lb.symm) (by rw [h.la]; exact h1)]; exact h.la,
    fun x hx => (List.mem_append.mp hx).elim (fun z => h.b x (mem_cutW z)) fun z => h.a x (mem_cutW z), fun x hx => (List.mem_append.mp hx).elim (fun z => h.a x (mem_cutW z)) fun z => h.b x (mem_cutW z)⟩
def pw00 (p : Rule) : Rule := if dlt (wd p.1.reverse) (wd p.1) = true then (p.1.reverse, p.1) else (p.1, p.1.reverse)
def pw0 (way : Nat) (p : Rule) : Rule := if way = 0 then pw00 p else p
def pw1 (way : Nat) (o : List Nat) (p : Rule) : Rule := if way = 1 ∧ o.getD (p.1.getLastD 0) 0 < o.getD (p.2.getLastD 0) 0 then (joinW p.1 p.2, joinW p.2 p.1) else p
def pw2 (way : Nat) (o : List Nat) (p : Rule) : Rule := if way = 2 ∧ o.getD (p.1.getD 0 0) 0 < o.getD (p.2.getD 0 0) 0 then (headW p.2 p.1, headW p.1 p.2) else p
def sumO (o l : List Nat) : Int := (l.map fun x => ((o.getD x 0 : Nat) : Int)).sum
def pw3 (way : Nat) (o : List Nat) (p : Rule) : Rule := if way = 3 ∧ sumO o p.1 < sumO o p.2 then (p.2, p.1) else p
def pwF (way : Nat) (o : List Nat) (p : Rule) : Rule := pw3 way o (pw2 way o (pw1 way o (pw0 way p)))
theorem pw0_ok {m n way : Nat} {p : Rule} (h : PrOk m n p) : PrOk m n (pw0 way p) := by
  have q : PrOk m n (p.1, p.1.reverse) := ⟨h.la, by rw [List.length_reverse]; exact h.la, h.a, fun x hx => h.a x (List.mem_reverse.mp hx)⟩
  unfold pw0 pw00
  split
  · split
    · exact q.swap
    · exact q
  · exact h
theorem pw1_ok {m n way : Nat} {o : List Nat} {p : Rule} (h : PrOk m n p) (h1 : 1 ≤ n) : PrOk m n (pw1 way o p) := by
  unfold pw1
  split
  · exact h.join h1
  · exact h
theorem pw2_ok {m n way : Nat} {o : List Nat} {p : Rule} (h : PrOk m n p) (h1 : 1 ≤ n) : PrOk m n (pw2 way o p) := by
  unfold pw2
  split
  · exact h.head h1
  · exact h
theorem pw3_ok {m n way : Nat} {o : List Nat} {p : Rule} (h : PrOk m n p) : PrOk m n (pw3 way o p) := by
  unfold pw3
  split
  · exact h.swap
  · exact h
theorem pwF_ok {m n way : Nat} {o : List Nat} {p : Rule} (h : PrOk m n p) (h1 : 1 ≤ n) : PrOk m n (pwF way o p) := pw3_ok (pw2_ok (pw1_ok (pw0_ok h) h1) h1)
def drawn (ns : List Int) (m n : Nat) (r : RS) : Rule := (letN ns m r n, letN ns m (letGo ns m n r) n)
def bookStep (ns : List Int) (m way long : Nat) (o : List Nat) (x : RS × List Rule) : RS × List Rule :=
  (letGo ns m (1 + (takF ns x.1 long).1) (letGo ns m (1 + (takF ns x.1 long).1) (takF ns x.1 long).2),
    if (pwF way o (drawn ns m (1 + (takF ns x.1 long).1) (takF ns x.1 long).2)).1 ≠ (pwF way o (drawn ns m (1 + (takF ns x.1 long).1) (takF ns x.1 long).2)).2
      then putR x.2 (pwF way o (drawn ns m (1 + (takF ns x.1 long).1) (takF ns x.1 long).2)) else x.2)
def bookGo (ns : List Int) (m way long : Nat) (o : List Nat) (x : RS × List Rule) : Nat → RS × List Rule
  | 0 => x
  | k + 1 => bookStep ns m way long o (bookGo ns m way long o x k)
structure RsOk (m long k : Nat) (rs : List Rule) : Prop where
  nd : rs.Nodup
  few : rs.length ≤ k
  ru : ∀ r ∈ rs, Ru m r ∧ r.1.length ≤ long
theorem putR_len (rs : List Rule) (r : Rule) : (putR rs r).length ≤ rs.length + 1 := by
  unfold putR
  split
  · omega
  · simp
theorem mem_putR {rs : List Rule} {r x : Rule} (h : x ∈ putR rs r) : x ∈ rs ∨ x = r := by
  unfold putR at h
  split at h
  · exact .inl h
  · rcases List.mem_append.mp h with h | h
    · exact .inl h
    · exact .inr (List.mem_singleton.mp h)
theorem bookStep_ok {ns : List Int} {m way long k : Nat} {o : List Nat} {x : RS × List Rule} (m0 : 0 < m) (l1 : 1 ≤ long) (l3 : long ≤ 3) (h : RsOk m long k x.2) : RsOk m long (k + 1) (bookStep ns m way long o x).2 := by
  unfold bookStep
  have hs := takF_lt ns x.1 (m := long) (by omega)
  have hp : PrOk m (1 + (takF ns x.1 long).1) (pwF way o (drawn ns m (1 + (takF ns x.1 long).1) (takF ns x.1 long).2)) := pwF_ok ⟨letN_len .., letN_len .., letN_lt _ m0 _ _, letN_lt _ m0 _ _⟩ (by omega)
  generalize pwF way o (drawn ns m (1 + (takF ns x.1 long).1) (takF ns x.1 long).2) = p at hp
  dsimp only
  split
  · rename_i hne
    refine ⟨nodup_putR p h.nd, Nat.le_trans (putR_len _ _) (Nat.succ_le_succ h.few), fun r hr => ?_⟩
    rcases mem_putR hr with hr | rfl
    · exact h.ru r hr
    · exact ⟨⟨hp.lb.trans hp.la.symm, by rw [hp.la]; omega, by rw [hp.la]; omega, hp.a, hp.b, hne⟩, by rw [hp.la]; omega⟩
  · exact ⟨h.nd, Nat.le_succ_of_le h.few, h.ru⟩
theorem bookGo_ok {ns : List Int} {m way long : Nat} {o : List Nat} {r : RS} (m0 : 0 < m) (l1 : 1 ≤ long) (l3 : long ≤ 3) : ∀ k, RsOk m long k (bookGo ns m way long o (r, []) k).2
  | 0 => ⟨List.nodup_nil, Nat.le_refl _, fun r hr => by cases hr⟩
  | k + 1 => bookStep_ok m0 l1 l3 (bookGo_ok m0 l1 l3 k)
def bookF (ns : List Int) (r : RS) (most long : Nat) : Bk × RS :=
  (bkR (2 + (takF ns r (most - 1)).1) (bookGo ns (2 + (takF ns r (most - 1)).1) (takF ns (takF ns r (most - 1)).2 6).1 long (ordF ns (takF ns (takF ns r (most - 1)).2 6).2 (2 + (takF ns r (most - 1)).1)).1
    ((takF ns (ordF ns (takF ns (takF ns r (most - 1)).2 6).2 (2 + (takF ns r (most - 1)).1)).2 4).2, []) (1 + (takF ns (ordF ns (takF ns (takF ns r (most - 1)).2 6).2 (2 + (takF ns r (most - 1)).1)).2 4).1)).2,
   (bookGo ns (2 + (takF ns r (most - 1)).1) (takF ns (takF ns r (most - 1)).2 6).1 long (ordF ns (takF ns (takF ns r (most - 1)).2 6).2 (2 + (takF ns r (most - 1)).1)).1
    ((takF ns (ordF ns (takF ns (takF ns r (most - 1)).2 6).2 (2 + (takF ns r (most - 1)).1)).2 4).2, []) (1 + (takF ns (ordF ns (takF ns (takF ns r (most - 1)).2 6).2 (2 + (takF ns r (most - 1)).1)).2 4).1)).1)
theorem sum_le {l : List Nat} {k : Nat} (h : ∀ x ∈ l, x ≤ k) : l.sum ≤ k * l.length := by
  induction l with
  | nil => simp
  | cons a l ih =>
    rw [List.sum_cons, List.length_cons, Nat.mul_add, Nat.mul_one]
    have := ih fun x hx => h x (List.mem_cons_of_mem _ hx)
    have := h a List.mem_cons_self
    omega
theorem rsOk_fit {m most long : Nat} {rs : List Rule} (m2 : 2 ≤ m) (mm : m ≤ most) (m3 : most ≤ 3) (l3 : long ≤ 3) (ml : most = 3 → long ≤ 2) (h : RsOk m long 4 rs) : Fit m rs where
  m2 := m2
  m3 := by omega
  nd := h.nd
  few := by have := h.few; omega
  tot := by
    have h1 : (rs.map fun r => r.1.length).sum ≤ 3 * (rs.map fun r => r.1.length).length := sum_le fun x hx => by
      obtain ⟨r, hr, rfl⟩ := List.mem_map.mp hx
      have := (h.ru r hr).2
      omega
    rw [List.length_map] at h1
    have := h.few
    omega
  ru := fun r hr => (h.ru r hr).1
  sm := fun r hr => by
    have h1 := (h.ru r hr).2
    have h2 := (h.ru r hr).1.l1
    have hm : m = 2 ∨ m = 3 := by omega
    rcases hm with rfl | rfl
    · have : 2 ^ (2 * r.1.length - 1) ≤ 2 ^ 5 := Nat.pow_le_pow_right (by omega) (by omega)
      omega
    · have h3 := ml (by omega)
      have : 3 ^ (2 * r.1.length - 1) ≤ 3 ^ 3 := Nat.pow_le_pow_right (by omega) (by omega)
      omega
theorem bookF_ok (ns : List Int) (r : RS) {most long : Nat} (m2 : 2 ≤ most) (m3 : most ≤ 3) (l1 : 1 ≤ long) (l3 : long ≤ 3) (ml : most = 3 → long ≤ 2) : BkS (bookF ns r most long).1 := by
  have h1 := takF_lt ns r (m := most - 1) (by omega)
  have h4 := takF_lt ns (ordF ns (takF ns (takF ns r (most - 1)).2 6).2 (2 + (takF ns r (most - 1)).1)).2 (m := 4) (by omega)
  refine (rsOk_fit (most := most) (long := long) (by omega) (by omega) m3 l3 ml ?_).bkS
  have := bookGo_ok (ns := ns) (m := 2 + (takF ns r (most - 1)).1) (way := (takF ns (takF ns r (most - 1)).2 6).1) (long := long) (o := (ordF ns (takF ns (takF ns r (most - 1)).2 6).2 (2 + (takF ns r (most - 1)).1)).1)
    (r := (takF ns (ordF ns (takF ns (takF ns r (most - 1)).2 6).2 (2 + (takF ns r (most - 1)).1)).2 4).2) (by omega) l1 l3 (1 + (takF ns (ordF ns (takF ns (takF ns r (most - 1)).2 6).2 (2 + (takF ns r (most - 1)).1)).2 4).1)
  exact ⟨this.nd, by have := this.few; omega, this.ru⟩
section
variable {P : Program} {w : World} {K : PySem.W.Frag} {mg : Str → Option Value} {base : Heap}
theorem ev_wdcut {X : Cx} {e : Expr} {lo hi : Option Expr} {ρ ρ1 ρ2 ρ3 : List C} {l : List Nat} {i j : Option Int} {p2 pos : Pos} (h : Ev X e ρ (wd l) ρ1) (hl : EvO X lo ρ1 i ρ2) (hh : EvO X hi ρ2 j ρ3) : Ev X (.Subscript e (.Slice lo hi none p2) pos) ρ (wd (cutW l i j)) ρ3 :=
  ev_eq (ev_sliceT h hl hh) (cut_wd l i j)
theorem bop_wd {X : Cx} {a b : List Nat} (h : a.length + b.length ≤ 100) : Bop X .Add (wd a) (wd b) (wd (a ++ b)) := by
  have := bop_catT (X := X) (xs := a.map nD) (ys := b.map nD) (by rw [List.length_map, List.length_map]; show _ ≤ sizeLine; unfold sizeLine; omega)
  rw [← List.map_append] at this
  exact this
theorem cutW_le (l : List Nat) (i j : Option Int) : (cutW l i j).length ≤ l.length := by
  unfold cutW
  rw [List.length_take, List.length_drop]
  omega
theorem sc__law_book : FnScope ["_law_row", "_law_most", "_law_long", "_law_many", "_law_way", "_law_rules", "_law_order_here", "_law_turn", "_law_size", "_law_left", "_law_right", "_law_one"] ["_law_row", "_law_most", "_law_long"] (defScope s__law_book) := ⟨rfl, rfl, rfl, by decide +kernel, rfl, by decide +kernel, by decide +kernel⟩
def R__law_book (ds0 ds : List D) (d : D) (ds1 : List D) : Prop := ∃ ns r most long, 2 ≤ most ∧ most ≤ 3 ∧ 1 ≤ long ∧ long ≤ 3 ∧ (most = 3 → long ≤ 2) ∧ ds0 = rowQ ns r ∧ ds = [nD most, nD long] ∧ d = bkD (bookF ns r most long).1 ∧ ds1 = rowQ ns (bookF ns r most long).2
theorem ok__law_book (T : Gb K mg) (A : DefAt K mg "_law_book" s__law_book) (G__law_taken : DefOk P w K mg base "_law_taken" 1 ["_law_row", "_law_many"] (spM K R__law_taken)) (G__law_order : DefOk P w K mg base "_law_order" 2 ["_law_row", "_law_many"] (spM K R__law_order)) (G__law_letters : DefOk P w K mg base "_law_letters" 2 ["_law_row", "_law_many", "_law_long"] (spM K R__law_letters)) : DefOk P w K mg base "_law_book" 3 ["_law_row", "_law_most", "_law_long"] (spM K R__law_book) := by
  refine fn_okM A sc__law_book (by decide) (fun _ _ _ _ _ _ us hl => match us, hl with | [_, _, _], _ => rfl) (fun ds0 ds d ds1 h => by obtain ⟨_, _, _, _, _, _, _, _, _, _, rfl, _⟩ := h; rfl) ?_
  intro f cdv A' outer s H E hr q ds0 ds d ds1 ⟨ns, r, most, long, mo2, mo3, l1, l3, ml, e1, e2, e3, e4⟩
  subst e1 e2 e3 e4
  have h1 := takF_lt ns r (m := most - 1) (by omega)
  have BS := bookF_ok ns r mo2 mo3 l1 l3 ml
  unfold bookF at BS ⊢
  generalize hr1 : (takF ns r (most - 1)).2 = r1 at BS
  generalize hm : 2 + (takF ns r (most - 1)).1 = m at BS
  generalize hr2 : (takF ns r1 6).2 = r2 at BS
  generalize hw : (takF ns r1 6).1 = way at BS
  have hpm := ordF_perm ns r2 m
  generalize hr3 : (ordF ns r2 m).2 = r3 at BS
  generalize ho : (ordF ns r2 m).1 = o at BS
  rw [ho] at hpm
  have ol : o.length = m := by rw [hpm.length_eq, List.length_range]
  have h4 := takF_lt ns r3 (m := 4) (by omega)
  generalize hr4 : (takF ns r3 4).2 = r4 at BS
  generalize hk : 1 + (takF ns r3 4).1 = k at BS
  have mm : m ≤ 3 := by omega
  have m2 : 2 ≤ m := by omega
  refine runs_step (run_parC3 3 4 5 (evP_cons (d := nD m) (ev_eq (ev_op ev_int (ev_callM (i := 0) (r := q) (d := nD (takF ns r (most - 1)).1) G__law_taken (hr.mono (by decide)) rfl rfl (.inl rfl) (evA_cons (ev_eq (d' := nD (most - 1)) (ev_op (ev_v (d := nD most) 1 rfl) ev_int bop_sub) (by show D.int _ = D.int _; congr 1; omega)) evA_nil) rfl ⟨ns, r, most - 1, by omega, by omega, rfl, rfl, rfl, rfl⟩) bop_add) (by rw [← hm]; show D.int _ = D.int _; congr 1)) (evP_cons (d := nD way) (ev_callM (i := 0) (r := q) G__law_taken (hr.mono (by decide)) rfl rfl (.inl rfl) (evA_cons ev_int evA_nil) rfl ⟨ns, r1, 6, by omega, by omega, by rw [← hr1], rfl, by rw [← hw], rfl⟩) (evP_consN evN_dictN evP_nil))) rfl sc__law_book.nd rfl rfl rfl (by decide) (by decide) (by decide) rfl rfl rfl (.inr ⟨_, rfl⟩) (.inr ⟨_, rfl⟩) (.inl rfl) (Nat.le_of_ble_eq_true rfl) (Nat.le_of_ble_eq_true rfl) rfl) ?_
  rw [hr2]
  refine runs_set 6 (ev_callM (i := 0) (r := q) (d := nsD o) G__law_order (hr.mono (by decide)) rfl rfl (.inl rfl) (evA_cons (ev_v (d := nD m) 3 rfl) evA_nil) rfl ⟨ns, r2, m, by omega, rfl, rfl, by rw [← ho], rfl⟩) sc__law_book.nd rfl (.inr rfl) ?_
  rw [hr3]
  refine runs_for (List.range k) nD (fun pre ρ => ∃ c7 c8 c9 c10, ρ = [.mr q (rowQ ns (bookGo ns m way long o (r4, []) pre.length).1), .va (nD most), .va (nD long), .va (nD m), .va (nD way), dnC P w (bookGo ns m way long o (r4, []) pre.length).2, .va (nsD o), c7, c8, c9, c10, .un]) .never rfl (itr_range1 (n := k) (ev_eq (ev_op ev_int (ev_callM (i := 0) (r := q) (d := nD (takF ns r3 4).1) G__law_taken (hr.mono (by decide)) rfl rfl (.inl rfl) (evA_cons ev_int evA_nil) rfl ⟨ns, r3, 4, by omega, by omega, rfl, rfl, rfl, rfl⟩) bop_add) (by rw [← hk]; show D.int _ = D.int _; congr 1)) (by omega) rfl T.range) ?_ ?_ ?_
  · rw [hr4]
    exact ⟨.un, .un, .un, .un, rfl⟩
  · rintro pre a post ρ' hl ⟨c7, c8, c9, c10, rfl⟩
    have hpl : pre.length < k := by
      have := congrArg List.length hl
      simp at this
      omega
    have ROk := bookGo_ok (ns := ns) (m := m) (way := way) (long := long) (o := o) (r := r4) (by omega) l1 l3 pre.length
    have fin : bookGo ns m way long o (r4, []) (pre ++ [a]).length = bookStep ns m way long o (bookGo ns m way long o (r4, []) pre.length) := by
      rw [List.length_append]
      rfl
    rw [fin]
    generalize bookGo ns m way long o (r4, []) pre.length = x at ROk
    obtain ⟨rx, rs⟩ := x
    have hsz := takF_lt ns rx (m := long) (by omega)
    unfold bookStep
    dsimp only at ROk ⊢
    generalize hra : (takF ns rx long).2 = ra
    generalize hn : 1 + (takF ns rx long).1 = n
    have n1 : 1 ≤ n := by omega
    have n3 : n ≤ 3 := by omega
    refine ⟨_, _, (tg_name 7 sc__law_book.nd rfl (.inl rfl)), ?_⟩
    refine runs_set 8 (d := nD n) (ev_eq (ev_op ev_int (ev_callM (i := 0) (r := q) (d := nD (takF ns rx long).1) G__law_taken (hr.mono (by decide)) rfl rfl (.inl rfl) (evA_cons (ev_v (d := nD long) 2 rfl) evA_nil) rfl ⟨ns, rx, long, by omega, by omega, rfl, rfl, rfl, rfl⟩) bop_add) (by rw [← hn]; show D.int _ = D.int _; congr 1)) sc__law_book.nd rfl (.inl rfl) ?_
    rw [hra]
    refine runs_step (run_par 9 10 (evA_cons (ev_callM (i := 0) (r := q) (d := wd (letN ns m ra n)) G__law_letters (hr.mono (by decide)) rfl rfl (.inl rfl) (evA_cons (ev_v (d := nD m) 3 rfl) (evA_cons (ev_v (d := nD n) 8 rfl) evA_nil)) rfl ⟨ns, ra, m, n, by omega, by omega, by omega, rfl, rfl, rfl, rfl⟩) (evA_cons (ev_callM (i := 0) (r := q) (d := wd (letN ns m (letGo ns m n ra) n)) G__law_letters (hr.mono (by decide)) rfl rfl (.inl rfl) (evA_cons (ev_v (d := nD m) 3 rfl) (evA_cons (ev_v (d := nD n) 8 rfl) evA_nil)) rfl ⟨ns, letGo ns m n ra, m, n, by omega, by omega, by omega, rfl, rfl, rfl, rfl⟩) evA_nil)) rfl sc__law_book.nd rfl rfl (by decide) rfl rfl rfl) ?_
    have P0 : PrOk m n (drawn ns m n ra) := ⟨letN_len .., letN_len .., letN_lt _ (by omega) _ _, letN_lt _ (by omega) _ _⟩
    generalize hrz : letGo ns m n (letGo ns m n ra) = rz
    unfold pwF
    have hd1 : (drawn ns m n ra).1 = letN ns m ra n := rfl
    have hd2 : (drawn ns m n ra).2 = letN ns m (letGo ns m n ra) n := rfl
    rw [← hd1, ← hd2]
    generalize drawn ns m n ra = p at P0
    clear hd1 hd2
    refine runs_step (ρ1 := [.mr q (rowQ ns rz), .va (nD most), .va (nD long), .va (nD m), .va (nD way), dnC P w rs, .va (nsD o), .va (nD a), .va (nD n), .va (wd (pw0 way p).1), .va (wd (pw0 way p).2), .un]) (run_if (evB_cmp (ev_v (d := nD way) 4 rfl) ev_int cop_eqI) (fun hb => ?_) (fun hb => ?_)) ?_
    · have hw0 : way = 0 := by
        have := of_decide_eq_true hb
        omega
      refine runs_set 10 (d := wd p.1.reverse) (ev_eq (ev_revT (ds := p.1.map nD) (ev_v (d := wd p.1) 9 rfl)) (by unfold wd; rw [List.map_reverse])) sc__law_book.nd rfl (.inl rfl) ?_
      refine runs_step (run_if (evB_cmp (ev_v (d := wd p.1) 9 rfl) (ev_v (d := wd p.1.reverse) 10 rfl) (cop_gtD (n := 1) hr okn_wd okn_wd (alike_wd _ _) (by intro z; cases z))) (fun hb => ?_) (fun hb => ?_)) (runs_nil rfl)
      · -- _law_left, _law_right = (_law_right, _law_left)
        refine runs_step (run_par 9 10 (evA_cons (ev_v (d := wd p.1.reverse) 10 rfl) (evA_cons (ev_v (d := wd p.1) 9 rfl) evA_nil)) rfl sc__law_book.nd rfl rfl (by decide) rfl rfl rfl) (runs_nil ?_)
        unfold pw0 pw00
        rw [if_pos hw0, if_pos hb]
        rfl
      · refine runs_nil ?_
        unfold pw0 pw00
        rw [if_pos hw0, if_neg (by rw [hb]; decide)]
        rfl
    · refine runs_nil ?_
      have hw0 : ¬ way = 0 := by
        have := of_decide_eq_false hb
        omega
      unfold pw0
      rw [if_neg hw0]
      rfl
    have P1 := pw0_ok (way := way) P0
    generalize pw0 way p = p at P1
    have la := P1.la
    have lb := P1.lb
    have lastm : ∀ l : List Nat, l.length = n → (∀ x ∈ l, x < m) → l.getLastD 0 < m := fun l hll hx => by
      have hne : l ≠ [] := fun z => by
        rw [z] at hll
        simp at hll
        omega
      rw [List.getLastD_eq_getLast?, List.getLast?_eq_some_getLast hne]
      exact hx _ (List.getLast_mem hne)
    refine runs_step (ρ1 := [.mr q (rowQ ns rz), .va (nD most), .va (nD long), .va (nD m), .va (nD way), dnC P w rs, .va (nsD o), .va (nD a), .va (nD n), .va (wd (pw1 way o p).1), .va (wd (pw1 way o p).2), .un]) (run_if (PW.pt (evW_and (evB_cmp (ev_v (d := nD way) 4 rfl) ev_int cop_eqI) fun h => (evW_and1 (evB_cmp (ev_ix (ev_v (d := nsD o) 6 rfl) (ev_ix (ev_v (d := wd p.2) 10 rfl) (ev_neg ev_int) (iop_tup (at_last (d0 := 0) (by omega)))) (iop_lst (at_map (d0 := 0) (by rw [ol]; exact lastm _ lb P1.b)))) (ev_ix (ev_v (d := nsD o) 6 rfl) (ev_ix (ev_v (d := wd p.1) 9 rfl) (ev_neg ev_int) (iop_tup (at_last (d0 := 0) (by omega)))) (iop_lst (at_map (d0 := 0) (by rw [ol]; exact lastm _ la P1.a)))) cop_gt)))) (fun hb => ?_) (fun hb => ?_)) ?_
    · simp only [Bool.and_eq_true, decide_eq_true_eq] at hb
      have c1 := cutW_le p.1
      have c2 := cutW_le p.2
      refine runs_step (run_par 9 10 (evA_cons (ev_op (ev_wdcut (ev_v (d := wd p.1) 9 rfl) evO_none (evO_some (ev_neg ev_int))) (ev_wdcut (ev_v (d := wd p.2) 10 rfl) (evO_some (ev_neg ev_int)) evO_none) (bop_wd (by have := c1 none (some (-1)); have := c2 (some (-1)) none; omega))) (evA_cons (ev_op (ev_wdcut (ev_v (d := wd p.2) 10 rfl) evO_none (evO_some (ev_neg ev_int))) (ev_wdcut (ev_v (d := wd p.1) 9 rfl) (evO_some (ev_neg ev_int)) evO_none) (bop_wd (by have := c2 none (some (-1)); have := c1 (some (-1)) none; omega))) evA_nil)) rfl sc__law_book.nd rfl rfl (by decide) rfl rfl rfl) (runs_nil ?_)
      unfold pw1
      rw [if_pos ⟨by omega, by omega⟩]
      rfl
    · refine runs_nil ?_
      unfold pw1
      rw [if_neg (fun ⟨x, y⟩ => by
        have hb' : (decide ((way : Int) = 1) && decide ((o.getD (p.1.getLastD 0) 0 : Int) < (o.getD (p.2.getLastD 0) 0 : Int))) = false := hb
        rw [decide_eq_true (by omega), decide_eq_true (by omega)] at hb'
        cases hb')]
    have P2 := pw1_ok (way := way) (o := o) P1 n1
    clear la lb P1
    generalize pw1 way o p = p at P2
    have la := P2.la
    have lb := P2.lb
    have atz : ∀ l : List Nat, l.length = n → (∀ x ∈ l, x < m) → l.getD 0 0 < m := fun l hll hx => hx _ (getD_mem (by omega))
    refine runs_step (ρ1 := [.mr q (rowQ ns rz), .va (nD most), .va (nD long), .va (nD m), .va (nD way), dnC P w rs, .va (nsD o), .va (nD a), .va (nD n), .va (wd (pw2 way o p).1), .va (wd (pw2 way o p).2), .un]) (run_if (PW.pt (evW_and (evB_cmp (ev_v (d := nD way) 4 rfl) ev_int cop_eqI) fun h => (evW_and1 (evB_cmp (ev_ix (ev_v (d := nsD o) 6 rfl) (ev_ix (ev_v (d := wd p.2) 10 rfl) ev_int (iop_tup (at_map (i := 0) (d0 := 0) (by omega)))) (iop_lst (at_map (d0 := 0) (by rw [ol]; exact atz _ lb P2.b)))) (ev_ix (ev_v (d := nsD o) 6 rfl) (ev_ix (ev_v (d := wd p.1) 9 rfl) ev_int (iop_tup (at_map (i := 0) (d0 := 0) (by omega)))) (iop_lst (at_map (d0 := 0) (by rw [ol]; exact atz _ la P2.a)))) cop_gt)))) (fun hb => ?_) (fun hb => ?_)) ?_
    · simp only [Bool.and_eq_true, decide_eq_true_eq] at hb
      have c1 := cutW_le p.1
      have c2 := cutW_le p.2
      refine runs_step (run_par 9 10 (evA_cons (ev_op (ev_wdcut (ev_v (d := wd p.2) 10 rfl) evO_none (evO_some ev_int)) (ev_wdcut (ev_v (d := wd p.1) 9 rfl) (evO_some ev_int) evO_none) (bop_wd (by have := c2 none (some 1); have := c1 (some 1) none; omega))) (evA_cons (ev_op (ev_wdcut (ev_v (d := wd p.1) 9 rfl) evO_none (evO_some ev_int)) (ev_wdcut (ev_v (d := wd p.2) 10 rfl) (evO_some ev_int) evO_none) (bop_wd (by have := c1 none (some 1); have := c2 (some 1) none; omega))) evA_nil)) rfl sc__law_book.nd rfl rfl (by decide) rfl rfl rfl) (runs_nil ?_)
      unfold pw2
      rw [if_pos ⟨by omega, by omega⟩]
      rfl
    · refine runs_nil ?_
      unfold pw2
      rw [if_neg (fun ⟨x, y⟩ => by
        have hb' : (decide ((way : Int) = 2) && decide ((o.getD (p.1.getD 0 0) 0 : Int) < (o.getD (p.2.getD 0 0) 0 : Int))) = false := hb
        rw [decide_eq_true (by omega), decide_eq_true (by omega)] at hb'
        cases hb')]
    have P3 := pw2_ok (way := way) (o := o) P2 n1
    clear la lb P2
    generalize pw2 way o p = p at P3
    have la := P3.la
    have lb := P3.lb
    have sums : ∀ l : List Nat, (l.map fun x => nD (o.getD x 0)) = ((l.map fun x => ((o.getD x 0 : Nat) : Int)).map D.int) := fun l => by
      rw [List.map_map]
      rfl
    refine runs_step (ρ1 := [.mr q (rowQ ns rz), .va (nD most), .va (nD long), .va (nD m), .va (nD way), dnC P w rs, .va (nsD o), .va (nD a), .va (nD n), .va (wd (pw3 way o p).1), .va (wd (pw3 way o p).2), .un]) (run_if (PW.pt (evW_and (evB_cmp (ev_v (d := nD way) 4 rfl) ev_int cop_eqI) fun h => (evW_and1 (evB_cmp (ev_sum (ns := p.2.map fun x => ((o.getD x 0 : Nat) : Int)) (ev_eq (ev_of_new (evN_map1 p.2 nD (fun x => nD (o.getD x 0)) 11 rfl sc__law_book.nd (itr_tup (ev_v (d := wd p.2) 10 rfl)) (blkOk_by rfl) (by show _ < sizeLine; unfold sizeLine; omega) rfl rfl (fun x hx X' hX => by obtain ⟨_, _, _, _, _, rfl⟩ := hX; exact (ev_ix (ev_v (d := nsD o) 6 rfl) (ev_v (d := nD x) 11 rfl) (iop_lst (at_map (d0 := 0) (by have := P3.b x hx; omega))))) (by rintro _ ⟨⟩; rfl))) (congrArg D.lst (sums p.2))) rfl rfl T.sum) (ev_sum (ns := p.1.map fun x => ((o.getD x 0 : Nat) : Int)) (ev_eq (ev_of_new (evN_map1 p.1 nD (fun x => nD (o.getD x 0)) 11 rfl sc__law_book.nd (itr_tup (ev_v (d := wd p.1) 9 rfl)) (blkOk_by rfl) (by show _ < sizeLine; unfold sizeLine; omega) rfl rfl (fun x hx X' hX => by obtain ⟨_, _, _, _, _, rfl⟩ := hX; exact (ev_ix (ev_v (d := nsD o) 6 rfl) (ev_v (d := nD x) 11 rfl) (iop_lst (at_map (d0 := 0) (by have := P3.a x hx; omega))))) (by rintro _ ⟨⟩; rfl))) (congrArg D.lst (sums p.1))) rfl rfl T.sum) cop_gt)))) (fun hb => ?_) (fun hb => ?_)) ?_
    · simp only [Bool.and_eq_true, decide_eq_true_eq] at hb
      refine runs_step (run_par 9 10 (evA_cons (ev_v (d := wd p.2) 10 rfl) (evA_cons (ev_v (d := wd p.1) 9 rfl) evA_nil)) rfl sc__law_book.nd rfl rfl (by decide) rfl rfl rfl) (runs_nil ?_)
      unfold pw3
      rw [if_pos ⟨by omega, hb.2⟩]
      rfl
    · refine runs_nil ?_
      unfold pw3
      rw [if_neg (fun ⟨x, y⟩ => by
        have hb' : (decide ((way : Int) = 3) && decide (sumO o p.1 < sumO o p.2)) = false := hb
        rw [decide_eq_true (by omega), decide_eq_true y] at hb'
        cases hb')]
    have P4 := pw3_ok (way := way) (o := o) P3
    clear la lb P3
    generalize pw3 way o p = p at P4
    refine runs_step (ρ1 := [.mr q (rowQ ns rz), .va (nD most), .va (nD long), .va (nD m), .va (nD way), dnC P w (if p.1 ≠ p.2 then putR rs p else rs), .va (nsD o), .va (nD a), .va (nD n), .va (wd p.1), .va (wd p.2), .un]) (run_if (evB_cmp (ev_v (d := wd p.1) 9 rfl) (ev_v (d := wd p.2) 10 rfl) (cop_neD (n := 1) hr okn_wd okn_wd)) (fun hb => ?_) (fun hb => ?_)) (runs_nil ⟨_, _, _, _, rfl⟩)
    · have hne : p.1 ≠ p.2 := fun e => by
        rw [beq_dec (n := 1) (fun _ => okn_wd) (fun _ _ => wd_inj) p.1 p.2, decide_eq_true e] at hb
        cases hb
      refine runs_step (run_putN 5 hr rfl (.inl rfl) (r := p) (ev_tup (evA_cons (ev_v (d := wd p.1) 9 rfl) (evA_cons (ev_v (d := wd p.2) 10 rfl) evA_nil))) rfl rfl ROk.nd (by have := ROk.few; show _ ≤ sizeLine; unfold sizeLine; omega)) (runs_nil ?_)
      rw [if_pos hne]
      rfl
    · refine runs_nil ?_
      have he : p.1 = p.2 := by
        rw [beq_dec (n := 1) (fun _ => okn_wd) (fun _ _ => wd_inj) p.1 p.2] at hb
        cases z : decide (p.1 = p.2) with
        | true => exact of_decide_eq_true z
        | false =>
          rw [z] at hb
          cases hb
      rw [if_neg (fun z => z he)]
  · rintro ρ' ⟨c7, c8, c9, c10, rfl⟩
    rw [List.length_range]
    have FF := (bookGo_ok (ns := ns) (m := m) (way := way) (long := long) (o := o) (r := r4) (by omega) l1 l3 k)
    generalize bookGo ns m way long o (r4, []) k = x at BS FF
    refine runs_ret (ev_eq (d' := bkD (bkR m x.2)) (ev_tup (evA_cons (ev_v (d := nD m) 3 rfl) (evA_cons (ev_tupleL (ev_of_new (evN_sortedKeysN 5 rfl (by have := FF.few; show _ ≤ sizeLine; unfold sizeLine; omega) rfl (room100 hr) (srtb_of (n := 2) (fun _ => okn_ruD) alike_ruD (fun r _ => ⟨_, _, rfl⟩)) rfl T.sorted)) rfl T.tuple) evA_nil))) ?_) (rtM rfl rfl)
    show D.tup [nD m, D.tup ((List.map ruD x.2).mergeSort dle)] = bkD (bkR m x.2)
    rw [sortBy_map]
    rfl
end
end K8
/-! The law's own steps: _law_steps. -/
namespace K8
open PySem PySem.Spec PyProof.Rows L2
theorem cutW_to (l : List Nat) (r : Nat) : cutW l none (some (r : Int)) = l.take r := by
  unfold cutW
  rw [HT.sIx_none, HT.sIx_nat, List.drop_zero, Nat.sub_zero]
  by_cases h : r ≤ l.length
  · rw [Nat.min_eq_left h]
  · rw [Nat.min_eq_right (by omega), List.take_length, List.take_of_length_le (by omega)]
theorem cutW_from (l : List Nat) (r : Nat) : cutW l (some (r : Int)) none = l.drop r := by
  unfold cutW
  rw [HT.sIx_none, HT.sIx_nat]
  by_cases h : r ≤ l.length
  · rw [Nat.min_eq_left h, List.take_of_length_le (by rw [List.length_drop]; omega)]
  · rw [Nat.min_eq_right (by omega), List.drop_length, List.drop_of_length_le (by omega), List.take_nil]
theorem zip_snoc {a : Nat} : ∀ {line right : List Nat}, line.length < right.length → (line ++ [a]).zip right = line.zip right ++ [(a, right.getD line.length 0)]
  | [], [], h => by simp at h
  | [], y :: r, h => by simp
  | x :: l, [], h => by simp at h
  | x :: l, y :: r, h => by
    have ih := zip_snoc (a := a) (line := l) (right := r) (by simpa using h)
    rw [List.cons_append, List.zip_cons_cons, List.zip_cons_cons, ih]
    rfl
theorem writeAt_snoc {u line right : List Nat} {a : Nat} (h : line.length < right.length) : writeAt u (line ++ [a]) right = (writeAt u line right).set a (right.getD line.length 0) := by
  unfold writeAt
  rw [zip_snoc h, List.foldl_append]
  rfl
theorem map_snoc1 {α β : Type} (f : α → β) (L : List α) (x : α) : (L ++ [x]).map f = L.map f ++ [f x] := by simp
def rowE (u right line : List Nat) : D := .tup [wd line, wd (writeAt u line right)]
theorem wd_app (a b : List Nat) : D.tup (a.map nD ++ b.map nD) = wd (a ++ b) := by
  unfold wd
  rw [List.map_append]
section
variable {P : Program} {w : World} {K : PySem.W.Frag} {mg : Str → Option Value} {base : Heap}
theorem sc__law_steps : FnScope ["_law_book_here", "_law_word", "_law_found", "_law_left", "_law_right", "_law_rows", "_law_k", "_law_more", "_law_line", "_law_here", "_law_at"] ["_law_book_here", "_law_word"] (defScope s__law_steps) := ⟨rfl, rfl, rfl, by decide +kernel, rfl, by decide +kernel, by decide +kernel⟩
def R__law_steps (ds : List D) (d : D) : Prop := ∃ b u, BkOk b ∧ 1 ≤ u.length ∧ u.length ≤ 20 ∧ ds = [bkD b, wd u] ∧ d = .lst ((stepsF b u).map wd)
theorem ok__law_steps (T : Gb K mg) (A : DefAt K mg "_law_steps" s__law_steps) : DefOk P w K mg base "_law_steps" 1 ["_law_book_here", "_law_word"] (spD K R__law_steps) := by
  refine fn_ok A sc__law_steps (by decide) (fun _ _ _ _ _ _ us hl => match us, hl with | [_, _], _ => rfl) (fun ds d h => by obtain ⟨_, _, _, _, _, rfl, _⟩ := h; rfl) ?_
  intro f cdv A' outer s H E hr ds d ⟨b, u, B, hu1, hu, e1, e2⟩
  subst e1 e2
  have few := B.few
  refine runs_setN 2 evN_dict rfl sc__law_steps.nd rfl (.inl rfl) ?_
  refine runs_for b.rs ruD (fun pre ρ => ∃ c3 c4 c5 c6 c7 c8 c9 c10, ρ = [.va (bkD b), .va (wd u), .md ((keysN (stepsL pre u)).map wi) ((keysN (stepsL pre u)).map fun _ => .bl true), c3, c4, c5, c6, c7, c8, c9, c10]) .never rfl (itr_tup (ds := b.rs.map ruD) (ev_ix (d := .tup (b.rs.map ruD)) (ev_v 0 rfl) ev_int (iop_tup rfl))) ⟨.un, .un, .un, .un, .un, .un, .un, .un, rfl⟩ ?_ ?_
  · rintro pre r post ρ' hl ⟨c3, c4, c5, c6, c7, c8, c9, c10, rfl⟩
    have hmem : r ∈ b.rs := by rw [hl]; simp
    have U := B.ru r hmem
    have U1 := U.l3
    have U2 := U.len
    have small1 := stepsL_small B hu pre fun s hs => by rw [hl]; simp [hs]
    have hpl : pre.length ≤ 12 := by
      rw [hl] at few
      simp at few
      omega
    have small2 := spots_small U1 hu
    have small3 : (keysN (stepsL pre u)).length ≤ 96000 := by
      have := length_foldl_putN (stepsL pre u) []
      simp at this
      unfold keysN
      omega
    generalize hkp : (.md ((keysN (stepsL pre u)).map wi) ((keysN (stepsL pre u)).map fun _ => .bl true) : C) = cf
    refine ⟨_, _, (tg_tup rfl (tgs_cons (tg_name 3 sc__law_steps.nd rfl (.inl rfl)) (tgs_cons (tg_name 4 sc__law_steps.nd rfl (.inl rfl)) tgs_nil))), ?_⟩
    refine runs_set 5 (d := .lst ((spotsF [] u).map (rowE u r.2))) (ev_lst (evA_cons (ev_tup (evA_cons (ev_tup evA_nil) (evA_cons (ev_v (d := wd u) 1 rfl) evA_nil))) evA_nil)) sc__law_steps.nd rfl (.inl rfl) ?_
    refine runs_for (List.range r.1.length) nD (fun pk ρ => ∃ c6 c7 c8 c9 c10, ρ = [.va (bkD b), .va (wd u), cf, .va (wd r.1), .va (wd r.2), .va (.lst ((spotsF (r.1.take pk.length) u).map (rowE u r.2))), c6, c7, c8, c9, c10]) .never rfl (itr_range1 (n := r.1.length) (ev_len (ev_v (d := wd r.1) 3 rfl) (by simp [LenD, wd]) rfl T.len) (by omega) rfl T.range) ⟨c6, c7, c8, c9, c10, rfl⟩ ?_ ?_
    · rintro pk k post2 ρ' hlk ⟨c6, c7, c8, c9, c10, rfl⟩
      have hk := (range_split hlk).1.symm
      have hkl : k < r.1.length := List.mem_range.mp (by rw [hlk]; simp)
      rw [hk]
      have tkl : (r.1.take k).length = k := by rw [List.length_take]; omega
      have hpre : (r.1.take k).length + 1 ≤ 3 := by omega
      have bound : ∀ q : List (List Nat), q.length ≤ (spotsF (r.1.take k) u).length → (q.flatMap (spotLine u (r.1.getD k 0))).length ≤ 8000 := fun q hq => by
        refine Nat.le_trans (flatMap_length (fun a => spotLine_length u (r.1.getD k 0) a) q) ?_
        have := spotsF_length u _ (r.1.take k) rfl
        refine Nat.le_trans (Nat.mul_le_mul (Nat.le_trans hq this) hu) ?_
        refine Nat.le_trans (Nat.mul_le_mul_right _ (Nat.pow_le_pow_left hu _)) ?_
        rw [← Nat.pow_succ]
        exact Nat.le_trans (Nat.pow_le_pow_right (by decide) hpre) (by decide)
      refine ⟨_, _, (tg_name 6 sc__law_steps.nd rfl (.inl rfl)), ?_⟩
      refine runs_setN 7 (evN_lst evA_nil) rfl sc__law_steps.nd rfl (.inl rfl) ?_
      refine runs_for (spotsF (r.1.take k) u) (rowE u r.2) (fun q ρ => ∃ c8 c9 c10, ρ = [.va (bkD b), .va (wd u), cf, .va (wd r.1), .va (wd r.2), .va (.lst ((spotsF (r.1.take k) u).map (rowE u r.2))), .va (nD k), .ml ((q.flatMap (spotLine u (r.1.getD k 0))).map (rowE u r.2)), c8, c9, c10]) .never rfl (itr_lst (ev_v (d := .lst ((spotsF (r.1.take k) u).map (rowE u r.2))) 5 rfl)) ⟨c8, c9, c10, rfl⟩ ?_ ?_
      · rintro q line rest ρ' hl2 ⟨c8, c9, c10, rfl⟩
        have hq : q.length + 1 ≤ (spotsF (r.1.take k) u).length := by
          rw [hl2]
          simp
        have sp : IsSpot (r.1.take k) u line := (mem_spots rfl).mp (by rw [hl2]; simp)
        have hfirst := firstOf_le sp.inb
        have hll := sp.len
        rw [tkl] at hll
        have hwl : (writeAt u line r.2).length = u.length := writeAt_length u (line.zip r.2)
        generalize hfo : firstOf line = fo at hfirst
        have hb0 := bound q (by omega)
        generalize hacc : q.flatMap (spotLine u (r.1.getD k 0)) = acc at hb0
        refine ⟨_, _, (tg_tup rfl (tgs_cons (tg_name 8 sc__law_steps.nd rfl (.inl rfl)) (tgs_cons (tg_name 9 sc__law_steps.nd rfl (.inl rfl)) tgs_nil))), ?_⟩
        refine runs_for (List.range (u.length - fo)) (fun i => nD (fo + i)) (fun pa ρ => ∃ c10, ρ = [.va (bkD b), .va (wd u), cf, .va (wd r.1), .va (wd r.2), .va (.lst ((spotsF (r.1.take k) u).map (rowE u r.2))), .va (nD k), .ml ((acc ++ (pa.filter fun i => decide (u.getD (fo + i) 0 = r.1.getD k 0)).map fun i => line ++ [fo + i]).map (rowE u r.2)), .va (wd line), .va (wd (writeAt u line r.2)), c10]) .never rfl (itr_range2 (m := fo) (n := u.length) (ev_ifexpP (d := nD fo) (evB_cmp (ev_v (d := wd line) 8 rfl) (ev_tup evA_nil) (cop_neD (n := 1) hr okn_wd (okn_tup (by intro x hx; cases hx)))) (fun h => ?_) (fun h => ?_)) (ev_len (n := u.length) (ev_v (d := wd u) 1 rfl) (by simp [LenD, wd]) rfl T.len) (by omega) (by omega) rfl T.range) ?_ ?_ ?_
        · have hne : line ≠ [] := by
            rw [show wd line = .tup (line.map nD) from rfl, beq_nilT _ 0 (okn_map fun _ => okn_nD)] at h
            intro z
            rw [z] at h
            cases h
          rw [← hfo]
          unfold firstOf
          rw [if_neg hne]
          exact ev_op (ev_ix (ev_v (d := wd line) 8 rfl) (ev_neg ev_int) (iop_tup (at_last (d0 := 0) (List.length_pos_iff.mpr hne)))) ev_int bop_add
        · have hne : line = [] := by
            rw [show wd line = .tup (line.map nD) from rfl, beq_nilT _ 0 (okn_map fun _ => okn_nD)] at h
            simpa using h
          rw [← hfo]
          unfold firstOf
          rw [if_pos hne]
          exact ev_int
        · exact ⟨c10, by simp [rowE]⟩
        · rintro pa i post3 ρ' hl3 ⟨c10, rfl⟩
          have hi : i < u.length - fo := List.mem_range.mp (by rw [hl3]; simp)
          have hpa : pa.length ≤ 20 := by
            have := congrArg List.length hl3
            simp at this
            omega
          have hfl := List.length_filter_le (fun i => decide (u.getD (fo + i) 0 = r.1.getD k 0)) pa
          refine ⟨_, _, (tg_name 10 sc__law_steps.nd rfl (.inl rfl)), ?_⟩
          refine runs_step (ρ1 := [.va (bkD b), .va (wd u), cf, .va (wd r.1), .va (wd r.2), .va (.lst ((spotsF (r.1.take k) u).map (rowE u r.2))), .va (nD k), .ml ((acc ++ ((pa ++ [i]).filter fun i => decide (u.getD (fo + i) 0 = r.1.getD k 0)).map fun i => line ++ [fo + i]).map (rowE u r.2)), .va (wd line), .va (wd (writeAt u line r.2)), .va (nD (fo + i))]) (run_if (evB_cmp (ev_ix (ev_v (d := wd u) 1 rfl) (ev_v (d := nD (fo + i)) 10 rfl) (at_wd (by omega))) (ev_ix (ev_v (d := wd r.1) 3 rfl) (ev_v (d := nD k) 6 rfl) (at_wd hkl)) cop_eqI) (fun hb => ?_) (fun hb => ?_)) (runs_nil ⟨_, rfl⟩)
          · have hx : u.getD (fo + i) 0 = r.1.getD k 0 := by
              have := of_decide_eq_true hb
              omega
            refine runs_step (run_app 7 rfl (.inl rfl) (d := rowE u r.2 (line ++ [fo + i])) (ev_eq (ev_tup (evA_cons (ev_op (ev_v (d := wd line) 8 rfl) (ev_tup (evA_cons (ev_v (d := nD (fo + i)) 10 rfl) evA_nil)) (bop_wd (b := [fo + i]) (by simp; omega))) (evA_cons (ev_op (ev_op (ev_wdcut (ev_v (d := wd (writeAt u line r.2)) 9 rfl) evO_none (evO_some (ev_v (d := nD (fo + i)) 10 rfl))) (ev_tup (evA_cons (ev_ix (ev_v (d := wd r.2) 4 rfl) (ev_v (d := nD k) 6 rfl) (at_wd (by omega))) evA_nil)) (bop_wd (b := [r.2.getD k 0]) ?_)) (ev_wdcut (ev_v (d := wd (writeAt u line r.2)) 9 rfl) (evO_some (ev_eq (d' := nD (fo + i + 1)) (ev_op (ev_v (d := nD (fo + i)) 10 rfl) ev_int bop_add) rfl)) evO_none) (bop_wd ?_)) evA_nil))) ?_) rfl (by intro h; cases h) rfl rfl ?_) (runs_nil ?_)
            · have := cutW_le (writeAt u line r.2) none (some ((fo + i : Nat) : Int))
              simp only [List.length_singleton]
              omega
            · have := cutW_le (writeAt u line r.2) none (some ((fo + i : Nat) : Int))
              have := cutW_le (writeAt u line r.2) (some ((fo + i + 1 : Nat) : Int)) none
              rw [List.length_append]
              simp only [List.length_singleton]
              omega
            · unfold rowE
              rw [writeAt_snoc (by omega), hll, cutW_to, cutW_from, List.set_eq_take_append_cons_drop, if_pos (by omega)]
              simp
            · rw [List.length_map, List.length_append, List.length_map]
              show _ < sizeLine
              unfold sizeLine
              omega
            · rw [List.filter_append, List.filter_cons, if_pos (decide_eq_true hx), List.filter_nil, map_snoc1 (fun i => line ++ [fo + i]), ← List.append_assoc, map_snoc1 (rowE u r.2)]
              rfl
          · have hx : ¬ u.getD (fo + i) 0 = r.1.getD k 0 := by
              have := of_decide_eq_false hb
              omega
            refine runs_nil ?_
            rw [List.filter_append, List.filter_cons, if_neg (by rw [decide_eq_false hx]; decide), List.filter_nil, List.append_nil]
            rfl
        · rintro ρ' ⟨c10, rfl⟩
          refine runs_nil ⟨.va (wd line), .va (wd (writeAt u line r.2)), c10, ?_⟩
          rw [List.flatMap_append, hacc, List.flatMap_cons, List.flatMap_nil, List.append_nil]
          unfold spotLine
          rw [hfo]
      · rintro ρ' ⟨c8, c9, c10, rfl⟩
        refine runs_set 5 (ev_vF 7 rfl) sc__law_steps.nd rfl (.inl rfl) (runs_nil ⟨.va (nD k), .va (.lst (((spotsF (r.1.take k) u).flatMap (spotLine u (r.1.getD k 0))).map (rowE u r.2))), c8, c9, c10, ?_⟩)
        have e : r.1.take (pk ++ [k]).length = r.1.take k ++ [r.1.getD k 0] := by
          rw [List.length_append, List.length_singleton, hk, List.take_succ, List.getElem?_eq_getElem hkl, List.getD_eq_getElem?_getD, List.getElem?_eq_getElem hkl]
          rfl
        rw [e, spotsF_snoc]
        rfl
    · rintro ρ' ⟨c6, c7, c8, c9, c10, rfl⟩
      rw [List.length_range, List.take_length]
      subst hkp
      refine runs_for (spotsF r.1 u) (rowE u r.2) (fun q ρ => ∃ c8 c9, ρ = [.va (bkD b), .va (wd u), .md (((q.map fun line => writeAt u line r.2).foldl putN (keysN (stepsL pre u))).map wi) (((q.map fun line => writeAt u line r.2).foldl putN (keysN (stepsL pre u))).map fun _ => .bl true), .va (wd r.1), .va (wd r.2), .va (.lst ((spotsF r.1 u).map (rowE u r.2))), c6, c7, c8, c9, c10]) .never rfl (itr_lst (ev_v (d := .lst ((spotsF r.1 u).map (rowE u r.2))) 5 rfl)) ⟨c8, c9, rfl⟩ ?_ ?_
      · rintro q line rest ρ' hl2 ⟨c8, c9, rfl⟩
        have hq : q.length ≤ 8000 := by
          rw [hl2] at small2
          simp at small2
          omega
        have small4 := length_foldl_putN (q.map fun line => writeAt u line r.2) (keysN (stepsL pre u))
        rw [List.length_map] at small4
        generalize hK : (q.map fun line => writeAt u line r.2).foldl putN (keysN (stepsL pre u)) = ks at *
        refine ⟨_, _, (tg_tup rfl (tgs_cons (tg_name 8 sc__law_steps.nd rfl (.inl rfl)) (tgs_cons (tg_name 9 sc__law_steps.nd rfl (.inl rfl)) tgs_nil))), ?_⟩
        refine runs_step (run_put (ρ3 := []) 2 hr rfl (.inl rfl) ev_bl (ev_eq (ev_v (d := wd (writeAt u line r.2)) 9 rfl) (wd_key (writeAt u line r.2))) rfl rfl (by rw [List.length_map]; show _ < sizeLine; unfold sizeLine; omega)) ?_
        refine runs_nil ⟨.va (wd line), .va (wd (writeAt u line r.2)), ?_⟩
        have e : ((q ++ [line]).map fun line => writeAt u line r.2).foldl putN (keysN (stepsL pre u)) = putN ks (writeAt u line r.2) := by
          rw [List.map_append, List.foldl_append, hK]
          rfl
        rw [e, ← dputK_wi, ← dputV_tt]
        rfl
      rintro ρ' ⟨c8, c9, rfl⟩
      refine runs_nil ⟨.va (wd r.1), .va (wd r.2), .va (.lst ((spotsF r.1 u).map (rowE u r.2))), c6, c7, c8, c9, c10, ?_⟩
      have e : keysN (stepsL (pre ++ [r]) u) = ((spotsF r.1 u).map fun line => writeAt u line r.2).foldl putN (keysN (stepsL pre u)) := by
        unfold keysN stepsL
        rw [List.flatMap_append, List.foldl_append, List.flatMap_cons, List.flatMap_nil, List.append_nil]
      rw [e]
  rintro ρ' ⟨c3, c4, c5, c6, c7, c8, c9, c10, rfl⟩
  have ek : ((keysN (stepsL b.rs u)).map wi).map wdI = (keysN (stepsL b.rs u)).map wd := by
    rw [List.map_map]
    exact List.map_congr_left fun v _ => (wd_wi v).symm
  refine runs_ret (ev_of_new (evN_sortedKeysO 2 rfl rfl (room100 hr) (by
    rw [ek]
    refine srtb_of (enc := wd) (n := 1) (fun _ => okn_wd) alike_wd fun v hv => ?_
    have hs := mem_stepsL.mp (mem_keysN.mp hv)
    obtain ⟨r, _, line, _, rfl⟩ := hs
    have hl := writeAt_length u (line.zip r.2)
    change (writeAt u line r.2).length = u.length at hl
    cases hz : writeAt u line r.2 with
    | nil =>
      rw [hz] at hl
      simp at hl
      omega
    | cons x xs => exact ⟨nD x, xs.map nD, rfl⟩) rfl T.sorted)) (rt_eq ?_)
  rw [ek, sortBy_map]
  rfl
end
end K8
/-! The law's walk over all words that are met: _law_walk, _law_last_ones. -/
namespace K8
open PySem PySem.Spec PyProof.Rows L2
def walkGo (b : Bk) : Nat → List (List Nat) → List (List Nat) → List (List Nat)
  | 0, ks, _ => ks
  | _ + 1, ks, [] => ks
  | n + 1, ks, v :: rows => if v ∈ ks then walkGo b n ks rows else walkGo b n (ks ++ [v]) (rows ++ stepsF b v)
theorem walkGo_nil (b : Bk) (n : Nat) (ks : List (List Nat)) : walkGo b n ks [] = ks := by cases n <;> rfl
structure WI (b : Bk) (u : List Nat) (ks rows : List (List Nat)) : Prop where
  nd : ks.Nodup
  kin : ∀ v ∈ ks, Star b u v
  rin : ∀ v ∈ rows, Star b u v
  cl : ∀ v ∈ ks, ∀ x, Step b.rs v x → x ∈ ks ∨ x ∈ rows
  root : u ∈ ks ∨ u ∈ rows
def muW (N : Nat) (ks rows : List (List Nat)) : Nat := (N - ks.length) * (N + 1) + rows.length
section
variable {b : Bk} {u : List Nat} {ks rows : List (List Nat)}
theorem star_mem (B : BkOk b) (hu : WdOk b u) {v : List Nat} (h : Star b u v) : v ∈ allW b.m u.length := mem_allW.mpr ⟨h.len B, h.ok B hu⟩
theorem WI.few (B : BkOk b) (hu : WdOk b u) (h : WI b u ks rows) : ks.length ≤ b.m ^ u.length := few_words h.nd fun v hv => star_mem B hu (h.kin v hv)
theorem steps_few (B : BkOk b) (hu : WdOk b u) {v : List Nat} (h : Star b u v) : (stepsF b v).length ≤ b.m ^ u.length :=
  few_words (nodup_stepsF b v) fun x hx => star_mem B hu (h.trans (.head (mem_stepsF.mp hx) .refl))
theorem WI.old {v : List Nat} (h : WI b u ks (v :: rows)) (hv : v ∈ ks) : WI b u ks rows where
  nd := h.nd
  kin := h.kin
  rin := fun x hx => h.rin x (List.mem_cons_of_mem _ hx)
  cl := fun y hy x s => (h.cl y hy x s).elim .inl fun z => (List.mem_cons.mp z).elim (fun e => .inl (e ▸ hv)) .inr
  root := h.root.elim .inl fun z => (List.mem_cons.mp z).elim (fun e => .inl (e ▸ hv)) .inr
theorem WI.new {v : List Nat} (h : WI b u ks (v :: rows)) (hv : v ∉ ks) : WI b u (ks ++ [v]) (rows ++ stepsF b v) where
  nd := by
    rw [List.nodup_append]
    refine ⟨h.nd, List.nodup_cons.mpr ⟨by simp, List.nodup_nil⟩, fun a ha c hc e => ?_⟩
    rw [List.mem_singleton.mp hc] at e
    subst e
    exact hv ha
  kin := fun x hx => (List.mem_append.mp hx).elim (h.kin x) fun z => List.mem_singleton.mp z ▸ h.rin v List.mem_cons_self
  rin := fun x hx => (List.mem_append.mp hx).elim (fun z => h.rin x (List.mem_cons_of_mem _ z)) fun z => (h.rin v List.mem_cons_self).trans (.head (mem_stepsF.mp z) .refl)
  cl := fun y hy x s => by
    rcases List.mem_append.mp hy with hy | hy
    · rcases h.cl y hy x s with z | z
      · exact .inl (List.mem_append_left _ z)
      · rcases List.mem_cons.mp z with e | z
        · exact .inl (List.mem_append_right _ (by simp [e]))
        · exact .inr (List.mem_append_left _ z)
    · rw [List.mem_singleton.mp hy] at s
      exact .inr (List.mem_append_right _ (mem_stepsF.mpr s))
  root := h.root.elim (fun z => .inl (List.mem_append_left _ z)) fun z => (List.mem_cons.mp z).elim (fun e => .inl (List.mem_append_right _ (by simp [e]))) fun z => .inr (List.mem_append_left _ z)
theorem muW_new {N : Nat} {v : List Nat} {s : List (List Nat)} (hk : ks.length + 1 ≤ N) (hs : s.length ≤ N) : muW N (ks ++ [v]) (rows ++ s) < muW N ks (v :: rows) := by
  unfold muW
  rw [List.length_append, List.length_append, List.length_singleton, List.length_cons]
  obtain ⟨j, hj⟩ : ∃ j, N - ks.length = j + 1 := ⟨N - ks.length - 1, by omega⟩
  have hj2 : N - (ks.length + 1) = j := by omega
  rw [hj, hj2, Nat.add_mul, Nat.one_mul]
  omega
theorem walkGo_fin (B : BkOk b) (hu : WdOk b u) : ∀ (n : Nat) (ks rows : List (List Nat)), WI b u ks rows → muW (b.m ^ u.length) ks rows ≤ n → WI b u (walkGo b n ks rows) []
  | 0, ks, rows, h, hm => by
    have : rows = [] := List.length_eq_zero_iff.mp (by unfold muW at hm; omega)
    subst this
    exact h
  | n + 1, ks, [], h, hm => h
  | n + 1, ks, v :: rows, h, hm => by
    unfold walkGo
    split
    · rename_i hv
      exact walkGo_fin B hu n ks rows (h.old hv) (by unfold muW at hm ⊢; rw [List.length_cons] at hm; omega)
    · rename_i hv
      have h2 := h.new hv
      have k2 := h2.few B hu
      rw [List.length_append, List.length_singleton] at k2
      have lt := muW_new (rows := rows) (v := v) k2 (steps_few B hu (h.rin v List.mem_cons_self))
      exact walkGo_fin B hu n _ _ h2 (by omega)
def fuelW (b : Bk) (u : List Nat) : Nat := b.m ^ u.length * (b.m ^ u.length + 1) + 1
def walkF (b : Bk) (u : List Nat) : List (List Nat) := walkGo b (fuelW b u) [] [u]
theorem start_WI (b : Bk) (u : List Nat) : WI b u [] [u] := ⟨List.nodup_nil, fun v hv => (by cases hv), fun v hv => (by rw [List.mem_singleton.mp hv]; exact .refl), fun v hv => (by cases hv), .inr (by simp)⟩
theorem walkF_WI (B : BkOk b) (hu : WdOk b u) : WI b u (walkF b u) [] := walkGo_fin B hu _ _ _ (start_WI b u) (by unfold muW fuelW; simp)
theorem closed_star {ks : List (List Nat)} (cl : ∀ v ∈ ks, ∀ x, Step b.rs v x → x ∈ ks) {v w : List Nat} (h : Star b v w) : v ∈ ks → w ∈ ks := by
  induction h with
  | refl => exact id
  | head s _ ih => exact fun hv => ih (cl _ hv _ s)
theorem mem_walkF (B : BkOk b) (hu : WdOk b u) {v : List Nat} : v ∈ walkF b u ↔ Star b u v := by
  have W := walkF_WI B hu
  refine ⟨W.kin v, fun h => closed_star (fun v hv x s => (W.cl v hv x s).elim id fun z => (by cases z)) h (W.root.elim id fun z => (by cases z))⟩
theorem walkF_few (B : BkOk b) (hu : WdOk b u) : (walkF b u).length ≤ b.m ^ u.length := (walkF_WI B hu).few B hu
end
def toldD (b : Bk) (ks : List (List Nat)) : D := .dic (ks.map wi) (ks.map (stD b))
def lastF (b : Bk) (ks : List (List Nat)) : List (List Nat) := sortBy wd (ks.filter fun v => (stepsF b v).isEmpty)
theorem mem_lastF {b : Bk} {ks : List (List Nat)} {v : List Nat} : v ∈ lastF b ks ↔ v ∈ ks ∧ NF b v := by
  unfold lastF
  rw [(sortBy_perm _ _).mem_iff, List.mem_filter]
  refine and_congr_right fun _ => ?_
  rw [List.isEmpty_iff]
  refine ⟨fun e x s => ?_, fun h => ?_⟩
  · have := mem_stepsF.mpr s
    rw [e] at this
    cases this
  · cases z : stepsF b v with
    | nil => rfl
    | cons x l => exact absurd (mem_stepsF.mp (by rw [z]; simp)) (h x)
section
variable {P : Program} {w : World} {K : PySem.W.Frag} {mg : Str → Option Value} {base : Heap}
theorem keys_wd (ks : List (List Nat)) : (ks.map wi).map wdI = ks.map wd := by
  rw [List.map_map]
  exact List.map_congr_left fun v _ => (wd_wi v).symm
theorem sc__law_walk : FnScope ["_law_book_here", "_law_word", "_law_found", "_law_rows", "_law_here"] ["_law_book_here", "_law_word"] (defScope s__law_walk) := ⟨rfl, rfl, rfl, by decide +kernel, rfl, by decide +kernel, by decide +kernel⟩
def R__law_walk (ds : List D) (d : D) : Prop := ∃ b u, BkOk b ∧ WdOk b u ∧ 1 ≤ u.length ∧ u.length ≤ 20 ∧ b.m ^ u.length ≤ 250 ∧ ds = [bkD b, wd u] ∧ d = toldD b (walkF b u)
theorem ok__law_walk (T : Gb K mg) (A : DefAt K mg "_law_walk" s__law_walk) (G__law_steps : DefOk P w K mg base "_law_steps" 1 ["_law_book_here", "_law_word"] (spD K R__law_steps)) : DefOk P w K mg base "_law_walk" 2 ["_law_book_here", "_law_word"] (spD K R__law_walk) := by
  refine fn_ok A sc__law_walk (by decide) (fun _ _ _ _ _ _ us hl => match us, hl with | [_, _], _ => rfl) (fun ds d h => by obtain ⟨_, _, _, _, _, _, _, rfl, _⟩ := h; rfl) ?_
  intro f cdv A' outer s H E hr ds d ⟨b, u, B, hu, hu1, hu2, hN, e1, e2⟩
  subst e1 e2
  refine runs_step (run_parC 2 3 (evP_consN evN_dict (evP_cons (d := .lst ([u].map wd)) (ev_lst (evA_cons (ev_v (d := wd u) 1 rfl) evA_nil)) evP_nil)) rfl sc__law_walk.nd rfl rfl (by decide) rfl rfl (.inl rfl) (.inr ⟨_, rfl⟩) (Nat.le_of_ble_eq_true rfl) rfl) ?_
  refine runs_while (fun m ρ => ∃ ks rows c4, WI b u ks rows ∧ muW (b.m ^ u.length) ks rows ≤ m ∧ m ≤ fuelW b u ∧ walkGo b m ks rows = walkF b u ∧ ρ = [.va (bkD b), .va (wd u), fndC b ks (stD b), .va (.lst (rows.map wd)), c4]) .never (m0 := fuelW b u) ⟨[], [u], .un, start_WI b u, by unfold muW fuelW; simp, Nat.le_refl _, rfl, rfl⟩ ?_
  rintro m ρ ⟨ks, rows, c4, W, hm, hmf, hfin, rfl⟩
  have hfl : fuelW b u ≤ 250 * 251 + 1 := by
    unfold fuelW
    exact Nat.succ_le_succ (Nat.mul_le_mul hN (by omega))
  refine ⟨_, _, (evB_cmp (ev_v (d := .lst (rows.map wd)) 3 rfl) (ev_lst evA_nil) (cop_neD (n := 2) hr (okn_lst (okn_map fun _ => okn_wd)) (okn_lst (by intro x hx; cases hx)))), fun hb => ?_, fun hb => ?_⟩
  · cases rows with
    | nil =>
      rw [beq_nil _ 1 (okn_map fun _ => okn_wd)] at hb
      cases hb
    | cons v rows =>
      have hmr : rows.length + 1 ≤ m := by
        unfold muW at hm
        rw [List.length_cons] at hm
        omega
      obtain ⟨m', rfl⟩ : ∃ m', m = m' + 1 := ⟨m - 1, by omega⟩
      have hv := W.rin v List.mem_cons_self
      have hvl := hv.len B
      refine runs_set 4 (d := wd v) (ev_ix (ev_v (d := .lst ((v :: rows).map wd)) 3 rfl) ev_int (iop_lst at_zero)) sc__law_walk.nd rfl (.inl rfl) ?_
      refine runs_set 3 (d := .lst (rows.map wd)) (ev_eq (ev_sliceL (ev_v (d := .lst ((v :: rows).map wd)) 3 rfl) (evO_some ev_int) evO_none) (by rw [show (1 : Int) = ((1 : Nat) : Int) from rfl, cut_from]; rfl)) sc__law_walk.nd rfl (.inl rfl) ?_
      refine runs_if (evB_ninO 2 hr rfl (.inl rfl) (ev_eq (ev_v (d := wd v) 4 rfl) (wd_wi v)) rfl) (fun hb => ?_) (fun hb => ?_)
      · have hvk : v ∉ ks := fun z => by rw [decide_eq_true (wi_mem.mpr z)] at hb; cases hb
        have W2 := W.new hvk
        have klen := W2.few B hu
        rw [List.length_append, List.length_singleton] at klen
        have slen := steps_few B hu hv
        have lt := muW_new (rows := rows) (v := v) klen slen
        refine runs_step (run_put (ρ3 := []) 2 hr rfl (.inl rfl) (ev_call G__law_steps (hr.mono (by decide)) rfl (evA_cons (ev_v (d := bkD b) 0 rfl) (evA_cons (ev_v (d := wd v) 4 rfl) evA_nil)) ⟨b, v, B, by omega, by omega, rfl, rfl⟩) (ev_eq (ev_v (d := wd v) 4 rfl) (wd_wi v)) rfl rfl (by rw [List.length_map]; show _ < sizeLine; unfold sizeLine; omega)) ?_
        have e1 := dputK_wi ks v
        have e2 : dputV (ks.map wi) (ks.map (stD b)) (wi v) (D.lst ((stepsF b v).map wd)) = _ := dputV_f ks (stD b) v
        have e3 : putN ks v = ks ++ [v] := by unfold putN; rw [if_neg hvk]
        rw [e1, e2, e3]
        refine runs_set 3 (d := .lst ((rows ++ stepsF b v).map wd)) (ev_eq (ev_op (ev_v (d := .lst (rows.map wd)) 3 rfl) (ev_getO (d := stD b v) 2 hr rfl (.inl rfl) (ev_eq (ev_v (d := wd v) 4 rfl) (wd_wi v)) rfl rfl (dget_f (f := stD b) (by simp))) (bop_cat ?_)) (by rw [List.map_append])) sc__law_walk.nd rfl (.inl rfl) ?_
        · rw [List.length_map, List.length_map]
          show _ ≤ sizeLine
          unfold sizeLine
          omega
        refine runs_nil (runs_nil ⟨m', Nat.lt_succ_self _, ks ++ [v], rows ++ stepsF b v, .va (wd v), W2, by omega, by omega, ?_, rfl⟩)
        rw [← hfin]
        conv => rhs; unfold walkGo
        rw [if_neg hvk]
      · have hvk : v ∈ ks := Classical.byContradiction fun z => by rw [decide_eq_false (fun y => z (wi_mem.mp y))] at hb; cases hb
        refine runs_nil (runs_nil ⟨m', Nat.lt_succ_self _, ks, rows, .va (wd v), W.old hvk, ?_, by omega, ?_, rfl⟩)
        · unfold muW at hm ⊢
          rw [List.length_cons] at hm
          omega
        · rw [← hfin]
          conv => rhs; unfold walkGo
          rw [if_pos hvk]
  · have hnil : rows = [] := by
      rw [beq_nil _ 1 (okn_map fun _ => okn_wd)] at hb
      cases rows with
      | nil => rfl
      | cons x l => cases hb
    subst hnil
    rw [walkGo_nil] at hfin
    refine runs_ret (ev_varD 2 rfl (.inl rfl) rfl) (rt_eq ?_)
    rw [← hfin]
    rfl
theorem sc__law_last_ones : FnScope ["_law_told", "_law_here"] ["_law_told"] (defScope s__law_last_ones) := ⟨rfl, rfl, rfl, by decide +kernel, rfl, by decide +kernel, by decide +kernel⟩
def R__law_last_ones (ds : List D) (d : D) : Prop := ∃ b ks, (∀ v ∈ ks, 1 ≤ v.length) ∧ ks.length ≤ 250 ∧ ds = [toldD b ks] ∧ d = .lst ((lastF b ks).map wd)
theorem ok__law_last_ones (T : Gb K mg) (A : DefAt K mg "_law_last_ones" s__law_last_ones) : DefOk P w K mg base "_law_last_ones" 1 ["_law_told"] (spD K R__law_last_ones) := by
  refine fn_ok A sc__law_last_ones (by decide) (fun _ _ _ _ _ _ us hl => match us, hl with | [_], _ => rfl) (fun ds d h => by obtain ⟨_, _, _, _, rfl, _⟩ := h; rfl) ?_
  intro f cdv A' outer s H E hr ds d ⟨b, ks, h1, h2, e1, e2⟩
  subst e1 e2
  refine runs_ret (ev_of_new (evN_sorted (n := 1) (ev_of_new (evN_lc1 ks wd (fun v => (stepsF b v).isEmpty) wd 1 rfl sc__law_last_ones.nd (itr_eq (itr_keys (ks := ks.map wi) (ds := ks.map (stD b)) (ev_v 0 rfl)) (keys_wd ks)) (blkOk_by rfl) (by show _ < sizeLine; unfold sizeLine; omega) rfl rfl (fun v hv X' hX => by
    obtain ⟨_, _, _, _, _, rfl⟩ := hX
    refine evTs_one (evB_eq (evB_cmp (ev_get (d := stD b v) (ks := ks.map wi) (ds := ks.map (stD b)) hr (ev_v 0 rfl) (ev_eq (ev_v (d := wd v) 1 rfl) (wd_wi v)) (dget_f (f := stD b) hv)) (ev_lst evA_nil) (cop_eqD (n := 2) hr (okn_lst (okn_map fun _ => okn_wd)) (okn_lst (by intro x hx; cases hx)))) ?_)
    unfold stD
    rw [beq_nil _ 1 (okn_map fun _ => okn_wd)]
    cases stepsF b v <;> rfl) (fun v hv hb X' hX => by obtain ⟨_, _, _, _, _, rfl⟩ := hX; exact (ev_v (d := wd v) 1 rfl)) (by rintro _ ⟨⟩; rfl))) (room100 hr) (okn_map fun _ => okn_wd) (srtb_of (enc := wd) (n := 1) (fun _ => okn_wd) alike_wd fun v hv => ?_) rfl T.sorted)) (rt_eq ?_)
  · have hv' := h1 v (List.mem_filter.mp hv).1
    cases v with
    | nil => simp at hv'
    | cons x l => exact ⟨nD x, l.map nD, rfl⟩
  · rw [sortBy_map]
    rfl
end
end K8
/-! The law's layers and its comparison: _law_layers, _law_alike. -/
namespace K8
open PySem PySem.Spec PyProof.Rows L2
def inL (b : Bk) (L : List (List Nat)) (v : List Nat) : List (List Nat) := (stepsF b v).filter fun x => decide (x ∈ L)
def calmL (b : Bk) (L : List (List Nat)) : List (List Nat) := L.filter fun v => (inL b L v).isEmpty
def restL (b : Bk) (L : List (List Nat)) : List (List Nat) := L.filter fun v => !decide (v ∈ calmL b L)
def layGo (b : Bk) : Nat → List (List Nat) → List (List Nat) → List (List Nat)
  | 0, fd, _ => fd
  | _ + 1, fd, [] => fd
  | n + 1, fd, v :: L => layGo b n (fd ++ calmL b (v :: L)) (restL b (v :: L))
theorem layGo_nil (b : Bk) (n : Nat) (fd : List (List Nat)) : layGo b n fd [] = fd := by cases n <;> rfl
theorem calm_least {b : Bk} {rk : List Nat → Nat} (R : RkOk b rk) {L : List (List Nat)} (hL : ∀ v ∈ L, WdOk b v) : ∀ (n : Nat) (v : List Nat), v ∈ L → rk v ≤ n → ∃ x, x ∈ calmL b L := by
  intro n
  induction n with
  | zero =>
    intro v hv h
    refine ⟨v, List.mem_filter.mpr ⟨hv, ?_⟩⟩
    rw [List.isEmpty_iff]
    unfold inL
    rw [List.filter_eq_nil_iff]
    intro x hx _
    have := R v x (hL v hv) (mem_stepsF.mp hx)
    omega
  | succ n ih =>
    intro v hv h
    by_cases z : ∃ x ∈ stepsF b v, x ∈ L
    · obtain ⟨x, hx, hxL⟩ := z
      have := R v x (hL v hv) (mem_stepsF.mp hx)
      exact ih x hxL (by omega)
    · refine ⟨v, List.mem_filter.mpr ⟨hv, ?_⟩⟩
      rw [List.isEmpty_iff]
      unfold inL
      rw [List.filter_eq_nil_iff]
      intro x hx hd
      exact z ⟨x, hx, of_decide_eq_true hd⟩
theorem calm_ne {b : Bk} (B : BkOk b) (he : EndsB b) {L : List (List Nat)} (hL : ∀ v ∈ L, WdOk b v) (hne : L ≠ []) : calmL b L ≠ [] := by
  obtain ⟨v, l, rfl⟩ := List.exists_cons_of_ne_nil hne
  obtain ⟨x, hx⟩ := calm_least (rkB_ok B he).1 hL _ v List.mem_cons_self (Nat.le_refl _)
  intro z
  rw [z] at hx
  cases hx
theorem part_len {α : Type} (p : α → Bool) : ∀ l : List α, (l.filter p).length + (l.filter fun x => !p x).length = l.length
  | [] => rfl
  | a :: l => by
    have ih := part_len p l
    rw [List.filter_cons, List.filter_cons]
    cases p a <;> simp <;> omega
theorem rest_len {b : Bk} {L : List (List Nat)} : (calmL b L).length + (restL b L).length = L.length := by
  have e : restL b L = L.filter fun v => !(inL b L v).isEmpty := by
    unfold restL
    refine List.filter_congr fun v hv => ?_
    congr 1
    unfold calmL
    cases z : (inL b L v).isEmpty with
    | true => exact decide_eq_true (List.mem_filter.mpr ⟨hv, z⟩)
    | false =>
      refine decide_eq_false fun y => ?_
      have := (List.mem_filter.mp y).2
      rw [z] at this
      cases this
  rw [e]
  exact part_len _ L
theorem any_wd (L : List (List Nat)) (x : List Nat) : ((L.map wd).any fun z => z.beq (wd x)) = decide (x ∈ L) := by
  rw [List.any_map]
  have e : ((fun z : D => z.beq (wd x)) ∘ wd) = fun v => decide (v = x) := by
    funext v
    exact beq_dec (n := 1) (fun _ => okn_wd) (fun _ _ => wd_inj) v x
  rw [e]
  by_cases h : x ∈ L
  · rw [decide_eq_true h, List.any_eq_true]
    exact ⟨x, h, by simp⟩
  · rw [decide_eq_false h, List.any_eq_false]
    intro v hv z
    exact h (of_decide_eq_true z ▸ hv)
section
variable {P : Program} {w : World} {K : PySem.W.Frag} {mg : Str → Option Value} {base : Heap}
theorem sc__law_layers : FnScope ["_law_told", "_law_found", "_law_left", "_law_calm_here", "_law_there", "_law_here"] ["_law_told"] (defScope s__law_layers) := ⟨rfl, rfl, rfl, by decide +kernel, rfl, by decide +kernel, by decide +kernel⟩
def R__law_layers (ds : List D) (d : D) : Prop := ∃ b ks, BkOk b ∧ EndsB b ∧ (∀ v ∈ ks, WdOk b v) ∧ (∀ v ∈ ks, (stepsF b v).length ≤ 250) ∧ ks.length ≤ 250 ∧ ds = [toldD b ks] ∧ d = .lst ((layGo b ks.length [] ks).map wd)
theorem ok__law_layers (T : Gb K mg) (A : DefAt K mg "_law_layers" s__law_layers) : DefOk P w K mg base "_law_layers" 1 ["_law_told"] (spD K R__law_layers) := by
  refine fn_ok A sc__law_layers (by decide) (fun _ _ _ _ _ _ us hl => match us, hl with | [_], _ => rfl) (fun ds d h => by obtain ⟨_, _, _, _, _, _, _, rfl, _⟩ := h; rfl) ?_
  intro f cdv A' outer s H E hr ds d ⟨b, ks, B, he, hW, hS, h2, e1, e2⟩
  subst e1 e2
  refine runs_step (run_asgC 1 2 (evP_cons (d := .lst (([] : List (List Nat)).map wd)) (ev_lst evA_nil) (evP_cons (d := .lst (ks.map wd)) (ev_eq (ev_of_new (evN_listKeys (ks := ks.map wi) (ds := ks.map (stD b)) (ev_v 0 rfl) rfl rfl T.list)) (congrArg D.lst (keys_wd ks))) evP_nil)) rfl sc__law_layers.nd rfl rfl (.inl rfl) (.inr rfl) (.inr ⟨_, rfl⟩) (.inr ⟨_, rfl⟩) (Nat.le_of_ble_eq_true rfl)) ?_
  refine runs_while (fun m ρ => ∃ fd L c3, (∀ v ∈ L, v ∈ ks) ∧ L.length ≤ m ∧ fd.length + L.length ≤ 250 ∧ layGo b m fd L = layGo b ks.length [] ks ∧ ρ = [.va (toldD b ks), .va (.lst (fd.map wd)), .va (.lst (L.map wd)), c3, .un, .un]) .never (m0 := ks.length) ⟨[], ks, .un, fun v hv => hv, Nat.le_refl _, by simpa using h2, rfl, rfl⟩ ?_
  rintro m ρ ⟨fd, L, c3, hL, hm, hsz, hfin, rfl⟩
  refine ⟨_, _, (evB_cmp (ev_v (d := .lst (L.map wd)) 2 rfl) (ev_lst evA_nil) (cop_neD (n := 2) hr (okn_lst (okn_map fun _ => okn_wd)) (okn_lst (by intro x hx; cases hx)))), fun hb => ?_, fun hb => ?_⟩
  · have hne : L ≠ [] := fun z => by
      rw [beq_nil _ 1 (okn_map fun _ => okn_wd), z] at hb
      cases hb
    have hpos : 0 < L.length := List.length_pos_iff.mpr hne
    obtain ⟨m', rfl⟩ : ∃ m', m = m' + 1 := ⟨m - 1, by omega⟩
    have hc := calm_ne B he (fun v hv => hW v (hL v hv)) hne
    have hrl := rest_len (b := b) (L := L)
    have hcpos : 0 < (calmL b L).length := List.length_pos_iff.mpr hc
    refine runs_set 3 (d := .lst ((calmL b L).map wd)) (ev_of_new (evN_lc1 L wd (fun v => (inL b L v).isEmpty) wd 5 rfl sc__law_layers.nd (itr_lst (ev_v (d := .lst (L.map wd)) 2 rfl)) (blkOk_by rfl) (by show _ < sizeLine; unfold sizeLine; omega) rfl rfl (fun v hv X' hX => by
      obtain ⟨_, _, _, _, _, rfl⟩ := hX
      have hs := hS v (hL v hv)
      refine evTs_one (evB_eq (evB_cmp (ev_of_new (evN_lc1 (stepsF b v) wd (fun x => decide (x ∈ L)) wd 4 rfl sc__law_layers.nd (itr_lst (ds := (stepsF b v).map wd) (ev_get (d := stD b v) (ks := ks.map wi) (ds := ks.map (stD b)) hr (ev_v 0 rfl) (ev_eq (ev_v (d := wd v) 5 rfl) (wd_wi v)) (dget_f (f := stD b) (hL v hv)))) (blkOk_by rfl) (by show _ < sizeLine; unfold sizeLine; omega) rfl rfl (fun x hx X'' hX'' => by
        obtain ⟨_, _, _, _, _, rfl⟩ := hX''
        exact evTs_one (evB_eq (evB_cmp (ev_v (d := wd x) 4 rfl) (ev_v (d := .lst (L.map wd)) 2 rfl) (cop_inD (n := 2) (by have := room100 hr; show _ + 65 < cLine; exact Nat.lt_of_le_of_lt (Nat.add_le_add_left (by decide) _) this) okn_wd (okn_lst (okn_map fun _ => okn_wd)))) (any_wd L x))) (fun x hx hb X'' hX'' => by obtain ⟨_, _, _, _, _, rfl⟩ := hX''; exact (ev_v (d := wd x) 4 rfl)) (by rintro _ ⟨⟩; rfl))) (ev_lst evA_nil) (cop_eqD (n := 2) hr (okn_lst (okn_map fun _ => okn_wd)) (okn_lst (by intro x hx; cases hx)))) ?_)
      show (D.lst ((inL b L v).map wd)).beq (.lst []) = _
      rw [beq_nil _ 1 (okn_map fun _ => okn_wd)]
      cases inL b L v <;> rfl) (fun v hv hb X' hX => by obtain ⟨_, _, _, _, _, rfl⟩ := hX; exact (ev_v (d := wd v) 5 rfl)) (by rintro _ ⟨⟩; rfl))) sc__law_layers.nd rfl (.inr rfl) ?_
    refine runs_if (evB_cmp (ev_v (d := .lst ((calmL b L).map wd)) 3 rfl) (ev_lst evA_nil) (cop_eqD (n := 2) hr (okn_lst (okn_map fun _ => okn_wd)) (okn_lst (by intro x hx; cases hx)))) (fun hb2 => ?_) (fun hb2 => ?_)
    · rw [beq_nil _ 1 (okn_map fun _ => okn_wd)] at hb2
      cases z : calmL b L with
      | nil => exact absurd z hc
      | cons x l => rw [z] at hb2; cases hb2
    refine runs_nil ?_
    refine runs_step (run_asgC 1 2 (evP_cons (d := .lst ((fd ++ calmL b L).map wd)) (ev_eq (ev_op (ev_v (d := .lst (fd.map wd)) 1 rfl) (ev_v (d := .lst ((calmL b L).map wd)) 3 rfl) (bop_cat ?_)) (by rw [List.map_append])) (evP_cons (d := .lst ((restL b L).map wd)) (ev_of_new (evN_lc1 L wd (fun v => !decide (v ∈ calmL b L)) wd 5 rfl sc__law_layers.nd (itr_lst (ev_v (d := .lst (L.map wd)) 2 rfl)) (blkOk_by rfl) (by show _ < sizeLine; unfold sizeLine; omega) rfl rfl (fun v hv X' hX => by
      obtain ⟨_, _, _, _, _, rfl⟩ := hX
      exact evTs_one (evB_eq (evB_cmp (ev_v (d := wd v) 5 rfl) (ev_v (d := .lst ((calmL b L).map wd)) 3 rfl) (cop_ninD (n := 2) (by have := room100 hr; show _ + 65 < cLine; exact Nat.lt_of_le_of_lt (Nat.add_le_add_left (by decide) _) this) okn_wd (okn_lst (okn_map fun _ => okn_wd)))) (congrArg not (any_wd (calmL b L) v)))) (fun v hv hb X' hX => by obtain ⟨_, _, _, _, _, rfl⟩ := hX; exact (ev_v (d := wd v) 5 rfl)) (by rintro _ ⟨⟩; rfl))) evP_nil)) rfl sc__law_layers.nd rfl rfl (.inl rfl) (.inr rfl) (.inr ⟨_, rfl⟩) (.inr ⟨_, rfl⟩) (Nat.le_of_ble_eq_true rfl)) ?_
    · rw [List.length_map, List.length_map]
      show _ ≤ sizeLine
      unfold sizeLine
      omega
    refine runs_nil ⟨m', Nat.lt_succ_self _, fd ++ calmL b L, restL b L, .va (.lst ((calmL b L).map wd)), fun v hv => hL v (List.mem_filter.mp hv).1, by omega, by rw [List.length_append]; omega, ?_, rfl⟩
    rw [← hfin]
    obtain ⟨v, l, rfl⟩ := List.exists_cons_of_ne_nil hne
    rfl
  · have hnil : L = [] := by
      rw [beq_nil _ 1 (okn_map fun _ => okn_wd)] at hb
      cases L with
      | nil => rfl
      | cons x l => cases hb
    subst hnil
    rw [layGo_nil] at hfin
    refine runs_ret (ev_v 1 rfl) (rt_eq ?_)
    rw [← hfin]
theorem sc__law_alike : FnScope ["_law_found", "_law_due", "_law_k"] ["_law_found", "_law_due"] (defScope s__law_alike) := ⟨rfl, rfl, rfl, by decide +kernel, rfl, by decide +kernel, by decide +kernel⟩
def R__law_alike0 (ds : List D) (d : D) : Prop := ∃ n : Nat, ds = [nD n, nD n] ∧ d = .bl true
theorem ok__law_alike0 (T : Gb K mg) (A : DefAt K mg "_law_alike" s__law_alike) : DefOk P w K mg base "_law_alike" 1 ["_law_found", "_law_due"] (spD K R__law_alike0) := by
  refine fn_ok A sc__law_alike (by decide) (fun _ _ _ _ _ _ us hl => match us, hl with | [_, _], _ => rfl) (fun ds d h => by obtain ⟨_, rfl, _⟩ := h; rfl) ?_
  intro f cdv A' outer s H E hr ds d ⟨n, e1, e2⟩
  subst e1 e2
  refine runs_if (evB_val (ev_isi2 (ev_v (d := nD n) 1 rfl) (ev_tup (evA_cons (ev_ty (n := "tuple") rfl T.tuple (by decide +kernel)) (evA_cons (ev_ty (n := "list") rfl T.list (by decide +kernel)) evA_nil))) rfl rfl rfl rfl T.isinstance)) (fun hb => by cases hb) (fun hb => ?_)
  refine runs_nil ?_
  refine runs_if (PW.pt (evW_or (evB_isNone (ev_v (d := nD n) 1 rfl)) fun h => (evW_or1 (evB_val (ev_isi (ev_v (d := nD n) 1 rfl) (ev_ty (n := "str") rfl T.str (by decide +kernel)) rfl rfl rfl T.isinstance))))) (fun hb => by cases hb) (fun hb => ?_)
  refine runs_nil ?_
  refine runs_ret (ev_and (k1 := true) (ev_isi (ev_v (d := nD n) 0 rfl) (ev_ty (n := "int") rfl T.int (by decide +kernel)) rfl rfl rfl T.isinstance) fun h => (ev_and (k1 := true) (ev_eq (ev_cmp (ev_isi (ev_v (d := nD n) 0 rfl) (ev_ty (n := "bool") rfl T.bool (by decide +kernel)) rfl rfl rfl T.isinstance) (ev_isi (ev_v (d := nD n) 1 rfl) (ev_ty (n := "bool") rfl T.bool (by decide +kernel)) rfl rfl rfl T.isinstance) cop_eqB) rfl) fun h => (ev_one (ev_cmp (ev_v (d := nD n) 0 rfl) (ev_v (d := nD n) 1 rfl) cop_eqI)))) (rt_eq ?_)
  simp
theorem alike_seq (T : Gb K mg) (A : DefAt K mg "_law_alike" s__law_alike) {α : Type} {Rp : List D → D → Prop} {k : Nat} {lv : Nat} (G : DefOk P w K mg base "_law_alike" lv ["_law_found", "_law_due"] (spD K Rp)) (mkD : List D → D) (xs : List α) (enc : α → D) (d0 : α)
    (hm : (mkD = D.tup) ∨ (mkD = D.lst)) (hlen : xs.length ≤ 100) (hR : ∀ a ∈ xs, Rp [enc a, enc a] (.bl true))
    (f : Addr) (cdv : Value) (A' : Around) (outer : List Env) (s : Shared) (H : Hp) (E : XK) (hr : Room lv (A'.deeper (envOfC "_law_alike" (defScope s__law_alike) s.heap.objs.size f cdv))) :
    Runs (Bx P w K mg base ["_law_found", "_law_due", "_law_k"] "_law_alike" (defScope s__law_alike) f cdv A' outer s H E) (defBody s__law_alike) [.va (mkD (xs.map enc)), .va (mkD (xs.map enc)), .un] (fun o => (∃ ρ, o = .rt (.bl true) ρ) ∨ D.bl true = .non ∧ ∃ ρ, o = .nx ρ) := by
  have ty : ∃ t, tyD (mkD (xs.map enc)) = some t ∧ kitB t "tuple" = some (t == "tuple") ∧ kitB t "list" = some (t == "list") ∧ ((t == "tuple") || (t == "list")) = true := by
    rcases hm with rfl | rfl
    · exact ⟨"tuple", rfl, rfl, rfl, rfl⟩
    · exact ⟨"list", rfl, rfl, rfl, rfl⟩
  obtain ⟨t, ht, k1, k2, hor⟩ := ty
  have ln : LenD (mkD (xs.map enc)) = some xs.length := by
    rcases hm with rfl | rfl <;> simp [LenD]
  have ix : ∀ (X : Cx) (i : Nat), i < xs.length → Iop X (mkD (xs.map enc)) (nD i) (enc (xs.getD i d0)) := fun X i hi => by
    rcases hm with rfl | rfl
    · exact iop_tup (at_map hi)
    · exact iop_lst (at_map hi)
  generalize hD : mkD (xs.map enc) = D1 at *
  refine runs_if (evB_val (ev_isi2 (ev_v (d := D1) 1 rfl) (ev_tup (evA_cons (ev_ty (n := "tuple") rfl T.tuple (by decide +kernel)) (evA_cons (ev_ty (n := "list") rfl T.list (by decide +kernel)) evA_nil))) ht k1 k2 rfl T.isinstance)) (fun hb => ?_) (fun hb => by rw [hor] at hb; cases hb)
  refine runs_if (PW.pt (evW_or (evB_not (evB_val (ev_isi2 (ev_v (d := D1) 0 rfl) (ev_tup (evA_cons (ev_ty (n := "tuple") rfl T.tuple (by decide +kernel)) (evA_cons (ev_ty (n := "list") rfl T.list (by decide +kernel)) evA_nil))) ht k1 k2 rfl T.isinstance))) fun h => (evW_or1 (evB_cmp (ev_isi (ev_v (d := D1) 0 rfl) (ev_ty (n := "list") rfl T.list (by decide +kernel)) ht k2 rfl T.isinstance) (ev_isi (ev_v (d := D1) 1 rfl) (ev_ty (n := "list") rfl T.list (by decide +kernel)) ht k2 rfl T.isinstance) cop_neB)))) (fun hb => ?_) (fun hb => ?_)
  · rw [hor] at hb
    simp at hb
  refine runs_nil ?_
  refine runs_if (evB_cmp (ev_len (ev_v (d := D1) 0 rfl) ln rfl T.len) (ev_len (ev_v (d := D1) 1 rfl) ln rfl T.len) cop_neI) (fun hb => ?_) (fun hb => ?_)
  · simp at hb
  refine runs_nil ?_
  refine runs_ret (ev_cmp (ev_of_new (evN_lc1 (List.range xs.length) nD (fun _ => false) nD 2 rfl sc__law_alike.nd (itr_range1 (ev_len (ev_v (d := D1) 1 rfl) ln rfl T.len) (by omega) rfl T.range) (blkOk_by rfl) (by rw [List.length_range]; show _ < sizeLine; unfold sizeLine; omega) rfl rfl (fun i hi X' hX => by
    obtain ⟨_, _, _, _, _, rfl⟩ := hX
    have hi := List.mem_range.mp hi
    exact evTs_one (evB_eq (evB_not (evB_val (ev_call (d := .bl true) G hr rfl (evA_cons (ev_ix (ev_v (d := D1) 0 rfl) (ev_v (d := nD i) 2 rfl) (ix _ i hi)) (evA_cons (ev_ix (ev_v (d := D1) 1 rfl) (ev_v (d := nD i) 2 rfl) (ix _ i hi)) evA_nil)) (hR _ (getD_mem hi))))) rfl)) (fun i hi hb X' hX => by cases hb) (by rintro _ ⟨⟩; rfl))) (ev_lst evA_nil) (cop_eqD (n := 1) hr (okn_lst (okn_map fun _ => okn_nD)) (okn_lst (by intro x hx; cases hx)))) (rt_eq ?_)
  rw [beq_nil _ 0 (okn_map fun _ => okn_nD)]
  simp
def R__law_alike1 (ds : List D) (d : D) : Prop := ∃ u : List Nat, u.length ≤ 100 ∧ ds = [wd u, wd u] ∧ d = .bl true
theorem ok__law_alike1 (T : Gb K mg) (A : DefAt K mg "_law_alike" s__law_alike) : DefOk P w K mg base "_law_alike" 2 ["_law_found", "_law_due"] (spD K R__law_alike1) := by
  refine fn_ok A sc__law_alike (by decide) (fun _ _ _ _ _ _ us hl => match us, hl with | [_, _], _ => rfl) (fun ds d h => by obtain ⟨_, _, rfl, _⟩ := h; rfl) ?_
  intro f cdv A' outer s H E hr ds d ⟨u, hu, e1, e2⟩
  subst e1 e2
  exact alike_seq (k := 0) T A (ok__law_alike0 T A) D.tup u nD 0 (.inl rfl) hu (fun a ha => ⟨a, rfl, rfl⟩) f cdv A' outer s H E hr
def R__law_alike2 (ds : List D) (d : D) : Prop := ∃ L : List (List Nat), L.length ≤ 100 ∧ (∀ u ∈ L, u.length ≤ 100) ∧ ds = [.lst (L.map wd), .lst (L.map wd)] ∧ d = .bl true
theorem ok__law_alike2 (T : Gb K mg) (A : DefAt K mg "_law_alike" s__law_alike) : DefOk P w K mg base "_law_alike" 3 ["_law_found", "_law_due"] (spD K R__law_alike2) := by
  refine fn_ok A sc__law_alike (by decide) (fun _ _ _ _ _ _ us hl => match us, hl with | [_, _], _ => rfl) (fun ds d h => by obtain ⟨_, _, _, rfl, _⟩ := h; rfl) ?_
  intro f cdv A' outer s H E hr ds d ⟨L, hL, hu, e1, e2⟩
  subst e1 e2
  exact alike_seq (k := 0) T A (ok__law_alike1 T A) D.lst L wd [] (.inr rfl) hL (fun a ha => ⟨a, hu a ha, rfl, rfl⟩) f cdv A' outer s H E hr
end
end K8
/-! The law. -/
namespace K8
open PySem PySem.Spec PyProof.Rows L2
theorem last_one {b : Bk} (B : BkOk b) (he : EndsB b) (hc : clashO b = none) {u : List Nat} (hu : WdOk b u) : lastF b (walkF b u) = [restedF b u] := by
  have hr := restedF_rest B he hu
  have ur := clash_none B he hc hu
  have nd : (lastF b (walkF b u)).Nodup := (sortBy_perm _ _).nodup_iff.mpr ((walkF_WI B hu).nd.filter _)
  have hm : ∀ v, v ∈ lastF b (walkF b u) ↔ v = restedF b u := fun v => by
    rw [mem_lastF, mem_walkF B hu]
    exact ⟨fun h => ur _ _ h hr, fun e => e ▸ hr⟩
  generalize lastF b (walkF b u) = l at nd hm
  cases l with
  | nil => exact absurd ((hm (restedF b u)).mpr rfl) (by simp)
  | cons x l =>
    have hx := (hm x).mp List.mem_cons_self
    cases l with
    | nil => rw [hx]
    | cons y l =>
      have hy := (hm y).mp (by simp)
      rw [hx, hy] at nd
      exact absurd (List.mem_cons_self) (List.nodup_cons.mp nd).1
def rs0 : RS := ⟨0, 10408, 0⟩
def k1F (ns : List Int) : Bk × RS := calmF ns rs0
def k2F (ns : List Int) : Bk × RS := calmF ns (k1F ns).2
def k3F (ns : List Int) : Bk × RS := bookF ns (k2F ns).2 3 2
def k4F (ns : List Int) : Bk × RS := bookF ns (k3F ns).2 2 3
def fourF (ns : List Int) : List Bk := [(k1F ns).1, (k2F ns).1, (k3F ns).1, (k4F ns).1]
def lawBk (ns : List Int) : Bk := (fourF ns).getD (takF ns (k4F ns).2 4).1 (k1F ns).1
theorem four_ok (ns : List Int) : ∀ b ∈ fourF ns, BkS b := fun b hb => by
  unfold fourF at hb
  simp only [List.mem_cons, List.not_mem_nil, or_false] at hb
  rcases hb with rfl | rfl | rfl | rfl
  · exact calmF_ok _ _
  · exact calmF_ok _ _
  · exact bookF_ok _ _ (by decide) (by decide) (by decide) (by decide) (by decide)
  · exact bookF_ok _ _ (by decide) (by decide) (by decide) (by decide) (by decide)
theorem four_len (ns : List Int) : (fourF ns).length = 4 := rfl
theorem four_lt (ns : List Int) : (takF ns (k4F ns).2 4).1 < (fourF ns).length := by
  rw [four_len]
  exact takF_lt ns (k4F ns).2 (m := 4) (by decide)
theorem getD_bk (l : List Bk) (d0 : Bk) {i : Nat} (h : i < l.length) : (l.map bkD).getD i .non = bkD (l.getD i d0) := by
  rw [List.getD_eq_getElem?_getD, List.getElem?_map, List.getElem?_eq_getElem h, List.getD_eq_getElem?_getD, List.getElem?_eq_getElem h]
  rfl
theorem lawBk_ok (ns : List Int) : BkS (lawBk ns) := four_ok ns _ (getD_mem (four_lt ns))
theorem lawBk_d (ns : List Int) : ((fourF ns).map bkD).getD (takF ns (k4F ns).2 4).1 .non = bkD (lawBk ns) := getD_bk _ _ (four_lt ns)
section
variable {P : Program} {w : World} {K : PySem.W.Frag} {mg : Str → Option Value} {base : Heap}
/-- a def keeps its promise, by its body: told of the def at f -/
theorem fn_okF {x : Str} {st : Stmt} {N ps : List Str} {k : Nat} {R : List D → D → Prop} {fL : Addr} {fdL : FuncData} (A : FnT K x st fL fdL) (S : FnScope N ps (defScope st)) (hN : ps.length ≤ N.length)
    (hR : ∀ ds d, R ds d → ds.length = ps.length)
    (body : ∀ (f : Addr) (cdv : Value) (A : Around) (outer : List Env) (s : Shared) (H : Hp) (E : XK), Room k (A.deeper (envOfC x (defScope st) s.heap.objs.size f cdv)) → ∀ ds d, R ds d →
      Runs (Bx P w K mg base N x (defScope st) f cdv A outer s H E) (defBody st) (slots0 ds N.length) (fun o => (∃ ρ, o = .rt d ρ) ∨ d = .non ∧ ∃ ρ, o = .nx ρ)) : FnOk P w K mg base CX0 (k + 1) fL fdL ps (spD K R) := by
  refine A.ok S (fun vs H Q E h => ?_) fun cdv A outer s H vs Q E hr h => ?_
  · obtain ⟨M, F, ds, d, r, z, l, _⟩ := h
    rw [l.length]
    exact hR ds d r
  · obtain ⟨M, F, ds, d, r, z, l, q⟩ := h
    refine ⟨_, (body fL cdv A outer s H E hr ds d r).nox, M, F, start_va N (by rw [l.length, hR ds d r]; exact hN) z l, fun o ho F' σ' H' s' => ?_⟩
    rcases ho with ⟨ρ, rfl⟩ | ⟨rfl, ρ, rfl⟩
    · exact fun R' v iv => q F' H' v s' R'.z iv
    · exact fun R' => q F' H' _ s' R'.z .non
theorem sc_law : FnScope ["_law_script", "_law_row", "_law_book_here", "_law_word", "_law_one", "_law_other", "_law_told", "_law_turn"] ["_law_script"] (defScope s_law) := ⟨rfl, rfl, rfl, by decide +kernel, rfl, by decide +kernel, by decide +kernel⟩
def R_law (ds : List D) (d : D) : Prop := ∃ ns, ds = [.scr ns] ∧ d = .bl true
theorem ok_law {fL : Addr} {fdL : FuncData} (T : Gb K mg) (A : FnT K "law" s_law fL fdL)
    (G__law_taken : DefOk P w K mg base "_law_taken" 1 ["_law_row", "_law_many"] (spM K R__law_taken))
    (G__law_pick : DefOk P w K mg base "_law_pick" 2 ["_law_row", "_law_things"] (spM K R__law_pick))
    (G__law_calm : DefOk P w K mg base "_law_calm" 3 ["_law_row", "_law_most"] (spM K R__law_calm))
    (G__law_letters : DefOk P w K mg base "_law_letters" 2 ["_law_row", "_law_many", "_law_long"] (spM K R__law_letters))
    (G__law_book : DefOk P w K mg base "_law_book" 3 ["_law_row", "_law_most", "_law_long"] (spM K R__law_book))
    (G__law_walk : DefOk P w K mg base "_law_walk" 2 ["_law_book_here", "_law_word"] (spD K R__law_walk))
    (G__law_last_ones : DefOk P w K mg base "_law_last_ones" 1 ["_law_told"] (spD K R__law_last_ones))
    (G__law_layers : DefOk P w K mg base "_law_layers" 1 ["_law_told"] (spD K R__law_layers))
    (G__law_alike : DefOk P w K mg base "_law_alike" 3 ["_law_found", "_law_due"] (spD K R__law_alike2))
    (G_ends : DefOk P w K mg base "ends" 12 ["book"] (spD K R_ends))
    (G_clash : DefOk P w K mg base "clash" 13 ["book"] (spD K R_clash_in))
    (G_has_one_rest : DefOk P w K mg base "has_one_rest" 13 ["book"] (spD K R_has_one_rest))
    (G_rest : DefOk P w K mg base "rest" 14 ["book", "word"] (spD K R_rest)) : FnOk P w K mg base CX0 15 fL fdL ["_law_script"] (spD K R_law) := by
  refine fn_okF A sc_law (by decide) (fun ds d h => by obtain ⟨_, rfl, _⟩ := h; rfl) ?_
  intro f cdv A' outer s H E hr ds d ⟨ns, e1, e2⟩
  subst e1 e2
  refine runs_setN 1 (cc := .ml (rowQ ns rs0)) (evN_lst (evA_cons (ev_v 0 rfl) (evA_cons ev_int (evA_cons ev_int (evA_cons ev_int evA_nil))))) rfl sc_law.nd rfl (.inl rfl) ?_
  refine runs_mlmr (ds := rowQ ns rs0) 1 rfl fun q => ?_
  have BS := lawBk_ok ns
  have hd := lawBk_d ns
  have fl0 : 0 < ((fourF ns).map bkD).length := Nat.le_of_ble_eq_true rfl
  have fl1 : ((fourF ns).map bkD).length ≤ 100 := Nat.le_of_ble_eq_true rfl
  refine runs_set 2 (d := bkD (lawBk ns)) (ev_callM2 (i := 1) (r := q) (ds00 := rowQ ns rs0) (ds0 := rowQ ns (k4F ns).2) (ds1 := rowQ ns (takF ns (k4F ns).2 4).2) G__law_pick (hr.mono (by decide)) rfl rfl (.inl rfl) rfl
    (ρ1 := [.va (.scr ns), .mr q (rowQ ns (k4F ns).2), .un, .un, .un, .un, .un, .un])
    (evA_cons (ev_lst
      (evA_cons (ev_callM (i := 1) (r := q) (d := bkD (k1F ns).1) (ds0 := rowQ ns rs0) (ds1 := rowQ ns (k1F ns).2) G__law_calm (hr.mono (by decide)) rfl rfl (.inl rfl) (evA_cons ev_int evA_nil) rfl ⟨ns, rs0, rfl, rfl, rfl, rfl⟩)
      (evA_cons (ev_callM (i := 1) (r := q) (d := bkD (k2F ns).1) (ds0 := rowQ ns (k1F ns).2) (ds1 := rowQ ns (k2F ns).2) G__law_calm (hr.mono (by decide)) rfl rfl (.inl rfl) (evA_cons ev_int evA_nil) rfl ⟨ns, (k1F ns).2, rfl, rfl, rfl, rfl⟩)
      (evA_cons (ev_callM (i := 1) (r := q) (d := bkD (k3F ns).1) (ds0 := rowQ ns (k2F ns).2) (ds1 := rowQ ns (k3F ns).2) G__law_book (hr.mono (by decide)) rfl rfl (.inl rfl) (evA_cons ev_int (evA_cons ev_int evA_nil)) rfl ⟨ns, (k2F ns).2, 3, 2, by decide, by decide, by decide, by decide, by decide, rfl, rfl, rfl, rfl⟩)
      (evA_cons (ev_callM (i := 1) (r := q) (d := bkD (k4F ns).1) (ds0 := rowQ ns (k3F ns).2) (ds1 := rowQ ns (k4F ns).2) G__law_book (hr.mono (by decide)) rfl rfl (.inl rfl) (evA_cons ev_int (evA_cons ev_int evA_nil)) rfl ⟨ns, (k3F ns).2, 2, 3, by decide, by decide, by decide, by decide, by decide, rfl, rfl, rfl, rfl⟩) evA_nil))))) evA_nil)
    rfl ⟨ns, (k4F ns).2, (fourF ns).map bkD, fl0, fl1, rfl, rfl, hd.symm, rfl⟩) sc_law.nd rfl (.inl rfl) ?_
  generalize takF ns (k4F ns).2 4 = x4
  obtain ⟨_, r4⟩ := x4
  dsimp only
  clear hd
  generalize lawBk ns = b at BS
  have B := BS.toBkOk
  have L3 := longF_le B
  have m2 := B.m2
  have m3 := B.m3
  refine runs_if (evB_not (evB_val (ev_call (d := .bl (endsF b)) G_ends (hr.mono (by decide)) rfl (evA_cons (ev_v (d := bkD b) 2 rfl) evA_nil) ⟨b, B, rfl, rfl⟩))) (fun hb => ?_) (fun hb => ?_)
  · -- return True
    exact runs_ret ev_bl (rt_eq rfl)
  have he : EndsB b := endsF_iff.mp (by simpa using hb)
  refine runs_nil ?_
  refine runs_if (evB_not (evB_val (ev_call (d := .bl (clashO b).isNone) G_has_one_rest (hr.mono (by decide)) rfl (evA_cons (ev_v (d := bkD b) 2 rfl) evA_nil) ⟨b, BS, he, rfl, rfl⟩))) (fun hb => ?_) (fun hb => ?_)
  · obtain ⟨u, hu⟩ : ∃ u, clashO b = some u := by
      cases z : clashO b with
      | none => rw [z] at hb; cases hb
      | some u => exact ⟨u, rfl⟩
    obtain ⟨huW, hu1, hu2, n, n', hn, hn', hne, hcl⟩ := clash_some B hu
    have hN : b.m ^ u.length ≤ 250 := Nat.le_trans (Nat.pow_le_pow_right (by omega) hu2) (Nat.le_trans BS.sm (by decide))
    refine runs_step (run_asg (d := .tup [wd u, wd n, wd n']) (ev_call G_clash (hr.mono (by decide)) rfl (evA_cons (ev_v (d := bkD b) 2 rfl) evA_nil) ⟨b, BS, he, rfl, by rw [hu, hcl]⟩) (tg_tup rfl (tgs_cons (tg_name 3 sc_law.nd rfl (.inl rfl)) (tgs_cons (tg_name 4 sc_law.nd rfl (.inl rfl)) (tgs_cons (tg_name 5 sc_law.nd rfl (.inl rfl)) tgs_nil))))) ?_
    refine runs_set 6 (d := .lst ((lastF b (walkF b u)).map wd)) (ev_call G__law_last_ones (hr.mono (by decide)) rfl (evA_cons (ev_call (d := toldD b (walkF b u)) G__law_walk (hr.mono (by decide)) rfl (evA_cons (ev_v (d := bkD b) 2 rfl) (evA_cons (ev_v (d := wd u) 3 rfl) evA_nil)) ⟨b, u, B, huW, hu1, by omega, hN, rfl, rfl⟩) evA_nil) ⟨b, walkF b u, fun v hv => by rw [((mem_walkF B huW).mp hv).len B]; exact hu1, Nat.le_trans (walkF_few B huW) hN, rfl, rfl⟩) sc_law.nd rfl (.inl rfl) ?_
    have in1 : n ∈ lastF b (walkF b u) := mem_lastF.mpr ⟨(mem_walkF B huW).mpr hn.1, hn.2⟩
    have in2 : n' ∈ lastF b (walkF b u) := mem_lastF.mpr ⟨(mem_walkF B huW).mpr hn'.1, hn'.2⟩
    generalize lastF b (walkF b u) = L at in1 in2
    have room : ∀ (X : Cx), X.A.units + 100 < cLine → X.A.units + 65 < cLine := fun X h => by omega
    refine runs_ret (ev_and (k1 := true) (ev_eq (ev_cmp (ev_v (d := wd n) 4 rfl) (ev_v (d := .lst (L.map wd)) 6 rfl) (cop_inD (n := 2) (room _ (room100 hr)) okn_wd (okn_lst (okn_map fun _ => okn_wd)))) ?_) fun h => (ev_and (k1 := true) (ev_eq (ev_cmp (ev_v (d := wd n') 5 rfl) (ev_v (d := .lst (L.map wd)) 6 rfl) (cop_inD (n := 2) (room _ (room100 hr)) okn_wd (okn_lst (okn_map fun _ => okn_wd)))) ?_) fun h => (ev_one (ev_cmp (ev_v (d := wd n) 4 rfl) (ev_v (d := wd n') 5 rfl) (cop_neD (n := 1) hr okn_wd okn_wd))))) (rt_eq ?_)
    · rw [any_wd, decide_eq_true in1]
    · rw [any_wd, decide_eq_true in2]
    · rw [beq_dec (n := 1) (fun _ => okn_wd) (fun _ _ => wd_inj) n n', decide_eq_false hne]
      rfl
  have hc : clashO b = none := by
    cases z : clashO b with
    | none => rfl
    | some u => rw [z] at hb; cases hb
  refine runs_nil ?_
  refine runs_for (List.range 2) nD (fun pre ρ => ∃ r c3 c4 c5 c6 c7, ρ = [.va (.scr ns), .mr q (rowQ ns r), .va (bkD b), c3, c4, c5, c6, c7]) .never rfl (itr_range1 (n := 2) ev_int (by decide) rfl T.range) ?_ ?_ ?_
  · exact ⟨r4, .un, .un, .un, .un, .un, rfl⟩
  · rintro pre a post ρ' hl ⟨r, c3, c4, c5, c6, c7, rfl⟩
    refine ⟨_, _, (tg_name 7 sc_law.nd rfl (.inl rfl)), ?_⟩
    obtain ⟨k, hk⟩ : ∃ k, k = if b.m < 3 then 3 else 2 := ⟨_, rfl⟩
    have hk0 : 0 < k := by rw [hk]; split <;> decide
    have hkm : b.m ^ (4 + k - 1) ≤ 250 := by
      have hm : b.m = 2 ∨ b.m = 3 := by omega
      rcases hm with hm | hm <;> rw [hk, hm] <;> decide
    have hk3 : k ≤ 3 := by rw [hk]; split <;> decide
    have htl := takF_lt ns r hk0
    obtain ⟨n, hn⟩ : ∃ n, n = 4 + (takF ns r k).1 := ⟨_, rfl⟩
    refine runs_set 3 (d := wd (letN ns b.m (takF ns r k).2 n)) (ev_callM2 (i := 1) (r := q) (ds00 := rowQ ns r) (ds0 := rowQ ns (takF ns r k).2) (ds1 := rowQ ns (letGo ns b.m n (takF ns r k).2)) G__law_letters (hr.mono (by decide)) rfl rfl (.inl rfl) rfl
      (ρ1 := [.va (.scr ns), .mr q (rowQ ns (takF ns r k).2), .va (bkD b), c3, c4, c5, c6, .va (nD a)])
      (evA_cons (ev_ix (d := nD b.m) (ev_v (d := bkD b) 2 rfl) ev_int at_bk0) (evA_cons (d := nD n) (ev_eq (ev_op ev_int (ev_callM (i := 1) (r := q) (d := nD (takF ns r k).1) (ds0 := rowQ ns r) (ds1 := rowQ ns (takF ns r k).2) G__law_taken (hr.mono (by decide)) rfl rfl (.inl rfl) (evA_cons (d := nD k) (ev_ifexpP (evB_cmp (ev_ix (d := nD b.m) (ev_v (d := bkD b) 2 rfl) ev_int at_bk0) ev_int cop_lt) (fun h => ?_) (fun h => ?_)) evA_nil) rfl ⟨ns, r, k, hk0, by omega, rfl, rfl, rfl, rfl⟩) bop_add) (by rw [hn]; show D.int _ = D.int _; congr 1)) evA_nil))
      rfl ⟨ns, (takF ns r k).2, b.m, n, by omega, by omega, by omega, rfl, rfl, rfl, rfl⟩) sc_law.nd rfl (.inl rfl) ?_
    · have : b.m < 3 := by
        have := of_decide_eq_true h
        omega
      rw [hk, if_pos this]
      exact ev_int
    · have : ¬ b.m < 3 := by
        have := of_decide_eq_false h
        omega
      rw [hk, if_neg this]
      exact ev_int
    generalize hrr : letGo ns b.m n (takF ns r k).2 = rr
    have huW : WdOk b (letN ns b.m (takF ns r k).2 n) := letN_lt ns (by omega) _ _
    have hul := letN_len ns b.m (takF ns r k).2 n
    generalize letN ns b.m (takF ns r k).2 n = u at huW hul
    have hN : b.m ^ u.length ≤ 250 := Nat.le_trans (Nat.pow_le_pow_right (by omega) (by omega)) hkm
    refine runs_set 6 (d := toldD b (walkF b u)) (ev_call G__law_walk (hr.mono (by decide)) rfl (evA_cons (ev_v (d := bkD b) 2 rfl) (evA_cons (ev_v (d := wd u) 3 rfl) evA_nil)) ⟨b, u, B, huW, by omega, by omega, hN, rfl, rfl⟩) sc_law.nd rfl (.inl rfl) ?_
    have kW : ∀ v ∈ walkF b u, WdOk b v := fun v hv => ((mem_walkF B huW).mp hv).ok B huW
    have k1 : ∀ v ∈ walkF b u, 1 ≤ v.length := fun v hv => by rw [((mem_walkF B huW).mp hv).len B]; omega
    have kS : ∀ v ∈ walkF b u, (stepsF b v).length ≤ 250 := fun v hv => Nat.le_trans (steps_few B huW ((mem_walkF B huW).mp hv)) hN
    have kN : (walkF b u).length ≤ 250 := Nat.le_trans (walkF_few B huW) hN
    have lo := last_one B he hc huW
    have rl : (restedF b u).length ≤ 100 := by
      have := (restedF_rest B he huW).1.len B
      omega
    refine runs_if (PW.pt (evW_or (evB_isNone (ev_call (d := .lst ((layGo b (walkF b u).length [] (walkF b u)).map wd)) G__law_layers (hr.mono (by decide)) rfl (evA_cons (ev_v (d := toldD b (walkF b u)) 6 rfl) evA_nil) ⟨b, walkF b u, B, he, kW, kS, kN, rfl, rfl⟩)) fun h => (evW_or1 (evB_not (evB_val (ev_call (d := .bl true) G__law_alike (hr.mono (by decide)) rfl (evA_cons (d := .lst ([restedF b u].map wd)) (ev_lst (evA_cons (ev_call (d := wd (restedF b u)) G_rest (hr.mono (by decide)) rfl (evA_cons (ev_v (d := bkD b) 2 rfl) (evA_cons (ev_v (d := wd u) 3 rfl) evA_nil)) ⟨b, u, BS, he, hc, huW, by omega, by omega, rfl, rfl⟩) evA_nil)) (evA_cons (d := .lst ([restedF b u].map wd)) (ev_call G__law_last_ones (hr.mono (by decide)) rfl (evA_cons (ev_v (d := toldD b (walkF b u)) 6 rfl) evA_nil) ⟨b, walkF b u, k1, kN, rfl, by rw [lo]⟩) evA_nil)) ⟨[restedF b u], Nat.le_of_ble_eq_true rfl, fun v hv => by rw [List.mem_singleton.mp hv]; exact rl, rfl, rfl⟩)))))) (fun hb => by cases hb) (fun hb => ?_)
    exact runs_nil (runs_nil ⟨rr, _, _, _, _, _, rfl⟩)
  · rintro ρ' ⟨r, c3, c4, c5, c6, c7, rfl⟩
    refine runs_ret (ev_isNone (ev_call (d := clD b (clashO b)) G_clash (hr.mono (by decide)) rfl (evA_cons (ev_v (d := bkD b) 2 rfl) evA_nil) ⟨b, BS, he, rfl, rfl⟩)) (rt_eq ?_)
    rw [hc]
    rfl
end
end K8
set_option maxHeartbeats 0
/-! The head: what stands behind the program's top, and the law's claim. -/
namespace K8
open PySem PySem.Spec PyProof.Rows L2
def d_is_in : He.DefD := ⟨("is_in", none), "is_in", "is_in", defArgs s_is_in, defBody s_is_in, defScope s_is_in, [], []⟩
def d_gcd : He.DefD := ⟨("gcd", none), "gcd", "gcd", defArgs s_gcd, defBody s_gcd, defScope s_gcd, [], []⟩
def d_reduced : He.DefD := ⟨("reduced", none), "reduced", "reduced", defArgs s_reduced, defBody s_reduced, defScope s_reduced, [], []⟩
def d_plus : He.DefD := ⟨("plus", none), "plus", "plus", defArgs s_plus, defBody s_plus, defScope s_plus, [], []⟩
def d_minus : He.DefD := ⟨("minus", none), "minus", "minus", defArgs s_minus, defBody s_minus, defScope s_minus, [], []⟩
def d_times : He.DefD := ⟨("times", none), "times", "times", defArgs s_times, defBody s_times, defScope s_times, [], []⟩
def d_over : He.DefD := ⟨("over", none), "over", "over", defArgs s_over, defBody s_over, defScope s_over, [], []⟩
def d_less : He.DefD := ⟨("less", none), "less", "less", defArgs s_less, defBody s_less, defScope s_less, [], []⟩
def d_whole : He.DefD := ⟨("whole", none), "whole", "whole", defArgs s_whole, defBody s_whole, defScope s_whole, [], []⟩
def d_is_row : He.DefD := ⟨("is_row", none), "is_row", "is_row", defArgs s_is_row, defBody s_is_row, defScope s_is_row, [], []⟩
def d_is_rule : He.DefD := ⟨("is_rule", none), "is_rule", "is_rule", defArgs s_is_rule, defBody s_is_rule, defScope s_is_rule, [], []⟩
def d_need_book : He.DefD := ⟨("need_book", none), "need_book", "need_book", defArgs s_need_book, defBody s_need_book, defScope s_need_book, [], []⟩
def d_need_word : He.DefD := ⟨("need_word", none), "need_word", "need_word", defArgs s_need_word, defBody s_need_word, defScope s_need_word, [], []⟩
def d_longest_rule : He.DefD := ⟨("longest_rule", none), "longest_rule", "longest_rule", defArgs s_longest_rule, defBody s_longest_rule, defScope s_longest_rule, [], []⟩
def d_spots_of : He.DefD := ⟨("spots_of", none), "spots_of", "spots_of", defArgs s_spots_of, defBody s_spots_of, defScope s_spots_of, [], []⟩
def d_steps_in : He.DefD := ⟨("steps_in", none), "steps_in", "steps_in", defArgs s_steps_in, defBody s_steps_in, defScope s_steps_in, [], []⟩
def d_falls : He.DefD := ⟨("falls", none), "falls", "falls", defArgs s_falls, defBody s_falls, defScope s_falls, [], []⟩
def d_changes : He.DefD := ⟨("changes", none), "changes", "changes", defArgs s_changes, defBody s_changes, defScope s_changes, [], []⟩
def d_first_tableau : He.DefD := ⟨("first_tableau", none), "first_tableau", "first_tableau", defArgs s_first_tableau, defBody s_first_tableau, defScope s_first_tableau, [], []⟩
def d_taken_off : He.DefD := ⟨("taken_off", none), "taken_off", "taken_off", defArgs s_taken_off, defBody s_taken_off, defScope s_taken_off, [], []⟩
def d_turned : He.DefD := ⟨("turned", none), "turned", "turned", defArgs s_turned, defBody s_turned, defScope s_turned, [], []⟩
def d_leaving : He.DefD := ⟨("leaving", none), "leaving", "leaving", defArgs s_leaving, defBody s_leaving, defScope s_leaving, [], []⟩
def d_solve : He.DefD := ⟨("solve", none), "solve", "solve", defArgs s_solve, defBody s_solve, defScope s_solve, [], []⟩
def d_opposites : He.DefD := ⟨("opposites", none), "opposites", "opposites", defArgs s_opposites, defBody s_opposites, defScope s_opposites, [], []⟩
def d_weights_of : He.DefD := ⟨("weights_of", none), "weights_of", "weights_of", defArgs s_weights_of, defBody s_weights_of, defScope s_weights_of, [], []⟩
def d_place_at : He.DefD := ⟨("place_at", none), "place_at", "place_at", defArgs s_place_at, defBody s_place_at, defScope s_place_at, [], []⟩
def d_at_hand : He.DefD := ⟨("at_hand", none), "at_hand", "at_hand", defArgs s_at_hand, defBody s_at_hand, defScope s_at_hand, [], []⟩
def d_spread_of : He.DefD := ⟨("spread_of", none), "spread_of", "spread_of", defArgs s_spread_of, defBody s_spread_of, defScope s_spread_of, [], []⟩
def d_closing : He.DefD := ⟨("closing", none), "closing", "closing", defArgs s_closing, defBody s_closing, defScope s_closing, [], []⟩
def d_sums_of : He.DefD := ⟨("sums_of", none), "sums_of", "sums_of", defArgs s_sums_of, defBody s_sums_of, defScope s_sums_of, [], []⟩
def d_level : He.DefD := ⟨("level", none), "level", "level", defArgs s_level, defBody s_level, defScope s_level, [], []⟩
def d_turn_of : He.DefD := ⟨("turn_of", none), "turn_of", "turn_of", defArgs s_turn_of, defBody s_turn_of, defScope s_turn_of, [], []⟩
def d_climb : He.DefD := ⟨("climb", none), "climb", "climb", defArgs s_climb, defBody s_climb, defScope s_climb, [], []⟩
def d_ends_in : He.DefD := ⟨("ends_in", none), "ends_in", "ends_in", defArgs s_ends_in, defBody s_ends_in, defScope s_ends_in, [], []⟩
def d_ends : He.DefD := ⟨("ends", none), "ends", "ends", defArgs s_ends, defBody s_ends, defScope s_ends, [], []⟩
def d_need_ending : He.DefD := ⟨("need_ending", none), "need_ending", "need_ending", defArgs s_need_ending, defBody s_need_ending, defScope s_need_ending, [], []⟩
def d_all_words : He.DefD := ⟨("all_words", none), "all_words", "all_words", defArgs s_all_words, defBody s_all_words, defScope s_all_words, [], []⟩
def d_rests_of : He.DefD := ⟨("rests_of", none), "rests_of", "rests_of", defArgs s_rests_of, defBody s_rests_of, defScope s_rests_of, [], []⟩
def d_clash_in : He.DefD := ⟨("clash_in", none), "clash_in", "clash_in", defArgs s_clash_in, defBody s_clash_in, defScope s_clash_in, [], []⟩
def d_clash : He.DefD := ⟨("clash", none), "clash", "clash", defArgs s_clash, defBody s_clash, defScope s_clash, [], []⟩
def d_has_one_rest : He.DefD := ⟨("has_one_rest", none), "has_one_rest", "has_one_rest", defArgs s_has_one_rest, defBody s_has_one_rest, defScope s_has_one_rest, [], []⟩
def d_need_one_rest : He.DefD := ⟨("need_one_rest", none), "need_one_rest", "need_one_rest", defArgs s_need_one_rest, defBody s_need_one_rest, defScope s_need_one_rest, [], []⟩
def d_rested : He.DefD := ⟨("rested", none), "rested", "rested", defArgs s_rested, defBody s_rested, defScope s_rested, [], []⟩
def d_rest : He.DefD := ⟨("rest", none), "rest", "rest", defArgs s_rest, defBody s_rest, defScope s_rest, [], []⟩
def d__law_taken : He.DefD := ⟨("_law_taken", none), "_law_taken", "_law_taken", defArgs s__law_taken, defBody s__law_taken, defScope s__law_taken, [], []⟩
def d__law_pick : He.DefD := ⟨("_law_pick", none), "_law_pick", "_law_pick", defArgs s__law_pick, defBody s__law_pick, defScope s__law_pick, [], []⟩
def d__law_order : He.DefD := ⟨("_law_order", none), "_law_order", "_law_order", defArgs s__law_order, defBody s__law_order, defScope s__law_order, [], []⟩
def d__law_calm : He.DefD := ⟨("_law_calm", none), "_law_calm", "_law_calm", defArgs s__law_calm, defBody s__law_calm, defScope s__law_calm, [], []⟩
def d__law_letters : He.DefD := ⟨("_law_letters", none), "_law_letters", "_law_letters", defArgs s__law_letters, defBody s__law_letters, defScope s__law_letters, [], []⟩
def d__law_book : He.DefD := ⟨("_law_book", none), "_law_book", "_law_book", defArgs s__law_book, defBody s__law_book, defScope s__law_book, [], []⟩
def d__law_last_ones : He.DefD := ⟨("_law_last_ones", none), "_law_last_ones", "_law_last_ones", defArgs s__law_last_ones, defBody s__law_last_ones, defScope s__law_last_ones, [], []⟩
def d__law_steps : He.DefD := ⟨("_law_steps", none), "_law_steps", "_law_steps", defArgs s__law_steps, defBody s__law_steps, defScope s__law_steps, [], []⟩
def d__law_walk : He.DefD := ⟨("_law_walk", none), "_law_walk", "_law_walk", defArgs s__law_walk, defBody s__law_walk, defScope s__law_walk, [], []⟩
def d__law_layers : He.DefD := ⟨("_law_layers", none), "_law_layers", "_law_layers", defArgs s__law_layers, defBody s__law_layers, defScope s__law_layers, [], []⟩
def d__law_alike : He.DefD := ⟨("_law_alike", none), "_law_alike", "_law_alike", defArgs s__law_alike, defBody s__law_alike, defScope s__law_alike, [], []⟩
def d_law : He.DefD := ⟨("law", none), "law", "law", defArgs s_law, defBody s_law, defScope s_law, [], []⟩
def fn0 : List He.DefD := [d_is_in, d_gcd, d_reduced, d_plus, d_minus, d_times, d_over, d_less, d_whole, d_is_row, d_is_rule, d_need_book, d_need_word, d_longest_rule, d_spots_of, d_steps_in, d_falls, d_changes, d_first_tableau, d_taken_off]
def fn1 : List He.DefD := [d_turned, d_leaving, d_solve, d_opposites, d_weights_of, d_place_at, d_at_hand, d_spread_of, d_closing, d_sums_of, d_level, d_turn_of, d_climb, d_ends_in, d_ends, d_need_ending, d_all_words, d_rests_of, d_clash_in, d_clash]
def fn2 : List He.DefD := [d_has_one_rest, d_need_one_rest, d_rested, d_rest, d__law_taken, d__law_pick, d__law_order, d__law_calm, d__law_letters, d__law_book, d__law_last_ones, d__law_steps, d__law_walk, d__law_layers, d__law_alike, d_law]
def fn : List He.DefD := fn0 ++ (fn1 ++ (fn2))
def fa0 : List He.Fa := [.glo "is_in", .glo "gcd", .glo "reduced", .glo "plus", .glo "minus", .glo "times", .glo "over", .glo "less", .glo "whole", .glo "is_row", .glo "is_rule", .glo "need_book", .glo "need_word", .glo "longest_rule", .glo "spots_of", .glo "steps_in", .glo "falls", .glo "changes", .glo "first_tableau", .glo "taken_off"]
def fa1 : List He.Fa := [.glo "turned", .glo "leaving", .glo "solve", .glo "opposites", .glo "weights_of", .glo "place_at", .glo "at_hand", .glo "spread_of", .glo "closing", .glo "sums_of", .glo "level", .glo "turn_of", .glo "climb", .glo "ends_in", .glo "ends", .glo "need_ending", .glo "all_words", .glo "rests_of", .glo "clash_in", .glo "clash"]
def fa2 : List He.Fa := [.glo "has_one_rest", .glo "need_one_rest", .glo "rested", .glo "rest", .glo "_law_taken", .glo "_law_pick", .glo "_law_order", .glo "_law_calm", .glo "_law_letters", .glo "_law_book", .glo "_law_last_ones", .glo "_law_steps", .glo "_law_walk", .glo "_law_layers", .glo "_law_alike", .glo "law", .free "isinstance", .free "len", .free "abs", .free "range"]
def fa3 : List He.Fa := [.free "enumerate", .free "zip", .free "list", .free "tuple", .free "sorted", .free "int", .free "max", .free "sum", .free "set", .free "bool", .free "str", .int "MOST_LETTERS" 4, .int "MOST_RULES" 12, .int "MOST_LONG" 3, .int "MOST_REST" 20, .glo "WORDS"]
def fa : List He.Fa := fa0 ++ (fa1 ++ (fa2 ++ (fa3)))
def ls0 : List PySem.Str := ["ScatterError", "BadBook", "BadWord", "NotEnding", "NotOneRest", "is_in", "gcd", "reduced", "plus", "minus", "times", "over", "less", "whole", "MOST_LETTERS", "MOST_RULES", "MOST_LONG", "is_row", "is_rule", "need_book", "need_word", "longest_rule", "spots_of", "steps_in", "falls", "changes", "first_tableau", "taken_off", "turned", "leaving"]
def ls1 : List PySem.Str := ["solve", "WORDS", "opposites", "weights_of", "place_at", "at_hand", "spread_of", "closing", "sums_of", "level", "turn_of", "climb", "ends_in", "ends", "need_ending", "all_words", "rests_of", "clash_in", "clash", "has_one_rest", "need_one_rest", "MOST_REST", "rested", "rest", "_law_taken", "_law_pick", "_law_order", "_law_calm", "_law_letters", "_law_book"]
def ls2 : List PySem.Str := ["_law_last_ones", "_law_steps", "_law_walk", "_law_layers", "_law_alike"]
def ls : List PySem.Str := ls0 ++ (ls1 ++ (ls2))

abbrev R : PySem.W.OpenRow := PySem.W.OpenLaw.row PySem.Challenge.rw_scatterbooks_k08_whole_one_rest_for_long
def wds : List He.Dv := [.str "early", .str "even", .str "late"]
def obsW (K : PySem.W.Frag) : Bool × He.AlD := (He.tupB K "WORDS" wds, He.obsD fa fn K)
def hk : PySem.W.Hook where
  α := Bool × He.AlD
  obs := fun s => obsW (He.frG s.heap.get? (He.asD s.heap.get? 4))
  val := fun _ => (true, He.valD fn)
  says := fun _ h => ∃ K : PySem.W.Frag, K.In h ∧ He.SaysD fa fn K ∧ He.tupB K "WORDS" wds = true
  of := fun _ _ e => ⟨_, He.frG_in, congrArg Prod.snd e, congrArg Prod.fst e⟩
  keeps := fun _ _ _ ⟨K, hK, c⟩ k => ⟨K, PySem.W.Frag.In.keeps hK k, c⟩
def ob (s : PySem.W.SharedT) : Bool × He.AlD := obsW (He.frG (HandSHeadRun.getT s) (He.asD (HandSHeadRun.getT s) 4))
theorem ob_eq (s : PySem.W.SharedT) : ob s = hk.obs s.abs := by
  have e : HandSHeadRun.getT s = s.abs.heap.get? := funext (HandSHeadRun.getT_eq s)
  unfold ob
  rw [e]
  rfl
theorem run (w : World) : HandSHeadRun.RunEq R (PySem.W.view R.prog [73]) hk ob 4000 ls w := by
  intro os
  kernel_rfl
section
variable {P : Program} {w : World} {K : PySem.W.Frag} {h : Heap} {mg : Str → Option Value} {base : Heap}
theorem def_at (X : K.In h) (G : h.Ns mainGlobals mg) (c : He.SaysD fa fn K) (i : Nat) {x : Str} {st : Stmt} (h1 : fn[i]? = some ⟨(x, none), x, x, defArgs st, defBody st, defScope st, [], []⟩) (h2 : fa[i]? = some (.glo x)) : DefAt K mg x st := by
  obtain ⟨fd, F⟩ := c.def_ i h1
  exact ⟨_, fd, He.glo_ok X G (c.fact i h2), F⟩
theorem gb_of (X : K.In h) (G : h.Ns mainGlobals mg) (c : He.SaysD fa fn K) : Gb K mg where
  isinstance := He.free_ok X G (c.fact 56 (f := .free "isinstance") rfl)
  len := He.free_ok X G (c.fact 57 (f := .free "len") rfl)
  abs := He.free_ok X G (c.fact 58 (f := .free "abs") rfl)
  range := He.free_ok X G (c.fact 59 (f := .free "range") rfl)
  enumerate := He.free_ok X G (c.fact 60 (f := .free "enumerate") rfl)
  zip := He.free_ok X G (c.fact 61 (f := .free "zip") rfl)
  list := He.free_ok X G (c.fact 62 (f := .free "list") rfl)
  tuple := He.free_ok X G (c.fact 63 (f := .free "tuple") rfl)
  sorted := He.free_ok X G (c.fact 64 (f := .free "sorted") rfl)
  int := He.free_ok X G (c.fact 65 (f := .free "int") rfl)
  max := He.free_ok X G (c.fact 66 (f := .free "max") rfl)
  sum := He.free_ok X G (c.fact 67 (f := .free "sum") rfl)
  set := He.free_ok X G (c.fact 68 (f := .free "set") rfl)
  bool := He.free_ok X G (c.fact 69 (f := .free "bool") rfl)
  str := He.free_ok X G (c.fact 70 (f := .free "str") rfl)
  ml := He.int_ok X G (c.fact 71 (f := .int "MOST_LETTERS" 4) rfl)
  mr := He.int_ok X G (c.fact 72 (f := .int "MOST_RULES" 12) rfl)
  mo := He.int_ok X G (c.fact 73 (f := .int "MOST_LONG" 3) rfl)
  ms := He.int_ok X G (c.fact 74 (f := .int "MOST_REST" 20) rfl)
theorem gw_of (X : K.In h) (G : h.Ns mainGlobals mg) (c : He.SaysD fa fn K) (t : He.tupB K "WORDS" wds = true) : Gw K mg := ⟨_, He.glo_ok X G (c.fact 75 (f := .glo "WORDS") rfl), fun H => He.tupB_ok t H⟩
theorem facts {f : Addr} (X : K.In h) (G : h.Ns mainGlobals mg) (hfa : mg ("law" : Str) = some (.ref f)) (c : He.SaysD fa fn K) (t : He.tupB K "WORDS" wds = true) :
    ∃ fd : FuncData, (∀ (s : Shared) (v : Value), BindsTo s fd ⟨[v], []⟩ [("_law_script", v)]) ∧ ∀ base : Heap, FnOk P w K mg base CX0 15 f fd ["_law_script"] (spD K R_law) := by
  have T := gb_of X G c
  have W := gw_of X G c t
  have A_is_in : DefAt K mg "is_in" s_is_in := def_at X G c 0 rfl rfl
  have A_gcd : DefAt K mg "gcd" s_gcd := def_at X G c 1 rfl rfl
  have A_reduced : DefAt K mg "reduced" s_reduced := def_at X G c 2 rfl rfl
  have A_plus : DefAt K mg "plus" s_plus := def_at X G c 3 rfl rfl
  have A_minus : DefAt K mg "minus" s_minus := def_at X G c 4 rfl rfl
  have A_times : DefAt K mg "times" s_times := def_at X G c 5 rfl rfl
  have A_over : DefAt K mg "over" s_over := def_at X G c 6 rfl rfl
  have A_less : DefAt K mg "less" s_less := def_at X G c 7 rfl rfl
  have A_whole : DefAt K mg "whole" s_whole := def_at X G c 8 rfl rfl
  have A_is_row : DefAt K mg "is_row" s_is_row := def_at X G c 9 rfl rfl
  have A_is_rule : DefAt K mg "is_rule" s_is_rule := def_at X G c 10 rfl rfl
  have A_need_book : DefAt K mg "need_book" s_need_book := def_at X G c 11 rfl rfl
  have A_need_word : DefAt K mg "need_word" s_need_word := def_at X G c 12 rfl rfl
  have A_longest_rule : DefAt K mg "longest_rule" s_longest_rule := def_at X G c 13 rfl rfl
  have A_spots_of : DefAt K mg "spots_of" s_spots_of := def_at X G c 14 rfl rfl
  have A_steps_in : DefAt K mg "steps_in" s_steps_in := def_at X G c 15 rfl rfl
  have A_falls : DefAt K mg "falls" s_falls := def_at X G c 16 rfl rfl
  have A_changes : DefAt K mg "changes" s_changes := def_at X G c 17 rfl rfl
  have A_first_tableau : DefAt K mg "first_tableau" s_first_tableau := def_at X G c 18 rfl rfl
  have A_taken_off : DefAt K mg "taken_off" s_taken_off := def_at X G c 19 rfl rfl
  have A_turned : DefAt K mg "turned" s_turned := def_at X G c 20 rfl rfl
  have A_leaving : DefAt K mg "leaving" s_leaving := def_at X G c 21 rfl rfl
  have A_solve : DefAt K mg "solve" s_solve := def_at X G c 22 rfl rfl
  have A_opposites : DefAt K mg "opposites" s_opposites := def_at X G c 23 rfl rfl
  have A_weights_of : DefAt K mg "weights_of" s_weights_of := def_at X G c 24 rfl rfl
  have A_place_at : DefAt K mg "place_at" s_place_at := def_at X G c 25 rfl rfl
  have A_at_hand : DefAt K mg "at_hand" s_at_hand := def_at X G c 26 rfl rfl
  have A_spread_of : DefAt K mg "spread_of" s_spread_of := def_at X G c 27 rfl rfl
  have A_closing : DefAt K mg "closing" s_closing := def_at X G c 28 rfl rfl
  have A_sums_of : DefAt K mg "sums_of" s_sums_of := def_at X G c 29 rfl rfl
  have A_level : DefAt K mg "level" s_level := def_at X G c 30 rfl rfl
  have A_turn_of : DefAt K mg "turn_of" s_turn_of := def_at X G c 31 rfl rfl
  have A_climb : DefAt K mg "climb" s_climb := def_at X G c 32 rfl rfl
  have A_ends_in : DefAt K mg "ends_in" s_ends_in := def_at X G c 33 rfl rfl
  have A_ends : DefAt K mg "ends" s_ends := def_at X G c 34 rfl rfl
  have A_need_ending : DefAt K mg "need_ending" s_need_ending := def_at X G c 35 rfl rfl
  have A_all_words : DefAt K mg "all_words" s_all_words := def_at X G c 36 rfl rfl
  have A_rests_of : DefAt K mg "rests_of" s_rests_of := def_at X G c 37 rfl rfl
  have A_clash_in : DefAt K mg "clash_in" s_clash_in := def_at X G c 38 rfl rfl
  have A_clash : DefAt K mg "clash" s_clash := def_at X G c 39 rfl rfl
  have A_has_one_rest : DefAt K mg "has_one_rest" s_has_one_rest := def_at X G c 40 rfl rfl
  have A_need_one_rest : DefAt K mg "need_one_rest" s_need_one_rest := def_at X G c 41 rfl rfl
  have A_rested : DefAt K mg "rested" s_rested := def_at X G c 42 rfl rfl
  have A_rest : DefAt K mg "rest" s_rest := def_at X G c 43 rfl rfl
  have A__law_taken : DefAt K mg "_law_taken" s__law_taken := def_at X G c 44 rfl rfl
  have A__law_pick : DefAt K mg "_law_pick" s__law_pick := def_at X G c 45 rfl rfl
  have A__law_order : DefAt K mg "_law_order" s__law_order := def_at X G c 46 rfl rfl
  have A__law_calm : DefAt K mg "_law_calm" s__law_calm := def_at X G c 47 rfl rfl
  have A__law_letters : DefAt K mg "_law_letters" s__law_letters := def_at X G c 48 rfl rfl
  have A__law_book : DefAt K mg "_law_book" s__law_book := def_at X G c 49 rfl rfl
  have A__law_last_ones : DefAt K mg "_law_last_ones" s__law_last_ones := def_at X G c 50 rfl rfl
  have A__law_steps : DefAt K mg "_law_steps" s__law_steps := def_at X G c 51 rfl rfl
  have A__law_walk : DefAt K mg "_law_walk" s__law_walk := def_at X G c 52 rfl rfl
  have A__law_layers : DefAt K mg "_law_layers" s__law_layers := def_at X G c 53 rfl rfl
  have A__law_alike : DefAt K mg "_law_alike" s__law_alike := def_at X G c 54 rfl rfl
  obtain ⟨fd, F⟩ := c.def_ 55 (d := d_law) rfl
  have e := hfa.symm.trans (He.glo_ok X G (c.fact 55 (f := .glo "law") rfl))
  cases e
  have b := FunD.bindsA (ps := ["_law_script"]) F fun _ _ _ _ _ _ us hl => match us, hl with | [_], _ => rfl
  refine ⟨fd, fun s v => b s [v] rfl, fun base => ?_⟩
  have G__law_taken := ok__law_taken (P := P) (w := w) (base := base) T A__law_taken
  have G__law_pick := ok__law_pick (P := P) (w := w) (base := base) T A__law_pick G__law_taken
  have G__law_order := ok__law_order (P := P) (w := w) (base := base) T A__law_order G__law_taken
  have G__law_calm := ok__law_calm (P := P) (w := w) (base := base) T A__law_calm G__law_taken G__law_order
  have G__law_letters := ok__law_letters (P := P) (w := w) (base := base) T A__law_letters G__law_taken
  have G__law_book := ok__law_book (P := P) (w := w) (base := base) T A__law_book G__law_taken G__law_order G__law_letters
  have G__law_steps := ok__law_steps (P := P) (w := w) (base := base) T A__law_steps
  have G__law_walk := ok__law_walk (P := P) (w := w) (base := base) T A__law_walk G__law_steps
  have G__law_last_ones := ok__law_last_ones (P := P) (w := w) (base := base) T A__law_last_ones
  have G__law_layers := ok__law_layers (P := P) (w := w) (base := base) T A__law_layers
  have G__law_alike2 := ok__law_alike2 (P := P) (w := w) (base := base) T A__law_alike
  have G_is_in := ok_is_in (P := P) (w := w) (base := base) T A_is_in
  have G_is_row := ok_is_row (P := P) (w := w) (base := base) T A_is_row G_is_in
  have G_is_rule := ok_is_rule (P := P) (w := w) (base := base) T A_is_rule G_is_row
  have G_need_book := ok_need_book (P := P) (w := w) (base := base) T A_need_book G_is_in G_is_rule
  have G_changes := ok_changes (P := P) (w := w) (base := base) T A_changes
  have G_sums_of := ok_sums_of (P := P) (w := w) (base := base) T A_sums_of G_changes
  have G_gcd := ok_gcd (P := P) (w := w) (base := base) T A_gcd
  have G_reduced := ok_reduced (P := P) (w := w) (base := base) T A_reduced G_gcd
  have G_minus := ok_minus (P := P) (w := w) (base := base) T A_minus G_reduced
  have G_first_tableau := ok_first_tableau (P := P) (w := w) (base := base) T A_first_tableau G_minus
  have G_less := ok_less (P := P) (w := w) (base := base) T A_less
  have G_over := ok_over (P := P) (w := w) (base := base) T A_over G_reduced
  have G_leaving := ok_leaving (P := P) (w := w) (base := base) T A_leaving G_less G_over
  have G_times := ok_times (P := P) (w := w) (base := base) T A_times G_reduced
  have G_taken_off := ok_taken_off (P := P) (w := w) (base := base) T A_taken_off G_minus G_times
  have G_turned := ok_turned (P := P) (w := w) (base := base) T A_turned G_over G_taken_off
  have G_solve := ok_solve (P := P) (w := w) (base := base) T A_solve G_first_tableau G_less G_leaving G_turned G_times G_minus
  have G_opposites := ok_opposites (P := P) (w := w) (base := base) T A_opposites G_solve
  have G_plus := ok_plus (P := P) (w := w) (base := base) T A_plus G_reduced
  have G_whole := ok_whole (P := P) (w := w) (base := base) T A_whole G_gcd
  have G_weights_of := ok_weights_of (P := P) (w := w) (base := base) T A_weights_of G_plus G_whole
  have G_at_hand := ok_at_hand (P := P) (w := w) (base := base) T A_at_hand
  have G_place_at := ok_place_at (P := P) (w := w) (base := base) T A_place_at
  have G_spread_of := ok_spread_of (P := P) (w := w) (base := base) T A_spread_of G_place_at G_plus G_whole
  have G_closing := ok_closing (P := P) (w := w) (base := base) T A_closing G_changes G_at_hand G_place_at G_opposites G_weights_of G_spread_of
  have G_level := ok_level (P := P) (w := w) (base := base) T A_level G_sums_of G_opposites G_weights_of G_closing
  have G_falls := ok_falls (P := P) (w := w) (base := base) T A_falls
  have G_turn_of := ok_turn_of (P := P) (w := w) (base := base) T A_turn_of
  have G_climb := ok_climb (P := P) (w := w) (base := base) T W A_climb G_level G_falls G_turn_of
  have G_ends_in := ok_ends_in (P := P) (w := w) (base := base) T A_ends_in G_climb
  have G_ends := ok_ends (P := P) (w := w) (base := base) T A_ends G_need_book G_ends_in
  have G_need_ending := ok_need_ending (P := P) (w := w) (base := base) T A_need_ending G_need_book G_ends_in
  have G_longest_rule := ok_longest_rule (P := P) (w := w) (base := base) T A_longest_rule
  have G_all_words := ok_all_words (P := P) (w := w) (base := base) T A_all_words
  have G_spots_of := ok_spots_of (P := P) (w := w) (base := base) T A_spots_of
  have G_steps_in := ok_steps_in (P := P) (w := w) (base := base) T A_steps_in G_spots_of
  have G_rests_of := ok_rests_of (P := P) (w := w) (base := base) T A_rests_of G_steps_in
  have G_clash_in := ok_clash_in (P := P) (w := w) (base := base) T A_clash_in G_longest_rule G_all_words G_rests_of
  have G_clash := ok_clash (P := P) (w := w) (base := base) T A_clash G_need_ending G_clash_in
  have G_has_one_rest := ok_has_one_rest (P := P) (w := w) (base := base) T A_has_one_rest G_need_ending G_clash_in
  have G_need_one_rest := ok_need_one_rest (P := P) (w := w) (base := base) T A_need_one_rest G_need_ending G_clash_in
  have G_need_word := ok_need_word (P := P) (w := w) (base := base) T A_need_word G_is_in
  have G_rested := ok_rested (P := P) (w := w) (base := base) T A_rested G_steps_in
  have G_rest := ok_rest (P := P) (w := w) (base := base) T A_rest G_need_one_rest G_need_word G_rested
  exact ok_law T F G__law_taken G__law_pick G__law_calm G__law_letters G__law_book G__law_walk G__law_last_ones G__law_layers G__law_alike2 G_ends G_clash G_has_one_rest G_rest
end
end K8
open PySem PySem.W PySem.Calls PyProof.Rows
theorem PySem.Challenge.cw_scatterbooks_k08_whole_one_rest_for_long_holds : PySem.Challenge.rw_scatterbooks_k08_whole_one_rest_for_long.Holds := by
  w_on; o_law
  refine HandSHeadRun.head_any (r := OpenLaw.row PySem.Challenge.rw_scatterbooks_k08_whole_one_rest_for_long) (q := view (OpenLaw.row PySem.Challenge.rw_scatterbooks_k08_whole_one_rest_for_long).prog [73]) (H := K8.hk) (ob := K8.ob) (M := 4000) (loose := K8.ls) (d := HandSHeadRun.topDef (OpenLaw.row PySem.Challenge.rw_scatterbooks_k08_whole_one_rest_for_long).prog 73) (kwd := []) K8.ob_eq
    (by kernel_rfl) (fun s => by kernel_rfl) K8.run (by kernel_rfl) (by kernel_rfl) (by kernel_rfl) (by rfl) (by first | assumption | decide +kernel) (by decide +kernel) ⟨rfl, rfl, rfl, rfl, rfl, by decide +kernel⟩ ?hw ?hc
  case hw => w_witness2
  case hc =>
    refine L2.walk_ofE (l := PySem.Challenge.rw_scatterbooks_k08_whole_one_rest_for_long) (n := 63) (k := 15) (x := "_law_script") (CX := L2.CX0) rfl (by decide) (by kernel_rfl) ⟨rfl, by decide, by decide⟩ ?F (fun _ _ _ _ z => z)
    intro w mg fa h Y G hmg0
    obtain ⟨K, KX, c, t⟩ := Y
    have hmg : mg ("law" : PySem.Str) = some (.ref fa) := by
      have e : (HandSHeadRun.topDef (OpenLaw.row PySem.Challenge.rw_scatterbooks_k08_whole_one_rest_for_long).prog 73).name = ("law" : PySem.Str) := by kernel_rfl
      rw [← e]
      exact hmg0
    obtain ⟨fd, hb, hF⟩ := K8.facts (P := (PySem.Challenge.rw_scatterbooks_k08_whole_one_rest_for_long).prog) (w := w) KX G hmg c t
    refine ⟨K, fd, K8.spD K K8.R_law, KX, hb, fun H a ns _ _ hS => ⟨fun _ => none, H, [.scr ns], .bl true, ⟨ns, rfl, rfl⟩, ⟨fun _ _ e => .inl e, fun _ _ e => (by cases e), fun _ _ _ => .inl rfl, fun _ _ e => e⟩, .cons (.scr hS) .nil, fun F' H' v _ _ i => ?_⟩, fun base _ _ => hF base⟩
    cases i
    rfl

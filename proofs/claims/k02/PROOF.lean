import PyProof.Rows.All
import Wide.All
import OpenK.AllK
import Wide.FinOn
import HandS.ForMost
import HandS.Wide
import HandS.IsInst
import HandS.Style
import HandS.TupAny
import HandS.TupMul
import HandS.Zip
import HandS.SortInts
import HandS.SortRule
import HandS.Deep
import HandS.EndBits
import HandS.Strs
import HandS.TupSets
import HandS.SetFor
import PySem.Challenge.RW_staytariffs_k02_prices_of_stays
set_option Elab.async false
set_option linter.all false
set_option maxRecDepth 100000
set_option linter.unusedVariables false
namespace Lay
open PySem PySem.Spec PyProof.Rows L2

/-! ## values and heaps -/
section
variable {K : PySem.W.Frag} {G G' : Hp}
theorem sqT_mono (s : Same G G') {a : Addr} {xs : List V} (h : SqT K G a xs) : SqT K G' a xs := by
  rcases h with (h | ⟨o, h⟩) | h
  · exact .inl (.inl (s _ _ h))
  · exact .inl (.inr ⟨o, s _ _ h⟩)
  · exact .inr h
mutual
theorem dp_mono (s : Same G G') : ∀ (d : PyData) (v : V), Dp K G v d → Dp K G' v d
  | .none, _, h => by cases h; exact .non
  | .bool b, _, h => by cases h; exact .bl _
  | .int i, _, h => by cases h; exact .int _
  | .str x, _, h => by cases h; exact .str _
  | .list ds, _, h => by
    cases h with
    | lst a b => exact .lst (s.seq a) (dpA_mono s ds _ b)
  | .tuple ds, _, h => by
    cases h with
    | tup a b => exact .tup (sqT_mono s a) (dpA_mono s ds _ b)
  | .dict _, _, h => by cases h
theorem dpA_mono (s : Same G G') : ∀ (ds : List PyData) (vs : List V), DpAll K G vs ds → DpAll K G' vs ds
  | [], _, h => by cases h; exact .nil
  | d :: ds, _, h => by
    cases h with
    | cons a b => exact .cons (dp_mono s d _ a) (dpA_mono s ds _ b)
end
theorem dpA_len : ∀ {vs : List V} {ds : List PyData}, DpAll K G vs ds → vs.length = ds.length
  | _, _, .nil => rfl
  | _, _, .cons _ t => congrArg (· + 1) (dpA_len t)
theorem dpA_get : ∀ {vs : List V} {ds : List PyData} {i : Nat} {d : PyData}, DpAll K G vs ds → ds[i]? = some d → ∃ v, vs[i]? = some v ∧ Dp K G v d
  | _, _, _, _, .nil, h => by simp at h
  | _, _, 0, _, .cons a _, h => by
    simp at h
    subst h
    exact ⟨_, rfl, a⟩
  | _, _, i + 1, _, .cons _ t, h => by
    obtain ⟨v, h1, h2⟩ := dpA_get (i := i) t (by simpa using h)
    exact ⟨v, by simpa using h1, h2⟩
theorem dpA_get' : ∀ {vs : List V} {ds : List PyData} {i : Nat} {v : V}, DpAll K G vs ds → vs[i]? = some v → ∃ d, ds[i]? = some d ∧ Dp K G v d
  | _, _, _, _, .nil, h => by simp at h
  | _, _, 0, _, .cons a _, h => by
    simp at h
    subst h
    exact ⟨_, rfl, a⟩
  | _, _, i + 1, _, .cons _ t, h => by
    obtain ⟨v, h1, h2⟩ := dpA_get' (i := i) t (by simpa using h)
    exact ⟨v, by simpa using h1, h2⟩
theorem dpA_app : ∀ {vs ws : List V} {ds es : List PyData}, DpAll K G vs ds → DpAll K G ws es → DpAll K G (vs ++ ws) (ds ++ es)
  | _, _, _, _, .nil, h => h
  | _, _, _, _, .cons a t, h => .cons a (dpA_app t h)
theorem dpA_set : ∀ {vs : List V} {ds : List PyData} {v : V} {d : PyData} (i : Nat), DpAll K G vs ds → Dp K G v d → DpAll K G (vs.set i v) (ds.set i d)
  | _, _, _, _, _, .nil, _ => .nil
  | _, _, _, _, 0, .cons _ t, h => .cons h t
  | _, _, _, _, i + 1, .cons a t, h => .cons a (dpA_set i t h)
theorem dpA_take : ∀ {vs : List V} {ds : List PyData} (n : Nat), DpAll K G vs ds → DpAll K G (vs.take n) (ds.take n)
  | _, _, 0, _ => .nil
  | _, _, _ + 1, .nil => .nil
  | _, _, n + 1, .cons a t => .cons a (dpA_take n t)
theorem dpA_drop : ∀ {vs : List V} {ds : List PyData} (n : Nat), DpAll K G vs ds → DpAll K G (vs.drop n) (ds.drop n)
  | _, _, 0, h => h
  | _, _, _ + 1, .nil => .nil
  | _, _, n + 1, .cons _ t => dpA_drop n t
theorem dpA_rep {vs : List V} {ds : List PyData} (h : DpAll K G vs ds) : ∀ n : Nat, DpAll K G (List.replicate n vs).flatten (List.replicate n ds).flatten
  | 0 => .nil
  | n + 1 => by
    rw [List.replicate_succ, List.replicate_succ, List.flatten_cons, List.flatten_cons]
    exact dpA_app h (dpA_rep h n)
theorem dpA_rev {vs : List V} {ds : List PyData} (h : DpAll K G vs ds) : DpAll K G vs.reverse ds.reverse := by
  induction vs generalizing ds with
  | nil => cases h; exact .nil
  | cons v vs ih =>
    cases h with
    | cons a t =>
      rw [List.reverse_cons, List.reverse_cons]
      exact dpA_app (ih t) (.cons a .nil)
theorem dpA_ints : ∀ {ns : List Int} {vs : List V}, DpAll K G vs (ns.map PyData.int) → vs = ns.map V.int
  | [], _, h => by cases h; rfl
  | n :: ns, _, h => by
    cases h with
    | cons a t =>
      cases a
      rw [dpA_ints t]
      rfl
theorem dpA_ofInts : ∀ (ns : List Int), DpAll K G (ns.map V.int) (ns.map PyData.int)
  | [] => .nil
  | n :: ns => .cons (.int n) (dpA_ofInts ns)
theorem dpA_bls : ∀ {ns : List Bool} {vs : List V}, DpAll K G vs (ns.map PyData.bool) → vs = ns.map V.bl
  | [], _, h => by cases h; rfl
  | n :: ns, _, h => by
    cases h with
    | cons a t =>
      cases a
      rw [dpA_bls t]
      rfl
end

/-- what grows: the values' heap G within the heap H -/
structure Grow (G H G' H' : Hp) : Prop where
  g : Same G G'
  h : Same H H'
  gh : Same G' H'
  new : ∀ p o, H p = some o → G p = none → G' p = none
theorem Grow.refl {G H : Hp} (s : Same G H) : Grow G H G H := ⟨Same.refl _, Same.refl _, s, fun _ _ _ h => h⟩
theorem Grow.trans {G H G1 H1 G2 H2 : Hp} (a : Grow G H G1 H1) (b : Grow G1 H1 G2 H2) : Grow G H G2 H2 :=
  ⟨a.g.trans b.g, a.h.trans b.h, b.gh, fun p o h1 h2 => b.new p o (a.h p o h1) (a.new p o h1 h2)⟩
theorem same_new {H : Hp} {p : Addr} {o : HO} (h : H p = none) : Same H (upd H p o) := fun b x e => by
  rw [upd_ne (ne_of_none e h)]
  exact e
theorem same_upd2 {G H : Hp} (s : Same G H) {p : Addr} {o : HO} : Same (upd G p o) (upd H p o) := fun b x e => by
  by_cases hb : b = p
  · subst hb
    rw [upd_same] at e ⊢
    exact e
  · rw [upd_ne hb] at e ⊢
    exact s b x e
theorem none_of_same {G H : Hp} (s : Same G H) {p : Addr} (h : H p = none) : G p = none := Same.free s h
/-- a new value's object, in both -/
theorem Grow.val {G H : Hp} (s : Same G H) {p : Addr} {o : HO} (h : H p = none) : Grow G H (upd G p o) (upd H p o) := by
  refine ⟨same_new (none_of_same s h), same_new h, same_upd2 s, fun q u h1 h2 => ?_⟩
  rw [upd_ne (ne_of_none h1 h)]
  exact h2

/-! ## the values by slot -/
inductive SV where
  | no
  | val (d : PyData)
  | own (ds : List PyData)
  | raw (v : V)
def SV.isOwn : SV → Bool
  | .own _ => true
  | _ => false
/-- an owned object at v, its addresses fp -/
def OwnAt (K : PySem.W.Frag) (G H : Hp) (v : V) (sv : SV) (fp : List Addr) : Prop :=
  match sv with
  | .own ds => ∃ p xs, v = .ref p ∧ fp = [p] ∧ H p = some (.lst xs) ∧ DpAll K G xs ds
  | _ => False
theorem OwnAt.keep {K : PySem.W.Frag} {G H G' H' : Hp} {v : V} {sv : SV} {fp : List Addr} (o : OwnAt K G H v sv fp) (g : Same G G') (h : ∀ p ∈ fp, H' p = H p) : OwnAt K G' H' v sv fp := by
  cases sv with
  | own ds =>
    obtain ⟨p, xs, e1, e2, e3, e4⟩ := o
    exact ⟨p, xs, e1, e2, by rw [h p (by rw [e2]; exact List.mem_cons_self)]; exact e3, dpA_mono g _ _ e4⟩
  | _ => exact o.elim
theorem OwnAt.there {K : PySem.W.Frag} {G H : Hp} {v : V} {sv : SV} {fp : List Addr} (o : OwnAt K G H v sv fp) : ∀ p ∈ fp, ∃ u, H p = some u := by
  cases sv with
  | own ds =>
    obtain ⟨p, xs, e1, e2, e3, e4⟩ := o
    intro q hq
    rw [e2] at hq
    have e : q = p := by simpa using hq
    subst e
    exact ⟨_, e3⟩
  | _ => exact o.elim

structure StF (K : PySem.W.Frag) (A : Hp) (σ : L2.St) (G H : Hp) (ρ : List SV) (fp : Nat → List Addr) : Prop where
  len : σ.length = ρ.length
  gh : Same G H
  ah : Same A H
  dis : ∀ p o, A p = some o → G p = none
  val : ∀ (i : Nat) (d : PyData), ρ[i]? = some (.val d) → ∃ v, σ[i]? = some (some v) ∧ Dp K G v d
  raw : ∀ (i : Nat) (v : V), ρ[i]? = some (.raw v) → σ[i]? = some (some v)
  own : ∀ (i : Nat) (sv : SV), ρ[i]? = some sv → sv.isOwn = true → ∃ v, σ[i]? = some (some v) ∧ OwnAt K G H v sv (fp i)
  off : ∀ (i : Nat) (sv : SV), ρ[i]? = some sv → sv.isOwn = true → ∀ p ∈ fp i, G p = none ∧ A p = none
  sep : ∀ (i j : Nat) (sv sw : SV), ρ[i]? = some sv → sv.isOwn = true → ρ[j]? = some sw → sw.isOwn = true → i ≠ j → ∀ p ∈ fp i, p ∉ fp j
def StR (K : PySem.W.Frag) (A : Hp) (σ : L2.St) (G H : Hp) (ρ : List SV) : Prop := ∃ fp, StF K A σ G H ρ fp

section
variable {K : PySem.W.Frag} {A : Hp} {σ : L2.St} {G H G' H' : Hp} {ρ : List SV} {i : Nat} {d : PyData} {v : V}
theorem StR.len (s : StR K A σ G H ρ) : σ.length = ρ.length := let ⟨_, s⟩ := s; s.len
theorem StR.gh (s : StR K A σ G H ρ) : Same G H := let ⟨_, s⟩ := s; s.gh
theorem StR.ah (s : StR K A σ G H ρ) : Same A H := let ⟨_, s⟩ := s; s.ah
theorem StR.dis (s : StR K A σ G H ρ) : ∀ p o, A p = some o → G p = none := let ⟨_, s⟩ := s; s.dis
theorem StR.val (s : StR K A σ G H ρ) (h : ρ[i]? = some (.val d)) : ∃ v, σ[i]? = some (some v) ∧ Dp K G v d := let ⟨_, s⟩ := s; s.val i d h
theorem StR.raw (s : StR K A σ G H ρ) (h : ρ[i]? = some (.raw v)) : σ[i]? = some (some v) := let ⟨_, s⟩ := s; s.raw i v h
theorem StR.grow (s : StR K A σ G H ρ) (g : Grow G H G' H') : StR K A σ G' H' ρ := by
  obtain ⟨fp, s⟩ := s
  refine ⟨fp, s.len, g.gh, s.ah.trans g.h, fun p o h => g.new p o (s.ah p o h) (s.dis p o h), fun i d h => ?_, s.raw, fun i sv h k => ?_, fun i sv h k p hp => ?_, s.sep⟩
  · obtain ⟨v, e, x⟩ := s.val i d h
    exact ⟨v, e, dp_mono g.g _ _ x⟩
  · obtain ⟨v, e, x⟩ := s.own i sv h k
    refine ⟨v, e, x.keep g.g fun p hp => ?_⟩
    obtain ⟨u, hu⟩ := x.there p hp
    rw [hu]
    exact g.h p u hu
  · obtain ⟨v, e, x⟩ := s.own i sv h k
    obtain ⟨u, hu⟩ := x.there p hp
    have q := s.off i sv h k p hp
    exact ⟨g.new p u hu q.1, q.2⟩
/-- other values at the slots that are no owned ones -/
theorem getElem_set_cases {α : Type} {l : List α} {i j : Nat} {x y : α} (h : (l.set i x)[j]? = some y) : (i = j ∧ y = x) ∨ (i ≠ j ∧ l[j]? = some y) := by
  by_cases e : i = j
  · subst e
    rw [List.getElem?_set_self'] at h
    cases q : l[i]? with
    | none => rw [q] at h; cases h
    | some z =>
      rw [q] at h
      exact .inl ⟨rfl, (Option.some.inj h).symm⟩
  · rw [List.getElem?_set_ne e] at h
    exact .inr ⟨e, h⟩
theorem set_get {α : Type} {l : List α} {i : Nat} {x : α} (h : i < l.length) : (l.set i x)[i]? = some x := List.getElem?_set_self h
theorem StR.setVal (s : StR K A σ G H ρ) (x : Dp K G v d) : StR K A (σ.set i (some v)) G H (ρ.set i (.val d)) := by
  obtain ⟨fp, s⟩ := s
  have old : ∀ (j : Nat) (sv : SV), (ρ.set i (.val d))[j]? = some sv → sv.isOwn = true → i ≠ j ∧ ρ[j]? = some sv := fun j sv h k => by
    rcases getElem_set_cases h with ⟨_, e⟩ | q
    · rw [e] at k; cases k
    · exact q
  refine ⟨fp, by rw [List.length_set, List.length_set]; exact s.len, s.gh, s.ah, s.dis, fun j e h => ?_, fun j w h => ?_, fun j sv h k => ?_, fun j sv h k => s.off j sv (old j sv h k).2 k,
    fun j l sv sw h k h' k' n => s.sep j l sv sw (old j sv h k).2 k (old l sw h' k').2 k' n⟩
  · rcases getElem_set_cases h with ⟨e1, e2⟩ | ⟨n, h⟩
    · subst e1
      cases e2
      refine ⟨v, set_get ?_, x⟩
      rw [s.len]
      have := (List.getElem?_eq_some_iff.mp h).1
      simpa using this
    · rw [List.getElem?_set_ne n]
      exact s.val j e h
  · rcases getElem_set_cases h with ⟨_, e2⟩ | ⟨n, h⟩
    · cases e2
    · rw [List.getElem?_set_ne n]
      exact s.raw j w h
  · have q := old j sv h k
    rw [List.getElem?_set_ne q.1]
    exact s.own j sv q.2 k
theorem StR.setRaw (s : StR K A σ G H ρ) : StR K A (σ.set i (some v)) G H (ρ.set i (.raw v)) := by
  obtain ⟨fp, s⟩ := s
  have old : ∀ (j : Nat) (sv : SV), (ρ.set i (.raw v))[j]? = some sv → sv.isOwn = true → i ≠ j ∧ ρ[j]? = some sv := fun j sv h k => by
    rcases getElem_set_cases h with ⟨_, e⟩ | q
    · rw [e] at k; cases k
    · exact q
  refine ⟨fp, by rw [List.length_set, List.length_set]; exact s.len, s.gh, s.ah, s.dis, fun j e h => ?_, fun j w h => ?_, fun j sv h k => ?_, fun j sv h k => s.off j sv (old j sv h k).2 k,
    fun j l sv sw h k h' k' n => s.sep j l sv sw (old j sv h k).2 k (old l sw h' k').2 k' n⟩
  · rcases getElem_set_cases h with ⟨_, e2⟩ | ⟨n, h⟩
    · cases e2
    · rw [List.getElem?_set_ne n]
      exact s.val j e h
  · rcases getElem_set_cases h with ⟨e1, e2⟩ | ⟨n, h⟩
    · subst e1
      cases e2
      refine set_get ?_
      rw [s.len]
      have := (List.getElem?_eq_some_iff.mp h).1
      simpa using this
    · rw [List.getElem?_set_ne n]
      exact s.raw j w h
  · have q := old j sv h k
    rw [List.getElem?_set_ne q.1]
    exact s.own j sv q.2 k
/-- slots forgotten, or wiped -/
theorem StR.forget {σ' : L2.St} {ρ' : List SV} (s : StR K A σ G H ρ) (hl : σ'.length = ρ'.length) (hr : ∀ (j : Nat) (sv : SV), ρ'[j]? = some sv → sv = .no ∨ (ρ[j]? = some sv ∧ σ'[j]? = σ[j]?)) : StR K A σ' G H ρ' := by
  obtain ⟨fp, s⟩ := s
  have old : ∀ (j : Nat) (sv : SV), ρ'[j]? = some sv → sv.isOwn = true → ρ[j]? = some sv ∧ σ'[j]? = σ[j]? := fun j sv h k => by
    rcases hr j sv h with e | q
    · rw [e] at k; cases k
    · exact q
  refine ⟨fp, hl, s.gh, s.ah, s.dis, fun j e h => ?_, fun j w h => ?_, fun j sv h k => ?_, fun j sv h k => s.off j sv (old j sv h k).1 k,
    fun j l sv sw h k h' k' n => s.sep j l sv sw (old j sv h k).1 k (old l sw h' k').1 k' n⟩
  · rcases hr j _ h with z | ⟨h1, h2⟩
    · cases z
    · rw [h2]
      exact s.val j e h1
  · rcases hr j _ h with z | ⟨h1, h2⟩
    · cases z
    · rw [h2]
      exact s.raw j w h1
  · have q := old j sv h k
    rw [q.2]
    exact s.own j sv q.1 k
theorem StR.drop (s : StR K A σ G H ρ) {o : Option V} : StR K A (σ.set i o) G H (ρ.set i .no) := by
  refine s.forget (by rw [List.length_set, List.length_set]; exact s.len) fun j sv h => ?_
  rcases getElem_set_cases h with ⟨_, e⟩ | ⟨n, h⟩
  · exact .inl e
  · exact .inr ⟨h, List.getElem?_set_ne n⟩
theorem StR.dropR (s : StR K A σ G H ρ) : StR K A σ G H (ρ.set i .no) := by
  refine s.forget (by rw [List.length_set]; exact s.len) fun j sv h => ?_
  rcases getElem_set_cases h with ⟨_, e⟩ | ⟨n, h⟩
  · exact .inl e
  · exact .inr ⟨h, rfl⟩
/-- a new list, owned by a slot -/
theorem StR.setOwn {p : Addr} {xs : List V} {ds : List PyData} (s : StR K A σ G H ρ) (hp : H p = none) (x : DpAll K G xs ds) : StR K A (σ.set i (some (.ref p))) G (upd H p (.lst xs)) (ρ.set i (.own ds)) := by
  obtain ⟨fp, s⟩ := s
  have gp : G p = none := none_of_same s.gh hp
  have ap : A p = none := none_of_same s.ah hp
  have notin : ∀ (j : Nat) (sv : SV), ρ[j]? = some sv → sv.isOwn = true → p ∉ fp j := fun j sv h k hm => by
    obtain ⟨v, _, o⟩ := s.own j sv h k
    obtain ⟨u, hu⟩ := o.there p hm
    rw [hp] at hu
    cases hu
  refine ⟨fun j => if j = i then [p] else fp j, by rw [List.length_set, List.length_set]; exact s.len, s.gh.trans (same_new hp), s.ah.trans (same_new hp), s.dis, fun j e h => ?_, fun j w h => ?_, fun j sv h k => ?_, fun j sv h k q hq => ?_, fun j l sv sw h k h' k' n q hq => ?_⟩
  · rcases getElem_set_cases h with ⟨_, e2⟩ | ⟨n, h⟩
    · cases e2
    · rw [List.getElem?_set_ne n]
      exact s.val j e h
  · rcases getElem_set_cases h with ⟨_, e2⟩ | ⟨n, h⟩
    · cases e2
    · rw [List.getElem?_set_ne n]
      exact s.raw j w h
  · rcases getElem_set_cases h with ⟨e1, e2⟩ | ⟨n, h⟩
    · subst e1
      subst e2
      refine ⟨.ref p, set_get ?_, p, xs, rfl, if_pos rfl, upd_same, x⟩
      rw [s.len]
      have := (List.getElem?_eq_some_iff.mp h).1
      simpa using this
    · rw [List.getElem?_set_ne n, if_neg (Ne.symm n)]
      obtain ⟨v, e, o⟩ := s.own j sv h k
      exact ⟨v, e, o.keep (Same.refl _) fun q hq => upd_ne fun z => notin j sv h k (by rw [← z]; exact hq)⟩
  · rcases getElem_set_cases h with ⟨e1, e2⟩ | ⟨n, h⟩
    · rw [if_pos e1.symm] at hq
      have e : q = p := by simpa using hq
      rw [e]
      exact ⟨gp, ap⟩
    · rw [if_neg (Ne.symm n)] at hq
      exact s.off j sv h k q hq
  · rcases getElem_set_cases h with ⟨e1, e2⟩ | ⟨n1, h⟩
    · rw [if_pos e1.symm] at hq
      have e : q = p := by simpa using hq
      rcases getElem_set_cases h' with ⟨e3, e4⟩ | ⟨n2, h'⟩
      · exact absurd (e1.symm.trans e3) n
      · show q ∉ (if l = i then [p] else fp l)
        rw [if_neg (Ne.symm n2), e]
        exact notin l sw h' k'
    · rw [if_neg (Ne.symm n1)] at hq
      rcases getElem_set_cases h' with ⟨e3, e4⟩ | ⟨n2, h'⟩
      · show q ∉ (if l = i then [p] else fp l)
        rw [if_pos e3.symm]
        intro z
        have e : q = p := by simpa using z
        rw [e] at hq
        exact notin j sv h k hq
      · show q ∉ (if l = i then [p] else fp l)
        rw [if_neg (Ne.symm n2)]
        exact s.sep j l sv sw h k h' k' n q hq
/-- an owned list is changed -/
theorem StR.mutOwn {ds ds' : List PyData} (s : StR K A σ G H ρ) (h : ρ[i]? = some (.own ds)) :
    ∃ p xs, σ[i]? = some (some (.ref p)) ∧ H p = some (.lst xs) ∧ DpAll K G xs ds ∧ G p = none ∧ A p = none ∧
      ∀ xs' ds', DpAll K G xs' ds' → StR K A σ G (upd H p (.lst xs')) (ρ.set i (.own ds')) := by
  obtain ⟨fp, s⟩ := s
  obtain ⟨v, e, p, xs, rfl, ef, hp, x⟩ := s.own i _ h rfl
  have off := s.off i _ h rfl p (by rw [ef]; exact List.mem_cons_self)
  refine ⟨p, xs, e, hp, x, off.1, off.2, fun xs' ds' x' => ?_⟩
  have notin : ∀ (j : Nat) (sv : SV), i ≠ j → ρ[j]? = some sv → sv.isOwn = true → p ∉ fp j := fun j sv n h' k => s.sep i j _ sv h rfl h' k n p (by rw [ef]; exact List.mem_cons_self)
  have su : ∀ {B : Hp}, B p = none → Same B H → Same B (upd H p (.lst xs')) := fun hb sb b o eb => by
    rw [upd_ne (ne_of_none eb hb)]
    exact sb b o eb
  refine ⟨fp, by rw [List.length_set]; exact s.len, su off.1 s.gh, su off.2 s.ah, s.dis, fun j d hj => ?_, fun j w hj => ?_, fun j sv hj k => ?_, fun j sv hj k q hq => ?_, fun j l sv sw hj k hl k' n => ?_⟩
  · rcases getElem_set_cases hj with ⟨_, e2⟩ | ⟨n, hj⟩
    · cases e2
    · exact s.val j d hj
  · rcases getElem_set_cases hj with ⟨_, e2⟩ | ⟨n, hj⟩
    · cases e2
    · exact s.raw j w hj
  · rcases getElem_set_cases hj with ⟨e1, e2⟩ | ⟨n, hj⟩
    · subst e1
      subst e2
      exact ⟨.ref p, e, p, xs', rfl, ef, upd_same, x'⟩
    · obtain ⟨v, e, o⟩ := s.own j sv hj k
      exact ⟨v, e, o.keep (Same.refl _) fun q hq => upd_ne fun z => notin j sv n hj k (by rw [← z]; exact hq)⟩
  · rcases getElem_set_cases hj with ⟨e1, e2⟩ | ⟨n, hj⟩
    · subst e1
      exact s.off i _ h rfl q hq
    · exact s.off j sv hj k q hq
  · rcases getElem_set_cases hj with ⟨e1, e2⟩ | ⟨n1, hj⟩
    · subst e1
      rcases getElem_set_cases hl with ⟨e3, e4⟩ | ⟨n2, hl⟩
      · exact absurd e3 n
      · exact s.sep i l _ sw h rfl hl k' n
    · rcases getElem_set_cases hl with ⟨e3, e4⟩ | ⟨n2, hl⟩
      · subst e3
        exact s.sep j i sv _ hj k h rfl n
      · exact s.sep j l sv sw hj k hl k' n
/-- an owned list becomes a value -/
theorem StR.freeze {ds : List PyData} (s : StR K A σ G H ρ) (h : ρ[i]? = some (.own ds)) :
    ∃ p xs, σ[i]? = some (some (.ref p)) ∧ G p = none ∧ A p = none ∧ H p = some (.lst xs) ∧ DpAll K G xs ds ∧ StR K A σ (upd G p (.lst xs)) H (ρ.set i (.val (.list ds))) := by
  obtain ⟨fp, s⟩ := s
  obtain ⟨v, e, p, xs, rfl, ef, hp, x⟩ := s.own i _ h rfl
  have off := s.off i _ h rfl p (by rw [ef]; exact List.mem_cons_self)
  have sg : Same G (upd G p (.lst xs)) := same_new off.1
  have old : ∀ (j : Nat) (sv : SV), (ρ.set i (.val (.list ds)))[j]? = some sv → sv.isOwn = true → i ≠ j ∧ ρ[j]? = some sv := fun j sv h k => by
    rcases getElem_set_cases h with ⟨_, e⟩ | q
    · rw [e] at k; cases k
    · exact q
  refine ⟨p, xs, e, off.1, off.2, hp, x, fp, by rw [List.length_set]; exact s.len, fun b o eb => ?_, s.ah, fun b o eb => ?_, fun j d hj => ?_, fun j w hj => ?_, fun j sv hj k => ?_, fun j sv hj k q hq => ?_, fun j l sv sw hj k hl k' n => s.sep j l sv sw (old j sv hj k).2 k (old l sw hl k').2 k' n⟩
  · by_cases hb : b = p
    · subst hb
      rw [upd_same] at eb
      cases eb
      exact hp
    · rw [upd_ne hb] at eb
      exact s.gh b o eb
  · rw [upd_ne (ne_of_none eb off.2)]
    exact s.dis b o eb
  · rcases getElem_set_cases hj with ⟨e1, e2⟩ | ⟨n, hj⟩
    · subst e1
      cases e2
      exact ⟨.ref p, e, .lst (SqL.of upd_same) (dpA_mono sg _ _ x)⟩
    · obtain ⟨v, e, y⟩ := s.val j d hj
      exact ⟨v, e, dp_mono sg _ _ y⟩
  · rcases getElem_set_cases hj with ⟨_, e2⟩ | ⟨n, hj⟩
    · cases e2
    · exact s.raw j w hj
  · have q := old j sv hj k
    obtain ⟨v, e, o⟩ := s.own j sv q.2 k
    exact ⟨v, e, o.keep sg fun _ _ => rfl⟩
  · have z := old j sv hj k
    have w := s.off j sv z.2 k q hq
    refine ⟨?_, w.2⟩
    have nq : q ≠ p := fun e => s.sep i j _ sv h rfl z.2 k z.1 p (by rw [ef]; exact List.mem_cons_self) (by rw [← e]; exact hq)
    rw [upd_ne nq]
    exact w.1
end
end Lay

namespace Lay
open PySem PySem.Spec PyProof.Rows L2

/-! ## what a text does to the values by slot -/
abbrev Rho := List SV
abbrev Sem1 := Rho → Option (PyData × Rho)
abbrev SemT := Rho → Option (Bool × Rho)
abbrev SemL := Rho → Option (List PyData × Rho)
abbrev SemG := PyData → Rho → Option Rho
inductive Out where
  | nx (ρ : Rho)
  | rt (d : PyData) (ρ : Rho)
  | rf (ds : List PyData) (ρ : Rho)
  | bk (ρ : Rho)
  | ct (ρ : Rho)
abbrev SemS := Rho → Option Out

/-! ## the readings of these -/
section
variable (K : PySem.W.Frag)
def cE (s : Sem1) : TE := fun σ H Q => ∃ A G ρ r ρ', s ρ = some (r, ρ') ∧ StR K A σ G H ρ ∧ ∀ v G' H', Same G G' → StR K A σ G' H' ρ' → Dp K G' v r → Q v H'
def cT (s : SemT) : TT := fun σ H Q => ∃ A G ρ r ρ', s ρ = some (r, ρ') ∧ StR K A σ G H ρ ∧ ∀ G' H', Same G G' → StR K A σ G' H' ρ' → Q r H'
def cA (s : SemL) : TA := fun σ H Q => ∃ A G ρ ds ρ', s ρ = some (ds, ρ') ∧ StR K A σ G H ρ ∧ ∀ vs G' H', Same G G' → StR K A σ G' H' ρ' → DpAll K G' vs ds → Q vs H'
/-- a list just made -/
def cF (s : SemL) : TE := fun σ H Q => ∃ A G ρ ds ρ', s ρ = some (ds, ρ') ∧ StR K A σ G H ρ ∧ ∀ p xs G' H', Same G G' → StR K A σ G' H' ρ' → H' p = none → DpAll K G' xs ds → Q (.ref p) (upd H' p (.lst xs))
def cS (s : SemS) : TS := fun D σ H => ∃ A G ρ o, s ρ = some o ∧ StR K A σ G H ρ ∧ match o with
  | .nx ρ' => ∀ σ' G' H', σ'[0]? = σ[0]? → Same G G' → StR K A σ' G' H' ρ' → D.nx σ' H'
  | .rt d ρ' => ∀ v σ' G' H', σ'[0]? = σ[0]? → Same G G' → StR K A σ' G' H' ρ' → Dp K G' v d → D.rt v H'
  | .rf ds ρ' => ∀ p xs σ' G' H', σ'[0]? = σ[0]? → Same G G' → StR K A σ' G' H' ρ' → H' p = none → DpAll K G' xs ds → D.rt (.ref p) (upd H' p (.lst xs))
  | .bk ρ' => ∀ σ' G' H', σ'[0]? = σ[0]? → Same G G' → StR K A σ' G' H' ρ' → D.bk σ' H'
  | .ct ρ' => ∀ σ' G' H', σ'[0]? = σ[0]? → Same G G' → StR K A σ' G' H' ρ' → D.ct σ' H'
end

section
variable {X : Cx} {e : Expr} {es : List Expr} {st : Stmt} {sts : List Stmt}
theorem pe_of {t t' : TE} (h : PE X e t) (i : ∀ σ H Q, t' σ H Q → t σ H Q) : PE X e t' := ⟨fun pins s σ H Q I q => h.run pins s σ H Q I (i _ _ _ q)⟩
theorem pt_of {t t' : TT} (h : PT X e t) (i : ∀ σ H Q, t' σ H Q → t σ H Q) : PT X e t' := ⟨fun pins s σ H Q I q => h.run pins s σ H Q I (i _ _ _ q)⟩
theorem pw_of {t t' : TT} (h : PW X e t) (i : ∀ σ H Q, t' σ H Q → t σ H Q) : PW X e t' := ⟨fun wh pins s σ H Q I q => h.run wh pins s σ H Q I (i _ _ _ q)⟩
theorem pa_of {t t' : TA} (h : PA X es t) (i : ∀ σ H Q, t' σ H Q → t σ H Q) : PA X es t' := ⟨fun pos pins s σ H Q I q => h.run pos pins s σ H Q I (i _ _ _ q)⟩
theorem ps_of {t t' : TS} (h : PS X st t) (i : ∀ D σ H, t' D σ H → t D σ H) : PS X st t' := ⟨fun pins s σ H D I q => h.run pins s σ H D I (i _ _ _ q)⟩
theorem pss_of {t t' : TS} (h : PSs X sts t) (i : ∀ D σ H, t' D σ H → t D σ H) : PSs X sts t' := ⟨fun pins s σ H D I q => h.run pins s σ H D I (i _ _ _ q)⟩
theorem bind_some {α β : Type} {o : Option α} {f : α → Option β} {b : β} (h : o.bind f = some b) : ∃ a, o = some a ∧ f a = some b := Option.bind_eq_some_iff.mp h
theorem map_some {α β : Type} {o : Option α} {f : α → β} {b : β} (h : o.map f = some b) : ∃ a, o = some a ∧ f a = b := Option.map_eq_some_iff.mp h

/-! ## names, constants -/
def sVar (i : Nat) : Sem1 := fun ρ => match ρ[i]? with
  | some (.val d) => some (d, ρ)
  | _ => none
def sC (d : PyData) : Sem1 := fun ρ => some (d, ρ)
theorem je_var (i : Nat) {x : Str} {pos : Pos} (hN : X.N[i]? = some x := by rfl) (hv : Vis X.env.scope x := by first | exact Or.inl rfl | exact Or.inr (Or.inl rfl) | exact Or.inr (Or.inr rfl)) (hd : (x == ("__debug__" : Str)) = false := by decide)
    (hcd : (x == ("__classdict__" : Str)) = false := by decide) : PE X (.Name x pos) (cE X.K (sVar i)) := by
  refine pe_of (pe_var hN hv hd hcd) fun σ H Q ⟨A, G, ρ, r, ρ', h, st, q⟩ => ?_
  unfold sVar at h
  split at h
  · rename_i d e
    cases h
    obtain ⟨v, e1, x⟩ := st.val e
    exact ⟨v, e1, q v G H (Same.refl _) st x⟩
  · cases h
theorem je_c {v : V} {d : PyData} (h : PE X e (tC v)) (r : ∀ G, Dp X.K G v d) : PE X e (cE X.K (sC d)) := by
  refine pe_of h fun σ H Q ⟨A, G, ρ, r0, ρ', h, st, q⟩ => ?_
  cases h
  exact q v G H (Same.refl _) st (r G)
theorem je_int {i : Int} {j pos} : PE X (.Constant (.int i) j pos) (cE X.K (sC (.int i))) := je_c pe_int fun _ => .int i
theorem je_bl {b : Bool} {j pos} : PE X (.Constant (.bool b) j pos) (cE X.K (sC (.bool b))) := je_c pe_bl fun _ => .bl b
theorem je_non {j pos} : PE X (.Constant .none j pos) (cE X.K (sC .none)) := je_c pe_non fun _ => .non
theorem je_str {x : Str} {j pos} : PE X (.Constant (.str x) j pos) (cE X.K (sC (.str x))) := je_c pe_str fun _ => .str x
/-- a module's int -/
theorem je_gint {x : Str} {i : Int} {t : Tok} {pos : Pos} (hg : Gl X x) (hm : X.mg x = some (.int i t)) (hd : (x == ("__debug__" : Str)) = false := by decide) : PE X (.Name x pos) (cE X.K (sC (.int i))) :=
  je_c (pe_glob hg hm (v := .int i) ⟨t, rfl⟩ hd) fun _ => .int i

/-! ## two-place operations -/
def sBin (f : PyData → PyData → Option PyData) (a b : Sem1) : Sem1 := fun ρ => (a ρ).bind fun x => (b x.2).bind fun y => (f x.1 y.1).map fun z => (z, y.2)
def RBin (K : PySem.W.Frag) (r : R2) (f : PyData → PyData → Option PyData) : Prop :=
  ∀ (G H : Hp) (v w : V) (x y z : PyData) (Q : VK), Same G H → Dp K G v x → Dp K G w y → f x y = some z → (∀ u G' H', Grow G H G' H' → Dp K G' u z → Q u H') → r v w H Q
theorem bin_imp {K : PySem.W.Frag} {r : R2} {f : PyData → PyData → Option PyData} (hr : RBin K r f) {sa sb : Sem1} (σ : L2.St) (H : Hp) (Q : VK) (h : cE K (sBin f sa sb) σ H Q) : tOp r (cE K sa) (cE K sb) σ H Q := by
  obtain ⟨A, G, ρ, r0, ρ', h, st, q⟩ := h
  obtain ⟨x, h1, h⟩ := bind_some h
  obtain ⟨y, h2, h⟩ := bind_some h
  obtain ⟨z, h3, e⟩ := map_some h
  cases e
  exact ⟨A, G, ρ, x.1, x.2, h1, st, fun v G1 H1 g1 st1 d1 => ⟨A, G1, x.2, y.1, y.2, h2, st1, fun w G2 H2 g2 st2 d2 =>
    hr G2 H2 v w _ _ _ Q st2.gh (dp_mono g2 _ _ d1) d2 h3 fun u G3 H3 gr d3 => q u G3 H3 ((g1.trans g2).trans gr.g) (st2.grow gr) d3⟩⟩
theorem je_bin {op : Operator} {a b : Expr} {pos : Pos} {r : R2} {f : PyData → PyData → Option PyData} {sa sb : Sem1} (ho : OpR X (binaryOp op) r) (hr : RBin X.K r f) (ha : PE X a (cE X.K sa)) (hb : PE X b (cE X.K sb)) :
    PE X (.BinOp a op b pos) (cE X.K (sBin f sa sb)) := pe_of (pe_op ho ha hb) (bin_imp hr)
theorem je_cmp {op : CmpOp} {a b : Expr} {pos : Pos} {r : R2} {f : PyData → PyData → Option PyData} {sa sb : Sem1} (ho : OpR X (compareOp op) r) (hr : RBin X.K r f) (hm : behindInMarks op b = false) (ha : PE X a (cE X.K sa)) (hb : PE X b (cE X.K sb)) :
    PE X (.Compare a [op] [b] pos) (cE X.K (sBin f sa sb)) := pe_of (pe_cmpR ho ha hb hm) (bin_imp hr)
theorem RBin.or {K : PySem.W.Frag} {r r' : R2} {f : PyData → PyData → Option PyData} (h : ∀ (G H : Hp) (v w : V) (x y z : PyData) (Q : VK), Same G H → Dp K G v x → Dp K G w y → f x y = some z → (∀ u G' H', Grow G H G' H' → Dp K G' u z → Q u H') → r v w H Q ∨ r' v w H Q) :
    RBin K (fun x y H Q => r x y H Q ∨ r' x y H Q) f := h

/-! ### list + list, of any lists that are read -/
def rCatL (K : PySem.W.Frag) : R2 := fun x y H Q => ∃ l b xs zs, x = .ref l ∧ y = .ref b ∧ SqL K H l xs ∧ SqL K H b zs ∧ xs.length + zs.length ≤ sizeLine ∧ ∀ p, H p = none → Q (.ref p) (upd H p (.lst (xs ++ zs)))
theorem op_catL : OpR X (binaryOp .Add) (rCatL X.K) := by
  intro pins s σ H x y v u Q I rx ry h
  obtain ⟨l, b, xs, zs, e1, e2, hl, hb, hz, q⟩ := h
  subst e1
  subst e2
  cases rx
  cases ry
  obtain ⟨is, ra, pa, _⟩ := I.list hl
  obtain ⟨js, rb, pb, _⟩ := I.list hb
  have na := ra.length
  have nb := rb.length
  obtain ⟨⟨c1, d1, k1, s1⟩, o1, hc1, n1, hd1⟩ := pa.isList
  obtain ⟨⟨c2, d2, k2, s2⟩, o2, hc2, n2, hd2⟩ := pb.isList
  simp only at hc1 hd1 hc2 hd2
  subst hc1 hd1 hc2 hd2
  have ez : is.toArray ++ js.toArray = (is ++ js).toArray := by simp
  refine concat_meets ⟨_, o1, rfl⟩ ⟨_, o2, rfl⟩ noFill_list_add seq_list_add PySem.F.slot_list_add PySem.F.entry_list_add (PySem.F.args_list_add_2 _ _)
    (list_addW l b is.toArray js.toArray n1 n2 d1 d2 s1 s2 (by simp only [List.size_toArray]; omega)) ⟨o1, o2, ?_⟩
  rw [ez]
  exact ⟨.ref _, _, I.lnew (t' := s.toks) (ra.append rb) (by rw [List.length_append]; omega), rfl, q _ I.fresh⟩

/-! ### the operators -/
def pAdd : PyData → PyData → Option PyData
  | .int i, .int j => some (.int (i + j))
  | .list xs, .list ys => if xs.length + ys.length ≤ 16777216 then some (.list (xs ++ ys)) else none
  | .tuple xs, .tuple ys => if xs.length + ys.length ≤ 16777216 then some (.tuple (xs ++ ys)) else none
  | _, _ => none
def pSub : PyData → PyData → Option PyData
  | .int i, .int j => some (.int (i - j))
  | _, _ => none
def pMul : PyData → PyData → Option PyData
  | .int i, .int j => if (-(2 ^ 64) < i ∧ i < 2 ^ 64) ∨ (-(2 ^ 64) < j ∧ j < 2 ^ 64) then some (.int (i * j)) else none
  | .tuple xs, .int k => if xs ≠ [] ∧ 2 ≤ k ∧ k ≤ 1000 ∧ xs.length ≤ 1000 then some (.tuple (List.replicate k.toNat xs).flatten) else none
  | _, _ => none
def pFdiv : PyData → PyData → Option PyData
  | .int i, .int j => if 0 < j ∧ j < 1073741824 then some (.int (i / j)) else none
  | _, _ => none
def pMod : PyData → PyData → Option PyData
  | .int i, .int j => if 0 < j then some (.int (i % j)) else none
  | _, _ => none
def pPow : PyData → PyData → Option PyData
  | .int i, .int j => if 0 ≤ j ∧ j ≤ 1000000 ∧ i.natAbs < 2 ^ 64 then some (.int (i ^ j.toNat)) else none
  | _, _ => none
def pLt : PyData → PyData → Option PyData
  | .int i, .int j => some (.bool (decide (i < j)))
  | _, _ => none
def pLe : PyData → PyData → Option PyData
  | .int i, .int j => some (.bool (decide (i ≤ j)))
  | _, _ => none
def pGt : PyData → PyData → Option PyData
  | .int i, .int j => some (.bool (decide (j < i)))
  | _, _ => none
def pGe : PyData → PyData → Option PyData
  | .int i, .int j => some (.bool (decide (j ≤ i)))
  | _, _ => none
def pEq (d e : PyData) : Option PyData := if SeqAt.shaped d = true ∧ SeqAt.shaped e = true then some (.bool (PyData.eqv d e)) else none
def pNe (d e : PyData) : Option PyData := if SeqAt.shaped d = true ∧ SeqAt.shaped e = true then some (.bool (!PyData.eqv d e)) else none
def isNone : PyData → Bool
  | .none => true
  | _ => false
def pIsN : PyData → PyData → Option PyData
  | d, .none => some (.bool (isNone d))
  | .bool a, .bool b => some (.bool (decide (a = b)))
  | _, _ => none
def pNotN : PyData → PyData → Option PyData
  | d, .none => some (.bool (!isNone d))
  | .bool a, .bool b => some (.bool (!decide (a = b)))
  | _, _ => none

theorem size_line {n : Nat} (h : n ≤ 16777216) : n ≤ sizeLine := h
variable {K : PySem.W.Frag}
theorem two_ints {f : PyData → PyData → Option PyData} {C : Int → Int → Prop} {g : Int → Int → V} {g' : Int → Int → PyData} (hf : ∀ x y z, f x y = some z → ∃ i j, x = .int i ∧ y = .int j ∧ C i j ∧ z = g' i j) (hg : ∀ G i j, Dp K G (g i j) (g' i j)) :
    RBin K (rI C g) f := fun G H v w x y z Q s d1 d2 h q => by
  obtain ⟨i, j, e1, e2, c, e3⟩ := hf x y z h
  subst e1 e2 e3
  cases d1
  cases d2
  exact ⟨i, j, rfl, rfl, c, q _ G H (Grow.refl s) (hg G i j)⟩
theorem two_ints0 {f : PyData → PyData → Option PyData} {g : Int → Int → V} {g' : Int → Int → PyData} (hf : ∀ x y z, f x y = some z → ∃ i j, x = .int i ∧ y = .int j ∧ z = g' i j) (hg : ∀ G i j, Dp K G (g i j) (g' i j)) :
    RBin K (rI0 g) f := fun G H v w x y z Q s d1 d2 h q => by
  obtain ⟨i, j, e1, e2, e3⟩ := hf x y z h
  subst e1 e2 e3
  cases d1
  cases d2
  exact ⟨i, j, rfl, rfl, q _ G H (Grow.refl s) (hg G i j)⟩
theorem rb_sub : RBin K (rI0 fun i j => .int (i - j)) pSub := two_ints0 (g' := fun i j => .int (i - j)) (fun x y z h => by
  unfold pSub at h
  split at h
  · cases h
    exact ⟨_, _, rfl, rfl, rfl⟩
  · cases h) fun G i j => .int _
theorem rb_fdiv : RBin K (rI CDiv fun i j => .int (i / j)) pFdiv := two_ints (g' := fun i j => .int (i / j)) (fun x y z h => by
  unfold pFdiv at h
  split at h
  · split at h
    · rename_i c
      cases h
      exact ⟨_, _, rfl, rfl, c, rfl⟩
    · cases h
  · cases h) fun G i j => .int _
theorem rb_mod : RBin K (rI (fun _ j => 0 < j) fun i j => .int (i % j)) pMod := two_ints (g' := fun i j => .int (i % j)) (fun x y z h => by
  unfold pMod at h
  split at h
  · split at h
    · rename_i c
      cases h
      exact ⟨_, _, rfl, rfl, c, rfl⟩
    · cases h
  · cases h) fun G i j => .int _
theorem rb_pow : RBin K (rI CPow fun i j => .int (i ^ j.toNat)) pPow := two_ints (g' := fun i j => .int (i ^ j.toNat)) (fun x y z h => by
  unfold pPow at h
  split at h
  · split at h
    · rename_i c
      cases h
      exact ⟨_, _, rfl, rfl, c, rfl⟩
    · cases h
  · cases h) fun G i j => .int _
theorem rb_lt : RBin K (rI0 fun i j => .bl (decide (i < j))) pLt := two_ints0 (g' := fun i j => .bool (decide (i < j))) (fun x y z h => by
  unfold pLt at h
  split at h
  · cases h
    exact ⟨_, _, rfl, rfl, rfl⟩
  · cases h) fun G i j => .bl _
theorem rb_le : RBin K (rI0 fun i j => .bl (decide (i ≤ j))) pLe := two_ints0 (g' := fun i j => .bool (decide (i ≤ j))) (fun x y z h => by
  unfold pLe at h
  split at h
  · cases h
    exact ⟨_, _, rfl, rfl, rfl⟩
  · cases h) fun G i j => .bl _
theorem rb_gt : RBin K (rI0 fun i j => .bl (decide (j < i))) pGt := two_ints0 (g' := fun i j => .bool (decide (j < i))) (fun x y z h => by
  unfold pGt at h
  split at h
  · cases h
    exact ⟨_, _, rfl, rfl, rfl⟩
  · cases h) fun G i j => .bl _
theorem rb_ge : RBin K (rI0 fun i j => .bl (decide (j ≤ i))) pGe := two_ints0 (g' := fun i j => .bool (decide (j ≤ i))) (fun x y z h => by
  unfold pGe at h
  split at h
  · cases h
    exact ⟨_, _, rfl, rfl, rfl⟩
  · cases h) fun G i j => .bl _
theorem rb_eq : RBin K (rEqD K) pEq := fun G H v w x y z Q s d1 d2 h q => by
  unfold pEq at h
  split at h
  · rename_i c
    cases h
    exact ⟨x, y, dp_mono s _ _ d1, dp_mono s _ _ d2, c.1, c.2, q _ G H (Grow.refl s) (.bl _)⟩
  · cases h
theorem rb_ne : RBin K (rNeD K) pNe := fun G H v w x y z Q s d1 d2 h q => by
  unfold pNe at h
  split at h
  · rename_i c
    cases h
    exact ⟨x, y, dp_mono s _ _ d1, dp_mono s _ _ d2, c.1, c.2, q _ G H (Grow.refl s) (.bl _)⟩
  · cases h
def rAdd3 (K : PySem.W.Frag) : R2 := fun x y H Q => rI0 (fun i j => .int (i + j)) x y H Q ∨ (fun x y H Q => rCatL K x y H Q ∨ rCatA K x y H Q) x y H Q
theorem op_add3 : OpR X (binaryOp .Add) (rAdd3 X.K) := op_add.or (op_catL.or op_catA)
theorem rb_add : RBin K (rAdd3 K) pAdd := fun G H v w x y z Q s d1 d2 h q => by
  unfold pAdd at h
  split at h
  · cases h
    cases d1
    cases d2
    exact .inl ⟨_, _, rfl, rfl, q _ G H (Grow.refl s) (.int _)⟩
  · split at h
    · rename_i c
      cases h
      cases d1 with
      | lst a1 b1 =>
        cases d2 with
        | lst a2 b2 =>
          refine .inr (.inl ⟨_, _, _, _, rfl, rfl, s.seq a1, s.seq a2, ?_, fun p hp => ?_⟩)
          · rw [dpA_len b1, dpA_len b2]
            exact size_line c
          · exact q _ _ _ (Grow.val s hp) (.lst (SqL.of upd_same) (dpA_mono (same_new (none_of_same s hp)) _ _ (dpA_app b1 b2)))
    · cases h
  · split at h
    · rename_i xs ys c
      cases h
      cases d1 with
      | tup a1 b1 =>
        cases d2 with
        | tup a2 b2 =>
          refine .inr (.inr ⟨_, _, _, _, rfl, rfl, sqT_mono s a1, sqT_mono s a2, ?_, fun e => ?_, fun e e2 => ?_, fun _ _ p hp => ?_⟩)
          · rw [dpA_len b1, dpA_len b2]
            exact size_line c
          · subst e
            cases b1
            exact q _ G H (Grow.refl s) (.tup a2 b2)
          · subst e2
            cases b2
            rw [List.append_nil] at q
            exact q _ G H (Grow.refl s) (.tup a1 b1)
          · exact q _ _ _ (Grow.val s hp) (.tup (SqT.of upd_same) (dpA_mono (same_new (none_of_same s hp)) _ _ (dpA_app b1 b2)))
    · cases h
  · cases h
def rMul2 (K : PySem.W.Frag) : R2 := fun x y H Q => rI CMul (fun i j => .int (i * j)) x y H Q ∨ rRepT K x y H Q
theorem op_mul2 : OpR X (binaryOp .Mult) (rMul2 X.K) := op_mul.or op_repT
theorem rb_mul : RBin K (rMul2 K) pMul := fun G H v w x y z Q s d1 d2 h q => by
  unfold pMul at h
  split at h
  · split at h
    · rename_i c
      cases h
      cases d1
      cases d2
      exact .inl ⟨_, _, rfl, rfl, c, q _ G H (Grow.refl s) (.int _)⟩
    · cases h
  · split at h
    · rename_i c
      cases h
      cases d2
      cases d1 with
      | tup a1 b1 =>
        have el := dpA_len b1
        refine .inr ⟨_, _, _, rfl, rfl, sqT_mono s a1, fun e => c.1 ?_, c.2.1, c.2.2.1, by omega, fun p hp => ?_⟩
        · subst e
          cases b1
          rfl
        · exact q _ _ _ (Grow.val s hp) (.tup (SqT.of upd_same) (dpA_mono (same_new (none_of_same s hp)) _ _ (dpA_rep b1 _)))
    · cases h
  · cases h
def rIs2 : R2 := fun x y H Q => (y = .non ∧ Q (.bl (decide (x = .non))) H) ∨ rIsB x y H Q
def rNot2 : R2 := fun x y H Q => (y = .non ∧ Q (.bl (!decide (x = .non))) H) ∨ rNotB x y H Q
theorem op_is2 : OpR X (compareOp .Is) rIs2 := op_isN.or op_isBl
theorem op_not2 : OpR X (compareOp .IsNot) rNot2 := op_notN.or op_notBl
theorem dp_isN {G : Hp} {v : V} {d : PyData} (h : Dp K G v d) : decide (v = V.non) = isNone d := by
  cases h <;> first | rfl | exact decide_eq_false (fun z => by cases z)
theorem rb_is : RBin K rIs2 pIsN := fun G H v w x y z Q s d1 d2 h q => by
  unfold pIsN at h
  split at h
  · cases h
    cases d2
    refine .inl ⟨rfl, ?_⟩
    rw [dp_isN d1]
    exact q _ G H (Grow.refl s) (.bl _)
  · cases h
    cases d1
    cases d2
    exact .inr ⟨_, _, rfl, rfl, q _ G H (Grow.refl s) (.bl _)⟩
  · cases h
theorem rb_isnot : RBin K rNot2 pNotN := fun G H v w x y z Q s d1 d2 h q => by
  unfold pNotN at h
  split at h
  · cases h
    cases d2
    refine .inl ⟨rfl, ?_⟩
    rw [dp_isN d1]
    exact q _ G H (Grow.refl s) (.bl _)
  · cases h
    cases d1
    cases d2
    exact .inr ⟨_, _, rfl, rfl, q _ G H (Grow.refl s) (.bl _)⟩
  · cases h
end
end Lay

namespace Lay
open PySem PySem.Spec PyProof.Rows L2

section
variable {X : Cx} {K : PySem.W.Frag} {e : Expr} {es : List Expr}
/-! ## tests -/
def sTst (s : Sem1) : SemT := fun ρ => (s ρ).bind fun x => match x.1 with
  | .bool b => some (b, x.2)
  | _ => none
theorem sTst_some {s : Sem1} {ρ ρ' : Rho} {b : Bool} (h : sTst s ρ = some (b, ρ')) : s ρ = some (.bool b, ρ') := by
  obtain ⟨⟨d, ρ1⟩, h1, h2⟩ := bind_some h
  cases d <;> first | (cases h2; exact h1) | cases h2
theorem tst_imp {s : Sem1} {te : TE} (i : ∀ σ H Q, cE K s σ H Q → te σ H Q) (σ : L2.St) (H : Hp) (Q : Bool → Hp → Prop) (h : cT K (sTst s) σ H Q) : te σ H fun x H' => ∃ k, x = .bl k ∧ Q k H' := by
  obtain ⟨A, G, ρ, r, ρ', h, st, q⟩ := h
  refine i σ H _ ⟨A, G, ρ, _, ρ', sTst_some h, st, fun v G' H' g st' d => ?_⟩
  cases d
  exact ⟨r, rfl, q G' H' g st'⟩
theorem jt_cmp {op : CmpOp} {a b : Expr} {pos : Pos} {r : R2} {f : PyData → PyData → Option PyData} {sa sb : Sem1} (ho : OpR X (compareOp op) r) (hr : RBin X.K r f) (hm : behindInMarks op b = false) (ha : PE X a (cE X.K sa)) (hb : PE X b (cE X.K sb)) :
    PT X (.Compare a [op] [b] pos) (cT X.K (sTst (sBin f sa sb))) := pt_of (pt_cmpR ho ha hb hm) (tst_imp (bin_imp hr))
/-- a name, a call, a subscript: a bool -/
theorem jt_val {s : Sem1} (h : PE X e (cE X.K s)) (he : ∀ whole, isTrue e X.env whole = (do let v ← whole; standAt e.pos; holding [v] (truthy v)) := by intro _; rfl) : PT X e (cT X.K (sTst s)) :=
  pt_of (pt_val h he) (tst_imp fun _ _ _ h => h)
def sChain (f f' : PyData → PyData → Option PyData) (a b c : Sem1) : Sem1 := fun ρ => (a ρ).bind fun x => (b x.2).bind fun y => (f x.1 y.1).bind fun k => match k with
  | .bool k => if k = true then (c y.2).bind fun z => (f' y.1 z.1).map fun u => (u, z.2) else some (.bool false, y.2)
  | _ => none
theorem chain_imp {r r' : R2} {f f' : PyData → PyData → Option PyData} (hr : RBin K r f) (hr' : RBin K r' f') {sa sb sc : Sem1} (σ : L2.St) (H : Hp) (Q : VK) (h : cE K (sChain f f' sa sb sc) σ H Q) : tChain r r' (cE K sa) (cE K sb) (cE K sc) σ H Q := by
  obtain ⟨A, G, ρ, r0, ρ', h, st, q⟩ := h
  obtain ⟨x, h1, h⟩ := bind_some h
  obtain ⟨y, h2, h⟩ := bind_some h
  obtain ⟨k, h3, h⟩ := bind_some h
  refine ⟨A, G, ρ, x.1, x.2, h1, st, fun v G1 H1 g1 st1 d1 => ⟨A, G1, x.2, y.1, y.2, h2, st1, fun w G2 H2 g2 st2 d2 =>
    hr G2 H2 v w _ _ k _ st2.gh (dp_mono g2 _ _ d1) d2 h3 fun u G3 H3 gr d3 => ?_⟩⟩
  split at h
  · rename_i k
    cases k with
    | true =>
    rw [if_pos rfl] at h
    obtain ⟨z, h4, h⟩ := bind_some h
    obtain ⟨u', h5, e⟩ := map_some h
    cases e
    cases d3
    refine ⟨true, rfl, ?_⟩
    rw [if_pos rfl]
    exact ⟨A, G3, y.2, z.1, z.2, h4, st2.grow gr, fun t G4 H4 g4 st4 d4 => hr' G4 H4 w t _ _ _ Q st4.gh (dp_mono (gr.g.trans g4) _ _ d2) d4 h5 fun m G5 H5 gr5 d5 =>
      q m G5 H5 (((g1.trans g2).trans gr.g).trans (g4.trans gr5.g)) (st4.grow gr5) d5⟩
    | false =>
    rw [if_neg Bool.false_ne_true] at h
    cases h
    cases d3
    refine ⟨false, rfl, ?_⟩
    rw [if_neg Bool.false_ne_true]
    exact q _ G3 H3 ((g1.trans g2).trans gr.g) (st2.grow gr) (.bl false)
  · cases h
theorem je_chain {op op' : CmpOp} {a b c : Expr} {pos : Pos} {r r' : R2} {f f' : PyData → PyData → Option PyData} {sa sb sc : Sem1} (ho : OpR X (compareOp op) r) (hr : RBin X.K r f) (ho' : OpR X (compareOp op') r') (hr' : RBin X.K r' f')
    (ha : PE X a (cE X.K sa)) (hb : PE X b (cE X.K sb)) (hc : PE X c (cE X.K sc)) (hm : lastMarks [op, op'] [b, c] = false := by with_unfolding_all rfl) :
    PE X (.Compare a [op, op'] [b, c] pos) (cE X.K (sChain f f' sa sb sc)) := pe_of (pe_chain ho ho' ha hb hc hm) (chain_imp hr hr')
theorem jt_chain {op op' : CmpOp} {a b c : Expr} {pos : Pos} {r r' : R2} {f f' : PyData → PyData → Option PyData} {sa sb sc : Sem1} (ho : OpR X (compareOp op) r) (hr : RBin X.K r f) (ho' : OpR X (compareOp op') r') (hr' : RBin X.K r' f')
    (ha : PE X a (cE X.K sa)) (hb : PE X b (cE X.K sb)) (hc : PE X c (cE X.K sc)) (hm : lastMarks [op, op'] [b, c] = false := by with_unfolding_all rfl) :
    PT X (.Compare a [op, op'] [b, c] pos) (cT X.K (sTst (sChain f f' sa sb sc))) := pt_of (pt_chain ho ho' ha hb hc hm) (tst_imp (chain_imp hr hr'))

/-! ### and, or, not -/
def sAndT (a b : SemT) : SemT := fun ρ => (a ρ).bind fun x => if x.1 = true then b x.2 else some (false, x.2)
def sOrT (a b : SemT) : SemT := fun ρ => (a ρ).bind fun x => if x.1 = true then some (true, x.2) else b x.2
def sNotT (a : SemT) : SemT := fun ρ => (a ρ).map fun x => (!x.1, x.2)
variable {a b c : Expr} {rest : List Expr} {pos : Pos} {ta tb : SemT} {sa sb : Sem1}
theorem jw_and1 (h : PT X a (cT X.K ta)) : PW X (.BoolOp .And [a] pos) (cT X.K ta) := pw_and1 h
theorem jw_or1 (h : PT X a (cT X.K ta)) : PW X (.BoolOp .Or [a] pos) (cT X.K ta) := pw_or1 h
theorem jw_and (h1 : PT X a (cT X.K ta)) (h2 : PW X (.BoolOp .And (b :: rest) pos) (cT X.K tb)) : PW X (.BoolOp .And (a :: b :: rest) pos) (cT X.K (sAndT ta tb)) := by
  refine pw_of (pw_and h1 h2) fun σ H Q ⟨A, G, ρ, r, ρ', h, st, q⟩ => ?_
  obtain ⟨x, h1, h⟩ := bind_some h
  refine ⟨A, G, ρ, x.1, x.2, h1, st, fun G1 H1 g1 st1 => ?_⟩
  cases hx : x.1 with
  | true =>
    rw [hx, if_pos rfl] at h
    rw [if_pos rfl]
    exact ⟨A, G1, x.2, r, ρ', h, st1, fun G2 H2 g2 st2 => q G2 H2 (g1.trans g2) st2⟩
  | false =>
    rw [hx, if_neg Bool.false_ne_true] at h
    rw [if_neg Bool.false_ne_true]
    cases h
    exact q G1 H1 g1 st1
theorem jw_or (h1 : PT X a (cT X.K ta)) (h2 : PW X (.BoolOp .Or (b :: rest) pos) (cT X.K tb)) : PW X (.BoolOp .Or (a :: b :: rest) pos) (cT X.K (sOrT ta tb)) := by
  refine pw_of (pw_or h1 h2) fun σ H Q ⟨A, G, ρ, r, ρ', h, st, q⟩ => ?_
  obtain ⟨x, h1, h⟩ := bind_some h
  refine ⟨A, G, ρ, x.1, x.2, h1, st, fun G1 H1 g1 st1 => ?_⟩
  cases hx : x.1 with
  | true =>
    rw [hx, if_pos rfl] at h
    rw [if_pos rfl]
    cases h
    exact q G1 H1 g1 st1
  | false =>
    rw [hx, if_neg Bool.false_ne_true] at h
    rw [if_neg Bool.false_ne_true]
    exact ⟨A, G1, x.2, r, ρ', h, st1, fun G2 H2 g2 st2 => q G2 H2 (g1.trans g2) st2⟩
theorem jt_bool {e : Expr} {t : SemT} (h : PW X e (cT X.K t)) : PT X e (cT X.K t) := h.pt
theorem jt_not (h : PT X a (cT X.K ta)) : PT X (.UnaryOp .Not a pos) (cT X.K (sNotT ta)) := by
  refine pt_of (pt_not h) fun σ H Q ⟨A, G, ρ, r, ρ', h, st, q⟩ => ?_
  obtain ⟨x, h1, h⟩ := map_some h
  cases h
  exact ⟨A, G, ρ, x.1, x.2, h1, st, q⟩
def sAndV (a b : Sem1) : Sem1 := fun ρ => (a ρ).bind fun x => match x.1 with
  | .bool k => if k = true then b x.2 else some (.bool false, x.2)
  | _ => none
def sOrV (a b : Sem1) : Sem1 := fun ρ => (a ρ).bind fun x => match x.1 with
  | .bool k => if k = true then some (.bool true, x.2) else b x.2
  | _ => none
def sNotV (a : Sem1) : Sem1 := fun ρ => (a ρ).bind fun x => match x.1 with
  | .bool c => some (.bool (!c), x.2)
  | _ => none
theorem je_one {op} {s : Sem1} (h : PE X a (cE X.K s)) : PE X (.BoolOp op [a] pos) (cE X.K s) := pe_one h
theorem je_and (h1 : PE X a (cE X.K sa)) (h2 : PE X (.BoolOp .And (b :: rest) pos) (cE X.K sb)) : PE X (.BoolOp .And (a :: b :: rest) pos) (cE X.K (sAndV sa sb)) := by
  refine pe_of (pe_and h1 h2) fun σ H Q ⟨A, G, ρ, r, ρ', h, st, q⟩ => ?_
  obtain ⟨⟨x, ρ1⟩, h1, h⟩ := bind_some h
  refine ⟨A, G, ρ, x, ρ1, h1, st, fun v G1 H1 g1 st1 d1 => ?_⟩
  simp only at h
  split at h
  · rename_i k
    cases d1
    cases k with
    | true =>
      rw [if_pos rfl] at h
      refine ⟨true, rfl, ?_⟩
      rw [if_pos rfl]
      exact ⟨A, G1, ρ1, r, ρ', h, st1, fun v G2 H2 g2 st2 => q v G2 H2 (g1.trans g2) st2⟩
    | false =>
      rw [if_neg Bool.false_ne_true] at h
      refine ⟨false, rfl, ?_⟩
      rw [if_neg Bool.false_ne_true]
      cases h
      exact q _ G1 H1 g1 st1 (.bl _)
  · cases h
theorem je_or (h1 : PE X a (cE X.K sa)) (h2 : PE X (.BoolOp .Or (b :: rest) pos) (cE X.K sb)) : PE X (.BoolOp .Or (a :: b :: rest) pos) (cE X.K (sOrV sa sb)) := by
  refine pe_of (pe_or h1 h2) fun σ H Q ⟨A, G, ρ, r, ρ', h, st, q⟩ => ?_
  obtain ⟨⟨x, ρ1⟩, h1, h⟩ := bind_some h
  refine ⟨A, G, ρ, x, ρ1, h1, st, fun v G1 H1 g1 st1 d1 => ?_⟩
  simp only at h
  split at h
  · rename_i k
    cases d1
    cases k with
    | true =>
      rw [if_pos rfl] at h
      refine ⟨true, rfl, ?_⟩
      rw [if_pos rfl]
      cases h
      exact q _ G1 H1 g1 st1 (.bl _)
    | false =>
      rw [if_neg Bool.false_ne_true] at h
      refine ⟨false, rfl, ?_⟩
      rw [if_neg Bool.false_ne_true]
      exact ⟨A, G1, ρ1, r, ρ', h, st1, fun v G2 H2 g2 st2 => q v G2 H2 (g1.trans g2) st2⟩
  · cases h
theorem je_not (h1 : PE X a (cE X.K sa)) : PE X (.UnaryOp .Not a pos) (cE X.K (sNotV sa)) := by
  refine pe_of (pe_not h1) fun σ H Q ⟨A, G, ρ, r, ρ', h, st, q⟩ => ?_
  obtain ⟨⟨x, ρ1⟩, h1, h⟩ := bind_some h
  refine ⟨A, G, ρ, x, ρ1, h1, st, fun v G1 H1 g1 st1 d1 => ?_⟩
  simp only at h
  split at h
  · cases d1
    cases h
    exact ⟨_, rfl, q _ G1 H1 g1 st1 (.bl _)⟩
  · cases h
def sIfE (c : SemT) (a b : Sem1) : Sem1 := fun ρ => (c ρ).bind fun x => if x.1 = true then a x.2 else b x.2
theorem je_if (hc : PT X c (cT X.K ta)) (ha : PE X a (cE X.K sa)) (hb : PE X b (cE X.K sb)) : PE X (.IfExp c a b pos) (cE X.K (sIfE ta sa sb)) := by
  refine pe_of (pe_ifExp hc ha hb) fun σ H Q ⟨A, G, ρ, r, ρ', h, st, q⟩ => ?_
  obtain ⟨x, h1, h⟩ := bind_some h
  refine ⟨A, G, ρ, x.1, x.2, h1, st, fun G1 H1 g1 st1 => ?_⟩
  cases hx : x.1 with
  | true =>
    rw [hx, if_pos rfl] at h
    rw [if_pos rfl]
    exact ⟨A, G1, x.2, r, ρ', h, st1, fun v G2 H2 g2 st2 => q v G2 H2 (g1.trans g2) st2⟩
  | false =>
    rw [hx, if_neg Bool.false_ne_true] at h
    rw [if_neg Bool.false_ne_true]
    exact ⟨A, G1, x.2, r, ρ', h, st1, fun v G2 H2 g2 st2 => q v G2 H2 (g1.trans g2) st2⟩
def sNeg (a : Sem1) : Sem1 := fun ρ => (a ρ).bind fun x => match x.1 with
  | .int i => some (.int (-i), x.2)
  | _ => none
theorem je_neg (h1 : PE X a (cE X.K sa)) : PE X (.UnaryOp .USub a pos) (cE X.K (sNeg sa)) := by
  refine pe_of (pe_un un_neg h1) fun σ H Q ⟨A, G, ρ, r, ρ', h, st, q⟩ => ?_
  obtain ⟨⟨x, ρ1⟩, h1, h⟩ := bind_some h
  refine ⟨A, G, ρ, x, ρ1, h1, st, fun v G1 H1 g1 st1 d1 => ?_⟩
  simp only at h
  split at h
  · cases d1
    cases h
    exact ⟨_, rfl, q _ G1 H1 g1 st1 (.int _)⟩
  · cases h

/-! ## arguments, displays -/
def sNil : SemL := fun ρ => some ([], ρ)
def sCons (a : Sem1) (r : SemL) : SemL := fun ρ => (a ρ).bind fun x => (r x.2).map fun y => (x.1 :: y.1, y.2)
theorem ja_nil : PA X [] (cA X.K sNil) := pa_of pa_nil fun σ H Q ⟨A, G, ρ, r, ρ', h, st, q⟩ => by
  cases h
  exact q [] G H (Same.refl _) st .nil
theorem ja_cons {sr : SemL} (ha : PE X e (cE X.K sa)) (hr : PA X es (cA X.K sr)) (hs : starEach (e :: es) X.env = (false, eval e X.env) :: starEach es X.env := by rfl) : PA X (e :: es) (cA X.K (sCons sa sr)) := by
  refine pa_of (pa_cons ha hr hs) fun σ H Q ⟨A, G, ρ, r, ρ', h, st, q⟩ => ?_
  obtain ⟨x, h1, h⟩ := bind_some h
  obtain ⟨y, h2, h⟩ := map_some h
  cases h
  exact ⟨A, G, ρ, x.1, x.2, h1, st, fun v G1 H1 g1 st1 d1 => ⟨A, G1, x.2, y.1, y.2, h2, st1, fun vs G2 H2 g2 st2 d2 => q (v :: vs) G2 H2 (g1.trans g2) st2 (.cons (dp_mono g2 _ _ d1) d2)⟩⟩
def sTup (s : SemL) : Sem1 := fun ρ => (s ρ).bind fun x => if x.1.length ≤ 1000 then some (.tuple x.1, x.2) else none
def sLst (s : SemL) : SemL := fun ρ => (s ρ).bind fun x => if x.1.length ≤ 1000 then some x else none
theorem thousand {n : Nat} (h : n ≤ 1000) : n ≤ sizeLine := Nat.le_trans h (by decide)
theorem je_tup {x1} {s : SemL} (h : PA X es (cA X.K s)) : PE X (.Tuple es x1 pos) (cE X.K (sTup s)) := by
  refine pe_of (pe_tup h) fun σ H Q ⟨A, G, ρ, r, ρ', h, st, q⟩ => ?_
  obtain ⟨x, h1, h⟩ := bind_some h
  split at h
  · rename_i hl
    cases h
    refine ⟨A, G, ρ, x.1, x.2, h1, st, fun vs G1 H1 g1 st1 d1 => ⟨by rw [dpA_len d1]; exact thousand hl, fun p hp => ?_⟩⟩
    have gr := Grow.val st1.gh hp (o := .tup vs)
    exact q _ _ _ (g1.trans gr.g) (st1.grow gr) (.tup (SqT.of upd_same) (dpA_mono gr.g _ _ d1))
  · cases h
theorem jf_lst {s : SemL} (h : PA X es (cA X.K s)) : PE X (.List es pos) (cF X.K (sLst s)) := by
  refine pe_of (pe_lst h) fun σ H Q ⟨A, G, ρ, r, ρ', h, st, q⟩ => ?_
  obtain ⟨⟨x, ρ1⟩, h1, h⟩ := bind_some h
  split at h
  · rename_i hl
    cases h
    exact ⟨A, G, ρ, r, ρ', h1, st, fun vs G1 H1 g1 st1 d1 => ⟨by rw [dpA_len d1]; exact thousand hl, fun p hp => q p vs G1 H1 g1 st1 hp d1⟩⟩
  · cases h
/-- a fresh list as a value -/
def sL (s : SemL) : Sem1 := fun ρ => (s ρ).map fun x => (.list x.1, x.2)
theorem je_l {s : SemL} (h : PE X e (cF X.K s)) : PE X e (cE X.K (sL s)) := by
  refine pe_of h fun σ H Q ⟨A, G, ρ, r, ρ', h, st, q⟩ => ?_
  obtain ⟨x, h1, h⟩ := map_some h
  cases h
  refine ⟨A, G, ρ, x.1, x.2, h1, st, fun p xs G1 H1 g1 st1 hp d1 => ?_⟩
  have gr := Grow.val st1.gh hp (o := .lst xs)
  exact q _ _ _ (g1.trans gr.g) (st1.grow gr) (.lst (SqL.of upd_same) (dpA_mono gr.g _ _ d1))

/-! ## subscripts, slices -/
def pIdx : PyData → PyData → Option PyData
  | .list xs, .int i => atI xs i
  | .tuple xs, .int i => atI xs i
  | _, _ => none
theorem dpA_at {G : Hp} {vs : List V} {ds : List PyData} {i : Int} {d : PyData} (h : DpAll K G vs ds) (e : atI ds i = some d) : ∃ v, atI vs i = some v ∧ Dp K G v d := by
  unfold atI at e ⊢
  obtain ⟨j, h1, h2⟩ := bind_some e
  obtain ⟨v, h3, h4⟩ := dpA_get h h2
  refine ⟨v, ?_, h4⟩
  rw [dpA_len h, h1]
  exact h3
def rIx2 (K : PySem.W.Frag) : R2 := fun x y H Q => rIxL K x y H Q ∨ rIxT K x y H Q
theorem ix_two : IxR X (rIx2 X.K) := ix_list.or ix_tup
theorem rb_ix : RBin K (rIx2 K) pIdx := fun G H v w x y z Q s d1 d2 h q => by
  unfold pIdx at h
  split at h
  · cases d2
    cases d1 with
    | lst a1 b1 =>
      obtain ⟨v', e1, e2⟩ := dpA_at b1 h
      exact .inl ⟨_, _, _, v', rfl, rfl, s.seq a1, e1, q _ G H (Grow.refl s) e2⟩
  · cases d2
    cases d1 with
    | tup a1 b1 =>
      obtain ⟨v', e1, e2⟩ := dpA_at b1 h
      exact .inr ⟨_, _, _, v', rfl, rfl, sqT_mono s a1, e1, q _ G H (Grow.refl s) e2⟩
  · cases h
theorem je_ix (ha : PE X a (cE X.K sa)) (hb : PE X b (cE X.K sb)) (hs : PlainIx b := by exact fun _ _ => rfl) : PE X (.Subscript a b pos) (cE X.K (sBin pIdx sa sb)) := pe_of (pe_ix ix_two ha hb hs) (bin_imp rb_ix)
/-- an item of an owned list -/
def sOwnIx (i : Nat) (b : Sem1) : Sem1 := fun ρ => match ρ[i]? with
  | some (.own _) => (b ρ).bind fun y => match y.2[i]?, y.1 with
    | some (.own ds), .int k => (atI ds k).map fun d => (d, y.2)
    | _, _ => none
  | _ => none
theorem StR.ownAt {A : Hp} {σ : L2.St} {G H : Hp} {ρ : Rho} {i : Nat} {ds : List PyData} (s : StR K A σ G H ρ) (h : ρ[i]? = some (.own ds)) : ∃ p xs, σ[i]? = some (some (.ref p)) ∧ H p = some (.lst xs) ∧ DpAll K G xs ds :=
  let ⟨p, xs, h1, h2, h3, _⟩ := s.mutOwn (ds' := []) h
  ⟨p, xs, h1, h2, h3⟩
theorem je_ownIx (i : Nat) {x : Str} {px : Pos} (hb : PE X b (cE X.K sb)) (hN : X.N[i]? = some x := by rfl) (hv : Vis X.env.scope x := by first | exact Or.inl rfl | exact Or.inr (Or.inl rfl) | exact Or.inr (Or.inr rfl)) (hd : (x == ("__debug__" : Str)) = false := by decide)
    (hcd : (x == ("__classdict__" : Str)) = false := by decide) (hs : PlainIx b := by exact fun _ _ => rfl) : PE X (.Subscript (.Name x px) b pos) (cE X.K (sOwnIx i sb)) := by
  refine pe_of (pe_ix ix_list (pe_var hN hv hd hcd) hb hs) fun σ H Q ⟨A, G, ρ, r, ρ', h, st, q⟩ => ?_
  unfold sOwnIx at h
  split at h
  · rename_i ds0 e0
    obtain ⟨p, xs0, hp, _, _⟩ := st.ownAt e0
    obtain ⟨⟨y, ρ1⟩, h1, h⟩ := bind_some h
    simp only at h
    split at h
    · rename_i ds k e1 
      obtain ⟨d, h2, e⟩ := map_some h
      cases e
      refine ⟨.ref p, hp, A, G, ρ, .int k, _, h1, st, fun w G1 H1 g1 st1 d1 => ?_⟩
      cases d1
      obtain ⟨p', xs, e2, e3, e4⟩ := st1.ownAt e1
      rw [hp] at e2
      cases e2
      obtain ⟨v', e5, e6⟩ := dpA_at e4 h2
      exact ⟨p, xs, k, v', rfl, rfl, SqL.of e3, e5, q _ G1 H1 g1 st1 e6⟩
    · cases h
  · cases h
end
end Lay

namespace Lay
open PySem PySem.Spec PyProof.Rows L2

section
variable {X : Cx} {K : PySem.W.Frag} {e : Expr} {es : List Expr} {a b : Expr} {pos : Pos} {sa sb : Sem1}
/-! ### slices -/
abbrev SemO := Rho → Option (Option Int × Rho)
def cO (K : PySem.W.Frag) (s : SemO) : TO := fun σ H Q => ∃ A G ρ r ρ', s ρ = some (r, ρ') ∧ StR K A σ G H ρ ∧ ∀ G' H', Same G G' → StR K A σ G' H' ρ' → Q r H'
def sNoP : SemO := fun ρ => some (none, ρ)
def sPart (s : Sem1) : SemO := fun ρ => (s ρ).bind fun x => match x.1 with
  | .int i => some (some i, x.2)
  | _ => none
theorem jo_none : PO X none (cO X.K sNoP) := ⟨fun pins s σ H Q I ⟨A, G, ρ, r, ρ', h, st, q⟩ => by
  cases h
  exact po_none.run pins s σ H Q I (q G H (Same.refl _) st)⟩
theorem jo_some (h : PE X e (cE X.K sa)) : PO X (some e) (cO X.K (sPart sa)) := ⟨fun pins s σ H Q I ⟨A, G, ρ, r, ρ', h1, st, q⟩ => by
  refine (po_some h).run pins s σ H Q I ?_
  obtain ⟨⟨x, ρ1⟩, h2, h3⟩ := bind_some h1
  refine ⟨A, G, ρ, x, ρ1, h2, st, fun v G1 H1 g1 st1 d1 => ?_⟩
  simp only at h3
  split at h3
  · cases h3
    cases d1
    exact ⟨_, rfl, q G1 H1 g1 st1⟩
  · cases h3⟩
def cutD (xs : List PyData) (lo hi : Option Int) : List PyData := (xs.drop (HT.sIx xs.length 0 lo)).take (HT.sIx xs.length xs.length hi - HT.sIx xs.length 0 lo)
theorem dpA_cut {G : Hp} {vs : List V} {ds : List PyData} (h : DpAll K G vs ds) (lo hi : Option Int) : DpAll K G (cutV vs lo hi) (cutD ds lo hi) := by
  unfold cutV cutD
  rw [dpA_len h]
  exact dpA_take _ (dpA_drop _ h)
def pSlice : PyData → Option Int → Option Int → Option PyData
  | .list xs, lo, hi => some (.list (cutD xs lo hi))
  | .tuple xs, lo, hi => some (.tuple (cutD xs lo hi))
  | _, _, _ => none
def sSlice (s : Sem1) (lo hi : SemO) : Sem1 := fun ρ => (s ρ).bind fun x => (lo x.2).bind fun l => (hi l.2).bind fun u => (pSlice x.1 l.1 u.1).map fun z => (z, u.2)
theorem sl_two : SlR X (fun x lo hi H Q => rSlL X.K x lo hi H Q ∨ rSlA X.K x lo hi H Q) := sl_list.or sl_tupA
theorem cut_whole {xs : List PyData} {lo hi : Option Int} (h : HT.sIx xs.length 0 lo = 0 ∧ HT.sIx xs.length xs.length hi = xs.length) : cutD xs lo hi = xs := by
  unfold cutD
  rw [h.1, h.2, Nat.sub_zero, List.drop_zero, List.take_length]
theorem je_slice {lo hi : Option Expr} {p2 : Pos} {so su : SemO} (he : PE X e (cE X.K sa)) (hl : PO X lo (cO X.K so)) (hu : PO X hi (cO X.K su)) : PE X (.Subscript e (.Slice lo hi none p2) pos) (cE X.K (sSlice sa so su)) := by
  refine pe_of (pe_slice sl_two he hl hu) fun σ H Q ⟨A, G, ρ, r, ρ', h, st, q⟩ => ?_
  obtain ⟨x, h1, h⟩ := bind_some h
  obtain ⟨l, h2, h⟩ := bind_some h
  obtain ⟨u, h3, h⟩ := bind_some h
  obtain ⟨z, h4, h⟩ := map_some h
  cases h
  refine ⟨A, G, ρ, x.1, x.2, h1, st, fun v G1 H1 g1 st1 d1 => ⟨A, G1, x.2, l.1, l.2, h2, st1, fun G2 H2 g2 st2 => ⟨A, G2, l.2, u.1, u.2, h3, st2, fun G3 H3 g3 st3 => ?_⟩⟩⟩
  have d3 := dp_mono (g2.trans g3) _ _ d1
  have g03 := (g1.trans g2).trans g3
  unfold pSlice at h4
  split at h4
  · rename_i xs _ _ hx
    rw [hx] at d3
    cases h4
    cases d3 with
    | lst a1 b1 =>
      refine .inl ⟨_, _, rfl, st3.gh.seq a1, fun p hp => ?_⟩
      exact q _ _ _ (g03.trans (same_new (none_of_same st3.gh hp))) (st3.grow (Grow.val st3.gh hp)) (.lst (SqL.of upd_same) (dpA_mono (same_new (none_of_same st3.gh hp)) _ _ (dpA_cut b1 _ _)))
  · rename_i xs _ _ hx
    rw [hx] at d3
    cases h4
    cases d3 with
    | tup a1 b1 =>
      refine .inr ⟨_, _, rfl, sqT_mono st3.gh a1, fun hw => ?_, fun _ p hp => ?_⟩
      · rw [dpA_len b1] at hw
        rw [cut_whole hw] at q
        exact q _ G3 H3 g03 st3 (.tup a1 b1)
      · exact q _ _ _ (g03.trans (same_new (none_of_same st3.gh hp))) (st3.grow (Grow.val st3.gh hp)) (.tup (SqT.of upd_same) (dpA_mono (same_new (none_of_same st3.gh hp)) _ _ (dpA_cut b1 _ _)))
  · cases h4

/-! ### a new list: list + list, list(..) -/
def sCat (a b : Sem1) : SemL := fun ρ => (a ρ).bind fun x => (b x.2).bind fun y => match x.1, y.1 with
  | .list xs, .list ys => if xs.length + ys.length ≤ 16777216 then some (xs ++ ys, y.2) else none
  | _, _ => none
theorem jf_cat (ha : PE X a (cE X.K sa)) (hb : PE X b (cE X.K sb)) : PE X (.BinOp a .Add b pos) (cF X.K (sCat sa sb)) := by
  refine pe_of (pe_op op_catL ha hb) fun σ H Q ⟨A, G, ρ, r, ρ', h, st, q⟩ => ?_
  obtain ⟨x, h1, h⟩ := bind_some h
  obtain ⟨y, h2, h⟩ := bind_some h
  refine ⟨A, G, ρ, x.1, x.2, h1, st, fun v G1 H1 g1 st1 d1 => ⟨A, G1, x.2, y.1, y.2, h2, st1, fun w G2 H2 g2 st2 d2 => ?_⟩⟩
  have d1 := dp_mono g2 _ _ d1
  split at h
  · rename_i xs ys e1 e2
    split at h
    · rename_i c
      rw [e1] at d1
      rw [e2] at d2
      cases h
      cases d1 with
      | lst a1 b1 =>
        cases d2 with
        | lst a2 b2 =>
          refine ⟨_, _, _, _, rfl, rfl, st2.gh.seq a1, st2.gh.seq a2, ?_, fun p hp => q p _ G2 H2 (g1.trans g2) st2 hp (dpA_app b1 b2)⟩
          rw [dpA_len b1, dpA_len b2]
          exact size_line c
    · cases h
  · cases h

/-! ## calls -/
def RCall (K : PySem.W.Frag) (r : List V → Hp → VK → Prop) (f : List PyData → Option PyData) : Prop :=
  ∀ (G H : Hp) (vs : List V) (ds : List PyData) (z : PyData) (Q : VK), Same G H → DpAll K G vs ds → f ds = some z → (∀ u G' H', Grow G H G' H' → Dp K G' u z → Q u H') → r vs H Q
def sCall (f : List PyData → Option PyData) (s : SemL) : Sem1 := fun ρ => (s ρ).bind fun x => (f x.1).map fun z => (z, x.2)
theorem call_imp {r : List V → Hp → VK → Prop} {f : List PyData → Option PyData} (hr : RCall K r f) {s : SemL} (σ : L2.St) (H : Hp) (Q : VK) (h : cE K (sCall f s) σ H Q) : tCB r (cA K s) σ H Q := by
  obtain ⟨A, G, ρ, r0, ρ', h, st, q⟩ := h
  obtain ⟨x, h1, h⟩ := bind_some h
  obtain ⟨z, h2, h⟩ := map_some h
  cases h
  exact ⟨A, G, ρ, x.1, x.2, h1, st, fun vs G1 H1 g1 st1 d1 => hr G1 H1 vs _ _ Q st1.gh d1 h2 fun u G2 H2 gr d2 => q u G2 H2 (g1.trans gr.g) (st1.grow gr) d2⟩
theorem je_callB {x : Str} {p : Pos} {id : String} {r : List V → Hp → VK → Prop} {f : List PyData → Option PyData} {s : SemL} (hc : CallR X (.builtin id) r) (hr : RCall X.K r f) (hg : Gl X x) (hm : X.mg x = none) (hv : bootBuiltins x = some (.builtin id))
    (ha : PA X (e :: es) (cA X.K s)) (hn : x ≠ "__name__" := by decide) (hdb : (x == ("__debug__" : Str)) = false := by decide) (he : starEach (e :: es) X.env = (false, eval e X.env) :: starEach es X.env := by rfl)
    (hpl : (backTo pos (starEach es X.env)).any (·.1) = false := by rfl) : PE X (.Call (.Name x p) (e :: es) [] pos) (cE X.K (sCall f s)) := pe_of (pe_callB hc hg hm hv ha hn hdb he hpl) (call_imp hr)
theorem je_callTy {x : Str} {p : Pos} {T : String} {r : List V → Hp → VK → Prop} {f : List PyData → Option PyData} {s : SemL} (hc : CallR X (.type T) r) (hr : RCall X.K r f) (hg : Gl X x) (hm : X.mg x = none) (hv : bootBuiltins x = some (.type T))
    (ha : PA X (e :: es) (cA X.K s)) (hn : x ≠ "__name__" := by decide) (hdb : (x == ("__debug__" : Str)) = false := by decide) (he : starEach (e :: es) X.env = (false, eval e X.env) :: starEach es X.env := by rfl)
    (hpl : (backTo pos (starEach es X.env)).any (·.1) = false := by rfl) : PE X (.Call (.Name x p) (e :: es) [] pos) (cE X.K (sCall f s)) := pe_of (pe_callTy hc hg hm hv ha hn hdb he hpl) (call_imp hr)

/-! ### defs of the text -/
structure DefOk (P : Program) (w : World) (K : PySem.W.Frag) (mg : Str → Option Value) (base : Heap) (k : Nat) (x : Str) (ps : List Str) (sp : Sp) : Prop where
  ex : ∃ (f : Addr) (fd : FuncData), mg x = some (.ref f) ∧ PySem.W.keepIn K (.ref f) = true ∧ Binds K fd ps [] ∧ FnOk P w K mg base CX0 k f fd ps sp
/-- values in, a value out -/
def spD (K : PySem.W.Frag) (g : List PyData → Option PyData) : Sp := fun vs H Q _ => ∃ G ds r, Same G H ∧ DpAll K G vs ds ∧ g ds = some r ∧ ∀ v G' H', Grow G H G' H' → Dp K G' v r → Q v H'
/-- a new list out -/
def spF (K : PySem.W.Frag) (g : List PyData → Option (List PyData)) : Sp := fun vs H Q _ => ∃ G ds r, Same G H ∧ DpAll K G vs ds ∧ g ds = some r ∧ ∀ p xs G' H', Grow G H G' H' → H' p = none → DpAll K G' xs r → Q (.ref p) (upd H' p (.lst xs))
/-- the first argument an owned list, changed -/
def spB (K : PySem.W.Frag) (g : List PyData → List PyData → Option (PyData × List PyData)) : Sp := fun vs H Q _ => ∃ G p xs bs ws ds r bs', vs = .ref p :: ws ∧ Same G H ∧ H p = some (.lst xs) ∧ G p = none ∧ DpAll K G xs bs ∧ DpAll K G ws ds ∧ g bs ds = some (r, bs') ∧
  ∀ v G' H' xs', Same G G' → Same G' H' → (∀ q o, q ≠ p → H q = some o → H' q = some o) → (∀ q o, H q = some o → G q = none → G' q = none) → H' p = some (.lst xs') → DpAll K G' xs' bs' → Dp K G' v r → Q v H'
variable {k : Nat} {x : Str} {p : Pos} {ps : List Str} {s : SemL}
theorem je_call {g : List PyData → Option PyData} (D : DefOk X.prog X.w X.K X.mg X.base k x ps (spD X.K g)) (hr : Room k X.A) (hg : Gl X x) (ha : PA X (e :: es) (cA X.K s)) (hdb : (x == ("__debug__" : Str)) = false := by decide)
    (he : starEach (e :: es) X.env = (false, eval e X.env) :: starEach es X.env := by rfl) (hpl : (backTo pos (starEach es X.env)).any (·.1) = false := by rfl) : PE X (.Call (.Name x p) (e :: es) [] pos) (cE X.K (sCall g s)) := by
  obtain ⟨f, fd, hm, hk, hb, F⟩ := D.ex
  refine pe_of (pe_call F hr hg hm hk hb .nil pass0 ha hdb he hpl) fun σ H Q ⟨A, G, ρ, r, ρ', h, st, q⟩ => ?_
  obtain ⟨y, h1, h⟩ := bind_some h
  obtain ⟨z, h2, h⟩ := map_some h
  cases h
  refine ⟨A, G, ρ, y.1, y.2, h1, st, fun vs G1 H1 g1 st1 d1 => ?_⟩
  show spD X.K g (vs ++ []) H1 Q E0
  rw [List.append_nil]
  exact ⟨G1, y.1, _, st1.gh, d1, h2, fun v G2 H2 gr d2 => q v G2 H2 (g1.trans gr.g) (st1.grow gr) d2⟩
def sCallF (f : List PyData → Option (List PyData)) (s : SemL) : SemL := fun ρ => (s ρ).bind fun x => (f x.1).map fun z => (z, x.2)
theorem jf_call {g : List PyData → Option (List PyData)} (D : DefOk X.prog X.w X.K X.mg X.base k x ps (spF X.K g)) (hr : Room k X.A) (hg : Gl X x) (ha : PA X (e :: es) (cA X.K s)) (hdb : (x == ("__debug__" : Str)) = false := by decide)
    (he : starEach (e :: es) X.env = (false, eval e X.env) :: starEach es X.env := by rfl) (hpl : (backTo pos (starEach es X.env)).any (·.1) = false := by rfl) : PE X (.Call (.Name x p) (e :: es) [] pos) (cF X.K (sCallF g s)) := by
  obtain ⟨f, fd, hm, hk, hb, F⟩ := D.ex
  refine pe_of (pe_call F hr hg hm hk hb .nil pass0 ha hdb he hpl) fun σ H Q ⟨A, G, ρ, r, ρ', h, st, q⟩ => ?_
  obtain ⟨y, h1, h⟩ := bind_some h
  obtain ⟨z, h2, h⟩ := map_some h
  cases h
  refine ⟨A, G, ρ, y.1, y.2, h1, st, fun vs G1 H1 g1 st1 d1 => ?_⟩
  show spF X.K g (vs ++ []) H1 Q E0
  rw [List.append_nil]
  exact ⟨G1, y.1, _, st1.gh, d1, h2, fun p xs G2 H2 gr hp d2 => q p xs G2 H2 (g1.trans gr.g) (st1.grow gr) hp d2⟩
/-- f(bag, ..): the owned list at slot i -/
def sCallB (g : List PyData → List PyData → Option (PyData × List PyData)) (i : Nat) (s : SemL) : Sem1 := fun ρ => match ρ[i]? with
  | some (.own _) => (s ρ).bind fun x => match x.2[i]? with
    | some (.own bs) => (g bs x.1).map fun z => (z.1, x.2.set i (.own z.2))
    | _ => none
  | _ => none
theorem StR.inout {A : Hp} {σ : L2.St} {G H G' H' : Hp} {ρ : Rho} {i : Nat} {bs bs' : List PyData} {xs' : List V} {p : Addr} (st : StR K A σ G H ρ) (h : ρ[i]? = some (.own bs)) (hσ : σ[i]? = some (some (.ref p))) (g : Same G G') (gh : Same G' H')
    (hk : ∀ q o, q ≠ p → H q = some o → H' q = some o) (hn : ∀ q o, H q = some o → G q = none → G' q = none) (hp : H' p = some (.lst xs')) (x : DpAll K G' xs' bs') : StR K A σ G' H' (ρ.set i (.own bs')) := by
  obtain ⟨fp, s⟩ := st
  obtain ⟨v, e, p0, xs, rfl, ef, hp0, x0⟩ := s.own i _ h rfl
  rw [hσ] at e
  cases e
  have off := s.off i _ h rfl p (by rw [ef]; exact List.mem_cons_self)
  have notin : ∀ (j : Nat) (sv : SV), i ≠ j → ρ[j]? = some sv → sv.isOwn = true → p ∉ fp j := fun j sv n h' k => s.sep i j _ sv h rfl h' k n p (by rw [ef]; exact List.mem_cons_self)
  refine ⟨fp, by rw [List.length_set]; exact s.len, gh, fun q o eq => ?_, fun q o eq => hn q o (s.ah q o eq) (s.dis q o eq), fun j d hj => ?_, fun j w hj => ?_, fun j sv hj k => ?_, fun j sv hj k q hq => ?_, fun j l sv sw hj k hl k' n => ?_⟩
  · exact hk q o (fun z => by rw [z, off.2] at eq; cases eq) (s.ah q o eq)
  · rcases getElem_set_cases hj with ⟨_, e2⟩ | ⟨n, hj⟩
    · cases e2
    · obtain ⟨v, e, y⟩ := s.val j d hj
      exact ⟨v, e, dp_mono g _ _ y⟩
  · rcases getElem_set_cases hj with ⟨_, e2⟩ | ⟨n, hj⟩
    · cases e2
    · exact s.raw j w hj
  · rcases getElem_set_cases hj with ⟨e1, e2⟩ | ⟨n, hj⟩
    · subst e1
      subst e2
      exact ⟨.ref p, hσ, p, xs', rfl, ef, hp, x⟩
    · obtain ⟨v, e, o⟩ := s.own j sv hj k
      refine ⟨v, e, o.keep g fun q hq => ?_⟩
      obtain ⟨u, hu⟩ := o.there q hq
      rw [hu]
      exact hk q u (fun z => notin j sv n hj k (by rw [← z]; exact hq)) hu
  · rcases getElem_set_cases hj with ⟨e1, e2⟩ | ⟨n, hj⟩
    · subst e1
      have w := s.off i _ h rfl q hq
      have eq : q = p := by
        rw [ef] at hq
        simpa using hq
      rw [eq]
      exact ⟨hn p _ hp0 off.1, off.2⟩
    · have w := s.off j sv hj k q hq
      obtain ⟨v, e, o⟩ := s.own j sv hj k
      obtain ⟨u, hu⟩ := o.there q hq
      exact ⟨hn q u hu w.1, w.2⟩
  · rcases getElem_set_cases hj with ⟨e1, e2⟩ | ⟨n1, hj⟩
    · subst e1
      rcases getElem_set_cases hl with ⟨e3, e4⟩ | ⟨n2, hl⟩
      · exact absurd e3 n
      · exact s.sep i l _ sw h rfl hl k' n
    · rcases getElem_set_cases hl with ⟨e3, e4⟩ | ⟨n2, hl⟩
      · subst e3
        exact s.sep j i sv _ hj k h rfl n
      · exact s.sep j l sv sw hj k hl k' n
theorem je_callBag (i : Nat) {g : List PyData → List PyData → Option (PyData × List PyData)} {y : Str} {py : Pos} (D : DefOk X.prog X.w X.K X.mg X.base k x ps (spB X.K g)) (hr : Room k X.A) (hg : Gl X x) (ha : PA X es (cA X.K s))
    (hN : X.N[i]? = some y := by rfl) (hv : Vis X.env.scope y := by first | exact Or.inl rfl | exact Or.inr (Or.inl rfl) | exact Or.inr (Or.inr rfl)) (hd : (y == ("__debug__" : Str)) = false := by decide)
    (hcd : (y == ("__classdict__" : Str)) = false := by decide) (hdb : (x == ("__debug__" : Str)) = false := by decide)
    (he : starEach (.Name y py :: es) X.env = (false, eval (.Name y py) X.env) :: starEach es X.env := by rfl) (hpl : (backTo pos (starEach es X.env)).any (·.1) = false := by rfl) : PE X (.Call (.Name x p) (.Name y py :: es) [] pos) (cE X.K (sCallB g i s)) := by
  obtain ⟨f, fd, hm, hk, hb, F⟩ := D.ex
  refine pe_of (pe_call F hr hg hm hk hb .nil pass0 (pa_cons (pe_var hN hv hd hcd) ha he) hdb he hpl) fun σ H Q ⟨A, G, ρ, r, ρ', h, st, q⟩ => ?_
  unfold sCallB at h
  split at h
  · rename_i ds0 e0
    obtain ⟨p, xs0, hp, _, _⟩ := st.ownAt e0
    obtain ⟨⟨ds, ρ1⟩, h1, h⟩ := bind_some h
    simp only at h
    split at h
    · rename_i bs e1
      obtain ⟨z, h2, h⟩ := map_some h
      cases h
      refine ⟨.ref p, hp, A, G, ρ, ds, ρ1, h1, st, fun vs G1 H1 g1 st1 d1 => ?_⟩
      show spB X.K g (V.ref p :: (vs ++ [])) H1 Q E0
      rw [List.append_nil]
      obtain ⟨p', xs, e2, e3, e4, e5, e6, _⟩ := st1.mutOwn (ds' := []) e1
      rw [hp] at e2
      cases e2
      exact ⟨G1, p, xs, bs, vs, ds, z.1, z.2, rfl, st1.gh, e3, e5, e4, d1, h2, fun v G2 H2 xs' g2 gh2 hk2 hn2 hp2 x2 d2 => q v G2 H2 (g1.trans g2) (st1.inout e1 hp g2 gh2 hk2 hn2 hp2 x2) d2⟩
    · cases h
  · cases h
end
end Lay

namespace Lay
open PySem PySem.Spec PyProof.Rows L2

/-! ## what is walked -/
structure ItOk (K : PySem.W.Frag) (J : It) (ds : List PyData) (G : Hp) : Prop where
  item : ∀ (i : Nat) (d : PyData), ds[i]? = some d → ∀ G1 H1, Same G G1 → Same G1 H1 → J.go i H1 ∧ ∀ x H2, J.yld i H1 x H2 → ∃ G2, Grow G1 H1 G2 H2 ∧ Dp K G2 x d
  stop : ∀ G1 H1, Same G G1 → Same G1 H1 → J.stop ds.length H1
def cI (K : PySem.W.Frag) (s : SemL) : TI := fun σ H R => ∃ A G ρ ds ρ', s ρ = some (ds, ρ') ∧ StR K A σ G H ρ ∧ ∀ J G' H', Same G G' → StR K A σ G' H' ρ' → ItOk K J ds G' → R J H'
section
variable {X : Cx} {K : PySem.W.Frag} {tg e iter : Expr} {es : List Expr} {a b : Expr} {pos : Pos} {sa sb : Sem1}
theorem pi_of {t t' : TI} (h : PI X tg iter t) (i : ∀ σ H Q, t' σ H Q → t σ H Q) : PI X tg iter t' := ⟨fun pins s σ H Q I q => h.run pins s σ H Q I (i _ _ _ q)⟩
theorem pi_or {t t' : TI} (h : PI X tg iter t) (h' : PI X tg iter t') : PI X tg iter (fun σ H R => t σ H R ∨ t' σ H R) := ⟨fun pins s σ H Q I q => q.elim (h.run pins s σ H Q I) (h'.run pins s σ H Q I)⟩
theorem itl_ok {G : Hp} {a : Addr} {xs : List V} {ds : List PyData} (hs : ∀ H, Same G H → SqL K H a xs) (x : DpAll K G xs ds) : ItOk K (Itl K a) ds G where
  item := fun i d hi G1 H1 g gh => by
    obtain ⟨v, hv, hd⟩ := dpA_get x hi
    have q := hs H1 (g.trans gh)
    refine ⟨⟨xs, v, q, hv⟩, fun y H2 ⟨e1, e2⟩ => ?_⟩
    subst e1
    have ey : y = v := Option.some.inj ((e2 xs q).symm.trans hv)
    subst ey
    exact ⟨G1, Grow.refl gh, dp_mono g _ _ hd⟩
  stop := fun G1 H1 g gh => ⟨xs, hs H1 (g.trans gh), by rw [dpA_len x]; exact Nat.le_refl _⟩
theorem itt_ok {G : Hp} {a : Addr} {xs : List V} {ds : List PyData} (hs : ∀ H, Same G H → SqT K H a xs) (x : DpAll K G xs ds) : ItOk K (Itt K a) ds G where
  item := fun i d hi G1 H1 g gh => by
    obtain ⟨v, hv, hd⟩ := dpA_get x hi
    have q := hs H1 (g.trans gh)
    refine ⟨⟨xs, v, q, hv⟩, fun y H2 ⟨e1, e2⟩ => ?_⟩
    subst e1
    have ey : y = v := Option.some.inj ((e2 xs q).symm.trans hv)
    subst ey
    exact ⟨G1, Grow.refl gh, dp_mono g _ _ hd⟩
  stop := fun G1 H1 g gh => ⟨xs, hs H1 (g.trans gh), by rw [dpA_len x]; exact Nat.le_refl _⟩
/-- the items of a list or a tuple -/
def iSeq (s : Sem1) : SemL := fun ρ => (s ρ).bind fun x => match x.1 with
  | .list ds => some (ds, x.2)
  | .tuple ds => some (ds, x.2)
  | _ => none
theorem ji_seq (h : PE X e (cE X.K sa)) : PI X tg e (cI X.K (iSeq sa)) := by
  refine pi_of (pi_or (pi_list h) (pi_tup h)) fun σ H R ⟨A, G, ρ, ds, ρ', h, st, q⟩ => ?_
  obtain ⟨⟨x, ρ1⟩, h1, h⟩ := bind_some h
  simp only at h
  split at h
  · cases h
    refine .inl ⟨A, G, ρ, _, _, h1, st, fun v G1 H1 g1 st1 d1 => ?_⟩
    cases d1 with
    | lst a1 b1 => exact ⟨_, rfl, ⟨_, st1.gh.seq a1⟩, q _ G1 H1 g1 st1 (itl_ok (fun H gH => gH.seq a1) b1)⟩
  · cases h
    refine .inr ⟨A, G, ρ, _, _, h1, st, fun v G1 H1 g1 st1 d1 => ?_⟩
    cases d1 with
    | tup a1 b1 => exact ⟨_, rfl, ⟨_, sqT_mono st1.gh a1⟩, q _ G1 H1 g1 st1 (itt_ok (fun H gH => sqT_mono gH a1) b1)⟩
  · cases h
def rangeD (lo : Int) (n : Nat) : List PyData := (List.range n).map fun i => .int (lo + (i : Nat))
theorem rangeD_get {lo : Int} {n i : Nat} {d : PyData} (h : (rangeD lo n)[i]? = some d) : i < n ∧ d = .int (lo + (i : Nat)) := by
  unfold rangeD at h
  rw [List.getElem?_map] at h
  obtain ⟨j, h1, h2⟩ := map_some h
  obtain ⟨h3, h4⟩ := List.getElem?_eq_some_iff.mp h1
  rw [List.length_range] at h3
  rw [List.getElem_range] at h4
  subst h4
  exact ⟨h3, h2.symm⟩
theorem rangeD_len {lo : Int} {n : Nat} : (rangeD lo n).length = n := by
  unfold rangeD
  rw [List.length_map, List.length_range]
theorem itr_ok {G : Hp} {lo : Int} {n : Nat} : ItOk K (Itr lo n) (rangeD lo n) G where
  item := fun i d hi G1 H1 g gh => by
    obtain ⟨h1, h2⟩ := rangeD_get hi
    refine ⟨h1, fun y H2 ⟨e1, e2⟩ => ?_⟩
    subst e1 e2 h2
    exact ⟨G1, Grow.refl gh, .int _⟩
  stop := fun G1 H1 g gh => by
    rw [rangeD_len]
    exact Nat.le_refl n
def iRange1 (s : Sem1) : SemL := fun ρ => (s ρ).bind fun x => match x.1 with
  | .int j => if -(2 ^ 62) ≤ j ∧ j < 2 ^ 62 then some (rangeD 0 j.toNat, x.2) else none
  | _ => none
theorem ji_range1 {p : Pos} (ha : PE X a (cE X.K sa)) (hg : Gl X "range") (hm : X.mg "range" = none) (hs : starEach [a] X.env = [(false, eval a X.env)] := by rfl) : PI X tg (.Call (.Name "range" p) [a] [] pos) (cI X.K (iRange1 sa)) := by
  refine pi_of (pi_range1 hg hm (pa_cons ha pa_nil hs) hs) fun σ H R ⟨A, G, ρ, ds, ρ', h, st, q⟩ => ?_
  obtain ⟨⟨x, ρ1⟩, h1, h⟩ := bind_some h
  simp only at h
  split at h
  · split at h
    · rename_i j c
      cases h
      refine ⟨A, G, ρ, _, _, h1, st, fun v G1 H1 g1 st1 d1 => ?_⟩
      cases d1
      exact ⟨j, rfl, c.1, c.2, q _ G1 H1 g1 st1 itr_ok⟩
    · cases h
  · cases h
def iRange2 (s t : Sem1) : SemL := fun ρ => (s ρ).bind fun x => (t x.2).bind fun y => match x.1, y.1 with
  | .int i, .int j => if -(2 ^ 62) ≤ i ∧ i < 2 ^ 62 ∧ -(2 ^ 62) ≤ j ∧ j < 2 ^ 62 then some (rangeD i (j - i).toNat, y.2) else none
  | _, _ => none
theorem ji_range2 {p : Pos} (ha : PE X a (cE X.K sa)) (hb : PE X b (cE X.K sb)) (hg : Gl X "range") (hm : X.mg "range" = none) (hs : starEach [a, b] X.env = [(false, eval a X.env), (false, eval b X.env)] := by rfl) (hs2 : starEach [b] X.env = [(false, eval b X.env)] := by rfl) :
    PI X tg (.Call (.Name "range" p) [a, b] [] pos) (cI X.K (iRange2 sa sb)) := by
  refine pi_of (pi_range2 hg hm (pa_cons ha (pa_cons hb pa_nil hs2) (by rw [hs, hs2])) hs hs2) fun σ H R ⟨A, G, ρ, ds, ρ', h, st, q⟩ => ?_
  obtain ⟨⟨x, ρ1⟩, h1, h⟩ := bind_some h
  obtain ⟨⟨y, ρ2⟩, h2, h⟩ := bind_some h
  simp only at h
  split at h
  · split at h
    · rename_i i j c
      cases h
      refine ⟨A, G, ρ, _, _, h1, st, fun v G1 H1 g1 st1 d1 => ⟨A, G1, _, _, _, h2, st1, fun w G2 H2 g2 st2 d2 => ?_⟩⟩
      cases d1
      cases d2
      exact ⟨_, _, rfl, c, q _ G2 H2 (g1.trans g2) st2 itr_ok⟩
    · cases h
  · cases h
theorem getD_at {α : Type} {l : List α} {i : Nat} (h : i < l.length) (x : α) : l.getD i x = l[i] := by
  rw [List.getD_eq_getElem?_getD, List.getElem?_eq_getElem h]
  rfl
/-- enumerate(list) -/
def enumD (ds : List PyData) : List PyData := (List.range ds.length).map fun i => .tuple [.int (i : Nat), ds.getD i .none]
theorem enumD_len (ds : List PyData) : (enumD ds).length = ds.length := by
  unfold enumD
  rw [List.length_map, List.length_range]
theorem enumD_get {ds : List PyData} {i : Nat} {d : PyData} (h : (enumD ds)[i]? = some d) : ∃ z, ds[i]? = some z ∧ d = .tuple [.int (i : Nat), z] := by
  unfold enumD at h
  rw [List.getElem?_map] at h
  obtain ⟨j, h1, h2⟩ := map_some h
  obtain ⟨h3, h4⟩ := List.getElem?_eq_some_iff.mp h1
  rw [List.length_range] at h3
  rw [List.getElem_range] at h4
  subst h4
  refine ⟨ds[i], List.getElem?_eq_getElem h3, ?_⟩
  rw [← h2, getD_at h3]
theorem ite_ok {G : Hp} {a : Addr} {xs : List V} {ds : List PyData} (hs : ∀ H, Same G H → SqL K H a xs) (x : DpAll K G xs ds) : ItOk K (Ite K a) (enumD ds) G where
  item := fun i d hi G1 H1 g gh => by
    obtain ⟨z, hz, ed⟩ := enumD_get hi
    obtain ⟨v, hv, hd⟩ := dpA_get x hz
    have q := hs H1 (g.trans gh)
    refine ⟨⟨xs, v, q, hv⟩, fun y H2 ⟨T, u, e1, nT, e2, e3⟩ => ?_⟩
    subst e1 e2 ed
    have ey : u = v := Option.some.inj ((e3 xs q).symm.trans hv)
    subst ey
    exact ⟨_, Grow.val gh nT, .tup (SqT.of upd_same) (.cons (.int _) (.cons (dp_mono (g.trans (same_new (none_of_same gh nT))) _ _ hd) .nil))⟩
  stop := fun G1 H1 g gh => ⟨xs, hs H1 (g.trans gh), by rw [dpA_len x, enumD_len]; exact Nat.le_refl _⟩
def iEnumS (s : Sem1) : SemL := fun ρ => (s ρ).bind fun x => match x.1 with
  | .list ds => some (enumD ds, x.2)
  | _ => none
theorem ji_enum {p tpos : Pos} {elts : List Expr} {kk : Nat} (ha : PE X a (cE X.K sa)) (hg : Gl X "enumerate") (hm : X.mg "enumerate" = none) (hs : starEach [a] X.env = [(false, eval a X.env)] := by rfl) :
    PI X (.Tuple elts kk tpos) (.Call (.Name "enumerate" p) [a] [] pos) (cI X.K (iEnumS sa)) := by
  refine pi_of (pi_enum hg hm (pa_cons ha pa_nil hs) hs) fun σ H R ⟨A, G, ρ, ds, ρ', h, st, q⟩ => ?_
  obtain ⟨⟨x, ρ1⟩, h1, h⟩ := bind_some h
  simp only at h
  split at h
  · cases h
    refine ⟨A, G, ρ, _, _, h1, st, fun v G1 H1 g1 st1 d1 => ?_⟩
    cases d1 with
    | lst a1 b1 => exact ⟨_, _, rfl, st1.gh.seq a1, q _ G1 H1 g1 st1 (ite_ok (fun H gH => gH.seq a1) b1)⟩
  · cases h
/-- zip of two lists, of two tuples -/
def zipD (ds es : List PyData) : List PyData := (List.range (min ds.length es.length)).map fun i => .tuple [ds.getD i .none, es.getD i .none]
theorem zipD_len (ds es : List PyData) : (zipD ds es).length = min ds.length es.length := by
  unfold zipD
  rw [List.length_map, List.length_range]
theorem zipD_get {ds es : List PyData} {i : Nat} {d : PyData} (h : (zipD ds es)[i]? = some d) : ∃ z w, ds[i]? = some z ∧ es[i]? = some w ∧ d = .tuple [z, w] := by
  unfold zipD at h
  rw [List.getElem?_map] at h
  obtain ⟨j, h1, h2⟩ := map_some h
  obtain ⟨h3, h4⟩ := List.getElem?_eq_some_iff.mp h1
  rw [List.length_range] at h3
  rw [List.getElem_range] at h4
  subst h4
  have l1 : i < ds.length := by omega
  have l2 : i < es.length := by omega
  refine ⟨ds[i], es[i], List.getElem?_eq_getElem l1, List.getElem?_eq_getElem l2, ?_⟩
  rw [← h2, getD_at l1, getD_at l2]
theorem itz_ok {G : Hp} {a b : Addr} {xs ys : List V} {ds es : List PyData} (hs : ∀ H, Same G H → SqL K H a xs) (hs' : ∀ H, Same G H → SqL K H b ys) (x : DpAll K G xs ds) (x' : DpAll K G ys es) : ItOk K (Itz K a b) (zipD ds es) G where
  item := fun i d hi G1 H1 g gh => by
    obtain ⟨z, w, hz, hw, ed⟩ := zipD_get hi
    obtain ⟨v, hv, hd⟩ := dpA_get x hz
    obtain ⟨v', hv', hd'⟩ := dpA_get x' hw
    have q := hs H1 (g.trans gh)
    have q' := hs' H1 (g.trans gh)
    refine ⟨⟨xs, ys, v, v', q, q', hv, hv'⟩, fun y H2 ⟨T, u, u', e1, nT, e2, e3, e4⟩ => ?_⟩
    subst e1 e2 ed
    have ey : u = v := Option.some.inj ((e3 xs q).symm.trans hv)
    have ey' : u' = v' := Option.some.inj ((e4 ys q').symm.trans hv')
    subst ey ey'
    have gg := g.trans (same_new (none_of_same gh nT) (o := .tup [u, u']))
    exact ⟨_, Grow.val gh nT, .tup (SqT.of upd_same) (.cons (dp_mono gg _ _ hd) (.cons (dp_mono gg _ _ hd') .nil))⟩
  stop := fun G1 H1 g gh => ⟨xs, ys, hs H1 (g.trans gh), hs' H1 (g.trans gh), by rw [dpA_len x, dpA_len x', zipD_len]; omega⟩
theorem itzT_ok {G : Hp} {a b : Addr} {xs ys : List V} {ds es : List PyData} (hs : ∀ H, Same G H → SqT K H a xs) (hs' : ∀ H, Same G H → SqT K H b ys) (x : DpAll K G xs ds) (x' : DpAll K G ys es) : ItOk K (RZ.ItzT K a b) (zipD ds es) G where
  item := fun i d hi G1 H1 g gh => by
    obtain ⟨z, w, hz, hw, ed⟩ := zipD_get hi
    obtain ⟨v, hv, hd⟩ := dpA_get x hz
    obtain ⟨v', hv', hd'⟩ := dpA_get x' hw
    have q := hs H1 (g.trans gh)
    have q' := hs' H1 (g.trans gh)
    refine ⟨⟨xs, ys, v, v', q, q', hv, hv'⟩, fun y H2 ⟨T, u, u', e1, nT, e2, e3, e4⟩ => ?_⟩
    subst e1 e2 ed
    have ey : u = v := Option.some.inj ((e3 xs q).symm.trans hv)
    have ey' : u' = v' := Option.some.inj ((e4 ys q').symm.trans hv')
    subst ey ey'
    have gg := g.trans (same_new (none_of_same gh nT) (o := .tup [u, u']))
    exact ⟨_, Grow.val gh nT, .tup (SqT.of upd_same) (.cons (dp_mono gg _ _ hd) (.cons (dp_mono gg _ _ hd') .nil))⟩
  stop := fun G1 H1 g gh => ⟨xs, ys, hs H1 (g.trans gh), hs' H1 (g.trans gh), by rw [dpA_len x, dpA_len x', zipD_len]; omega⟩
def iZipS (s t : Sem1) : SemL := fun ρ => (s ρ).bind fun x => (t x.2).bind fun y => match x.1, y.1 with
  | .list ds, .list es => some (zipD ds es, y.2)
  | .tuple ds, .tuple es => some (zipD ds es, y.2)
  | _, _ => none
theorem ji_zip {p tpos : Pos} {elts : List Expr} {kk : Nat} (ha : PE X a (cE X.K sa)) (hb : PE X b (cE X.K sb)) (hg : Gl X "zip") (hm : X.mg "zip" = none) (hs : starEach [a, b] X.env = (false, eval a X.env) :: starEach [b] X.env := by rfl)
    (hs2 : starEach [b] X.env = (false, eval b X.env) :: starEach [] X.env := by rfl) (hpl : (backTo pos (starEach [b] X.env)).any (·.1) = false := by rfl) :
    PI X (.Tuple elts kk tpos) (.Call (.Name "zip" p) [a, b] [] pos) (cI X.K (iZipS sa sb)) := by
  refine pi_of (RZ.pi_zipA hg hm (pa_cons ha (pa_cons hb pa_nil hs2) hs) hs hpl) fun σ H R ⟨A, G, ρ, ds, ρ', h, st, q⟩ => ?_
  obtain ⟨⟨x, ρ1⟩, h1, h⟩ := bind_some h
  obtain ⟨⟨y, ρ2⟩, h2, h⟩ := bind_some h
  simp only at h
  refine ⟨A, G, ρ, _, _, h1, st, fun v G1 H1 g1 st1 d1 => ⟨A, G1, _, _, _, h2, st1, fun w G2 H2 g2 st2 d2 => ?_⟩⟩
  have d1 := dp_mono g2 _ _ d1
  split at h
  · cases h
    cases d1 with
    | lst a1 b1 =>
      cases d2 with
      | lst a2 b2 => exact ⟨_, _, _, _, rfl, .inl ⟨st2.gh.seq a1, st2.gh.seq a2, q _ G2 H2 (g1.trans g2) st2 (itz_ok (fun H gH => gH.seq a1) (fun H gH => gH.seq a2) b1 b2)⟩⟩
  · cases h
    cases d1 with
    | tup a1 b1 =>
      cases d2 with
      | tup a2 b2 => exact ⟨_, _, _, _, rfl, .inr ⟨sqT_mono st2.gh a1, sqT_mono st2.gh a2, q _ G2 H2 (g1.trans g2) st2 (itzT_ok (fun H gH => sqT_mono gH a1) (fun H gH => sqT_mono gH a2) b1 b2)⟩⟩
  · cases h

/-! ## targets -/
theorem wipe_set {σ : L2.St} {i : Nat} {o : Option V} : ∀ {vs : List Nat}, i ∈ vs → wipe (σ.set i o) vs = wipe σ vs
  | v :: vs, h => by
    unfold wipe
    by_cases hi : i ∈ vs
    · rw [wipe_set hi]
    · have e : i = v := by
        rcases List.mem_cons.mp h with e | e
        · exact e
        · exact absurd e hi
      subst e
      have c : ∀ (us : List Nat) (τ : L2.St), i ∉ us → wipe (τ.set i o) us = (wipe τ us).set i o := by
        intro us
        induction us with
        | nil => intro τ _; rfl
        | cons u us ih =>
          intro τ hu
          have h1 : i ≠ u := fun e => hu (by rw [e]; exact List.mem_cons_self)
          have h2 : i ∉ us := fun e => hu (List.mem_cons_of_mem _ e)
          show (wipe (τ.set i o) us).set u none = ((wipe τ us).set u none).set i o
          rw [ih τ h2, List.set_comm _ _ h1]
      rw [c vs σ hi, List.set_set]
def cG (K : PySem.W.Frag) (vs : List Nat) (s : SemG) : TG := fun v σ H Q => ∃ A G ρ d ρ', s d ρ = some ρ' ∧ StR K A σ G H ρ ∧ Dp K G v d ∧ ∀ σ', wipe σ' vs = wipe σ vs → StR K A σ' G H ρ' → Q σ' H
abbrev SemGs := List PyData → Rho → Option Rho
def cGs (K : PySem.W.Frag) (vs : List Nat) (s : SemGs) : TGs := fun xs σ H Q => ∃ A G ρ ds ρ', s ds ρ = some ρ' ∧ StR K A σ G H ρ ∧ DpAll K G xs ds ∧ ∀ σ', wipe σ' vs = wipe σ vs → StR K A σ' G H ρ' → Q σ' H
def gN (i : Nat) : SemG := fun d ρ => some (ρ.set i (.val d))
variable {vs : List Nat}
theorem jg_name (i : Nat) {x : Str} (hN : X.N.Nodup) (hv : i ∈ vs) (hi : X.N[i]? = some x := by rfl) (hx : Loc X.env.scope x := by first | exact Or.inl rfl | exact Or.inr rfl)
    (hf : X.fn x = true ∨ X.env.scope.names.lookup x = some .local := by first | exact .inl rfl | exact .inr rfl | assumption) : PG X (.Name x pos) (cG X.K vs (gN i)) :=
  ⟨fun pins s σ H v u Q I r ⟨A, G, ρ, d, ρ', h, st, x, q⟩ => by
    refine (pg_name hN hi hx hf).run pins s σ H v u Q I r ?_
    cases h
    exact q _ (wipe_set hv) (st.setVal x)⟩
def tgNil : SemGs := fun ds ρ => match ds with
  | [] => some ρ
  | _ => none
def tgCons (g : SemG) (r : SemGs) : SemGs := fun ds ρ => match ds with
  | d :: ds => (g d ρ).bind (r ds)
  | [] => none
def gT (n : Nat) (gs : SemGs) : SemG := fun d ρ => match d with
  | .tuple ds => if ds.length = n then gs ds ρ else none
  | _ => none
theorem jgs_nil : PGs X [] (cGs X.K vs tgNil) :=
  ⟨fun pins s σ H xs us Q I r ⟨A, G, ρ, ds, ρ', h, st, x, q⟩ => by
    refine pgs_nil.run pins s σ H xs us Q I r ?_
    unfold tgNil at h
    split at h
    · cases h
      cases x
      exact ⟨rfl, q σ rfl st⟩
    · cases h⟩
theorem jgs_cons {g : SemG} {gr : SemGs} (h1 : PG X e (cG X.K vs g)) (h2 : PGs X es (cGs X.K vs gr)) (hs : (assignEach (e :: es) X.env).map (·.2) = assign e X.env :: (assignEach es X.env).map (·.2) := by rfl) : PGs X (e :: es) (cGs X.K vs (tgCons g gr)) :=
  ⟨fun pins s σ H xs us Q I r ⟨A, G, ρ, ds, ρ', h, st, x, q⟩ => by
    refine (pgs_cons h1 h2 hs).run pins s σ H xs us Q I r ?_
    unfold tgCons at h
    split at h
    · obtain ⟨ρ1, h3, h4⟩ := bind_some h
      cases x with
      | cons y ys => exact ⟨_, _, rfl, A, G, ρ, _, ρ1, h3, st, y, fun σ1 w1 st1 => ⟨A, G, ρ1, _, ρ', h4, st1, ys, fun σ2 w2 st2 => q σ2 (w2.trans w1) st2⟩⟩
    · cases h⟩
theorem jg_tup {k n : Nat} {gs : SemGs} (hc : X.calm = true) (h : PGs X es (cGs X.K vs gs)) (hn : (assignEach es X.env).length = n := by rfl) (hst : (assignEach es X.env).findIdx? (·.1) = none := by rfl) : PG X (.Tuple es k pos) (cG X.K vs (gT n gs)) :=
  ⟨fun pins s σ H v u Q I r ⟨A, G, ρ, d, ρ', h1, st, x, q⟩ => by
    refine (pg_tup hc h hn hst).run pins s σ H v u Q I r ?_
    unfold gT at h1
    split at h1
    · split at h1
      · rename_i ds hl
        cases x with
        | tup a1 b1 => exact ⟨_, _, rfl, sqT_mono st.gh a1, (dpA_len b1).trans hl, A, G, ρ, _, ρ', h1, st, b1, q⟩
      · cases h1
    · cases h1⟩
end
end Lay

namespace Lay
open PySem PySem.Spec PyProof.Rows L2

section
variable {X : Cx} {K : PySem.W.Frag} {tg e iter : Expr} {es : List Expr} {a b : Expr} {pos : Pos} {sa sb : Sem1}
/-! ## comprehensions -/
def wipeR (ρ : Rho) : List Nat → Rho
  | [] => ρ
  | v :: vs => (wipeR ρ vs).set v .no
theorem wipeR_length (ρ : Rho) : ∀ vs : List Nat, (wipeR ρ vs).length = ρ.length
  | [] => rfl
  | v :: vs => by
    unfold wipeR
    rw [List.length_set, wipeR_length ρ vs]
theorem wipeR_get {ρ : Rho} {j : Nat} {sv : SV} : ∀ {vs : List Nat}, (wipeR ρ vs)[j]? = some sv → sv = .no ∨ (j ∉ vs ∧ ρ[j]? = some sv)
  | [], h => .inr ⟨by simp, h⟩
  | v :: vs, h => by
    unfold wipeR at h
    rcases getElem_set_cases h with ⟨_, e⟩ | ⟨n, h⟩
    · exact .inl e
    · rcases wipeR_get h with e | ⟨m, h⟩
      · exact .inl e
      · refine .inr ⟨fun z => ?_, h⟩
        rcases List.mem_cons.mp z with z | z
        · exact n z.symm
        · exact m z
theorem wipe_at {σ : L2.St} {j : Nat} : ∀ {vs : List Nat}, j ∉ vs → (wipe σ vs)[j]? = σ[j]?
  | [], _ => rfl
  | v :: vs, h => by
    unfold wipe
    rw [List.getElem?_set_ne (fun e => h (by rw [e]; exact List.mem_cons_self)), wipe_at fun z => h (List.mem_cons_of_mem _ z)]
theorem wipe_wipe {σ : L2.St} {vs : List Nat} : wipe (wipe σ vs) vs = wipe σ vs := by
  have c : ∀ (us ws : List Nat) (τ : L2.St), (∀ u ∈ us, u ∈ ws) → wipe (wipe τ us) ws = wipe τ ws := by
    intro us
    induction us with
    | nil => intro ws τ _; rfl
    | cons u us ih =>
      intro ws τ h
      show wipe ((wipe τ us).set u none) ws = wipe τ ws
      rw [wipe_set (h u List.mem_cons_self), ih ws τ fun v hv => h v (List.mem_cons_of_mem _ hv)]
  exact c vs vs σ fun _ h => h
/-- σ and τ alike but for the wiped -/
theorem StR.swap {A : Hp} {σ τ : L2.St} {G H : Hp} {ρ : Rho} {vs : List Nat} (s : StR K A σ G H ρ) (hw : wipe σ vs = wipe τ vs) : StR K A τ G H (wipeR ρ vs) := by
  have hl : σ.length = τ.length := by
    rw [← wipe_length σ vs, hw, wipe_length]
  refine s.forget (by rw [wipeR_length, ← hl]; exact s.len) fun j sv h => ?_
  rcases wipeR_get h with e | ⟨m, h⟩
  · exact .inl e
  · exact .inr ⟨h, by rw [← wipe_at (σ := τ) m, ← wipe_at (σ := σ) m, hw]⟩
theorem StR.frame {A : Hp} {σ : L2.St} {G H : Hp} {ρ : Rho} {D : Addr} {o : HO} (s : StR K A σ G H ρ) (h : H D = none) : StR K (upd A D o) σ G (upd H D o) ρ := by
  obtain ⟨fp, s⟩ := s
  have gD : G D = none := none_of_same s.gh h
  refine ⟨fp, s.len, s.gh.trans (same_new h), same_upd2 s.ah, fun p u e => ?_, s.val, s.raw, fun i sv hi k => ?_, fun i sv hi k p hp => ?_, s.sep⟩
  · by_cases hp : p = D
    · rw [hp]; exact gD
    · rw [upd_ne hp] at e
      exact s.dis p u e
  · obtain ⟨v, e, x⟩ := s.own i sv hi k
    refine ⟨v, e, x.keep (Same.refl _) fun p hp => ?_⟩
    obtain ⟨u, hu⟩ := x.there p hp
    exact upd_ne (ne_of_none hu h)
  · obtain ⟨v, e, x⟩ := s.own i sv hi k
    obtain ⟨u, hu⟩ := x.there p hp
    rw [upd_ne (ne_of_none hu h)]
    exact s.off i sv hi k p hp
theorem StR.reframe {A : Hp} {σ : L2.St} {G H : Hp} {ρ : Rho} {D : Addr} {o o' : HO} (s : StR K (upd A D o) σ G H ρ) : StR K (upd A D o') σ G (upd H D o') ρ := by
  obtain ⟨fp, s⟩ := s
  have gD : G D = none := s.dis D o upd_same
  refine ⟨fp, s.len, fun b u e => ?_, fun b u e => ?_, fun p u e => ?_, s.val, s.raw, fun i sv hi k => ?_, fun i sv hi k p hp => ?_, s.sep⟩
  · rw [upd_ne (ne_of_none e gD)]
    exact s.gh b u e
  · by_cases hb : b = D
    · subst hb
      rw [upd_same] at e ⊢
      exact e
    · rw [upd_ne hb] at e ⊢
      exact s.ah b u (by rw [upd_ne hb]; exact e)
  · by_cases hp : p = D
    · rw [hp]; exact gD
    · rw [upd_ne hp] at e
      exact s.dis p u (by rw [upd_ne hp]; exact e)
  · obtain ⟨v, e, x⟩ := s.own i sv hi k
    refine ⟨v, e, x.keep (Same.refl _) fun p hp => upd_ne fun z => ?_⟩
    have q := (s.off i sv hi k p hp).2
    rw [z, upd_same] at q
    cases q
  · have q := s.off i sv hi k p hp
    have n : p ≠ D := fun z => by
      rw [z, upd_same] at q
      cases q.2
    rw [upd_ne n] at q ⊢
    exact q
theorem StR.unframe {A : Hp} {σ : L2.St} {G H : Hp} {ρ : Rho} {D : Addr} {o : HO} (s : StR K (upd A D o) σ G H ρ) (hA : A D = none) : ∃ H0, H0 D = none ∧ StR K A σ G H0 ρ ∧ H = upd H0 D o := by
  obtain ⟨fp, s⟩ := s
  have gD : G D = none := s.dis D o upd_same
  have eH : H D = some o := s.ah D o upd_same
  refine ⟨fun b => if b = D then none else H b, if_pos rfl, ⟨fp, s.len, fun b u e => ?_, fun b u e => ?_, fun p u e => ?_, s.val, s.raw, fun i sv hi k => ?_, fun i sv hi k p hp => ?_, s.sep⟩, ?_⟩
  · rw [if_neg (ne_of_none e gD)]
    exact s.gh b u e
  · rw [if_neg (ne_of_none e hA)]
    exact s.ah b u (by rw [upd_ne (ne_of_none e hA)]; exact e)
  · exact s.dis p u (by rw [upd_ne (ne_of_none e hA)]; exact e)
  · obtain ⟨v, e, x⟩ := s.own i sv hi k
    refine ⟨v, e, x.keep (Same.refl _) fun p hp => if_neg fun z => ?_⟩
    have q := (s.off i sv hi k p hp).2
    rw [z, upd_same] at q
    cases q
  · have q := s.off i sv hi k p hp
    have n : p ≠ D := fun z => by
      rw [z, upd_same] at q
      cases q.2
    rw [upd_ne n] at q
    exact q
  · funext b
    unfold upd
    by_cases hb : b = D
    · rw [if_pos hb, hb]
      exact eH
    · rw [if_neg hb]
      exact (if_neg hb).symm
def lcL (vs : List Nat) (g : SemG) (c : SemT) (s : Sem1) : List PyData → Rho → Option (List PyData × Rho)
  | [], ρ => some ([], ρ)
  | d :: ds, ρ => (g d ρ).bind fun ρ1 => (c ρ1).bind fun y => if y.1 = true then (s y.2).bind fun z => (lcL vs g c s ds (wipeR z.2 vs)).map fun r => (z.1 :: r.1, r.2)
    else lcL vs g c s ds (wipeR y.2 vs)
def sLc (vs : List Nat) (it : SemL) (g : SemG) (c : SemT) (s : Sem1) : SemL := fun ρ => (it ρ).bind fun x => if x.1.length < 16777216 then lcL vs g c s x.1 (wipeR x.2 vs) else none
def tYesS : SemT := fun ρ => some (true, ρ)
def cTs (K : PySem.W.Frag) := cT K
theorem jts_nil : PTs X [] (cT X.K tYesS) := ⟨fun pins s σ H Q I ⟨A, G, ρ, r, ρ', h, st, q⟩ => by
  cases h
  exact pts_nil.run pins s σ H Q I (q G H (Same.refl _) st)⟩
theorem jts_one {c : Expr} {t : SemT} (h : PT X c (cT X.K t)) : PTs X [c] (cT X.K t) := pts_one h
theorem lc_imp {vs : List Nat} {it : SemL} {g : SemG} {c : SemT} {s : Sem1} (σ : L2.St) (H : Hp) (Q : VK) (h : cF K (sLc vs it g c s) σ H Q) : tLc (cI K it) (cG K vs g) (cT K c) (cE K s) vs σ H Q := by
  obtain ⟨A, G, ρ, rs, ρ', h, st, q⟩ := h
  obtain ⟨⟨ds, ρ1⟩, h1, h⟩ := bind_some h
  split at h
  · rename_i hlen
    simp only at hlen h
    refine ⟨A, G, ρ, ds, ρ1, h1, st, fun J G1 H1 g1 st1 ok D hD => ?_⟩
    have aD : A D = none := none_of_same st1.ah hD
    refine ⟨fun i m H => m = ds.length - i ∧ i ≤ ds.length ∧ ∃ G2 ρ2 xs es rest, Same G1 G2 ∧ StR K (upd A D (.lst xs)) (wipe σ vs) G2 H ρ2 ∧ DpAll K G2 xs es ∧ es.length ≤ i ∧ lcL vs g c s (ds.drop i) ρ2 = some (rest, ρ') ∧ es ++ rest = rs ∧ ∀ (j : Nat) (sv : SV), j ∈ vs → ρ2[j]? = some sv → sv = .no,
      ⟨ds.length, rfl, Nat.zero_le _, G1, wipeR ρ1 vs, [], [], rs, Same.refl _, ?_, .nil, Nat.le_refl _, h, rfl, fun j sv hj hs => (wipeR_get hs).elim id fun z => absurd hj z.1⟩, ?_⟩
    · exact (st1.swap (τ := wipe σ vs) wipe_wipe.symm).frame hD
    · rintro i m H2 ⟨rfl, hi, G2, ρ2, xs, es, rest, g2, st2, x2, hes, hl, erest, hno⟩
      by_cases hlt : i < ds.length
      · refine .inr ?_
        have ed : ds.drop i = ds[i] :: ds.drop (i + 1) := List.drop_eq_getElem_cons hlt
        rw [ed] at hl
        obtain ⟨ρ3, hg, hl⟩ := bind_some hl
        obtain ⟨⟨y, ρ4⟩, hc, hl⟩ := bind_some hl
        obtain ⟨go, yl⟩ := ok.item i _ (List.getElem?_eq_getElem hlt) G2 H2 g2 st2.gh
        refine ⟨go, fun H' => ∃ m', m' < ds.length - i ∧ (m' = ds.length - (i + 1) ∧ i + 1 ≤ ds.length ∧ ∃ G2 ρ2 xs es rest, Same G1 G2 ∧ StR K (upd A D (.lst xs)) (wipe σ vs) G2 H' ρ2 ∧ DpAll K G2 xs es ∧ es.length ≤ i + 1 ∧ lcL vs g c s (ds.drop (i + 1)) ρ2 = some (rest, ρ') ∧ es ++ rest = rs ∧ ∀ (j : Nat) (sv : SV), j ∈ vs → ρ2[j]? = some sv → sv = .no), fun H' hn => hn, fun x H3 hy => ?_⟩
        obtain ⟨G3, gr3, x3⟩ := yl x H3 hy
        refine ⟨_, G3, ρ2, _, ρ3, hg, st2.grow gr3, x3, fun σ2 hw st3 => ⟨by rw [hw, wipe_wipe], _, G3, ρ3, y, ρ4, hc, st3, fun G4 H4 g4 st4 => ?_⟩⟩
        have hw2 : wipe σ2 vs = wipe (wipe σ vs) vs := hw
        cases y with
        | true =>
          rw [if_pos rfl] at hl
          refine iteT ?_
          obtain ⟨⟨z, ρ5⟩, hs, hl⟩ := bind_some hl
          obtain ⟨⟨r, ρ6⟩, hl5, er⟩ := map_some hl
          cases er
          refine ⟨_, G4, ρ4, z, ρ5, hs, st4, fun v G5 H5 g5 st5 x5 => ⟨xs, st5.ah D _ upd_same, ?_, ds.length - (i + 1), by omega, rfl, hlt, G5, wipeR ρ5 vs, xs ++ [v], es ++ [z], r, ?_, ?_, ?_, ?_, hl5, ?_, fun j sv hj hs => (wipeR_get hs).elim id fun z => absurd hj z.1⟩⟩
          · rw [dpA_len x2]
            have e1 : (sizeLine : Nat) = 16777216 := by decide
            omega
          · exact ((g2.trans gr3.g).trans g4).trans g5
          · exact (st5.swap hw2).reframe
          · exact dpA_app (dpA_mono ((gr3.g.trans g4).trans g5) _ _ x2) (.cons x5 .nil)
          · rw [List.length_append]
            show es.length + 1 ≤ i + 1
            omega
          · rw [List.append_assoc]
            exact erest
        | false =>
          rw [if_neg Bool.false_ne_true] at hl
          refine iteF ?_
          exact ⟨ds.length - (i + 1), by omega, rfl, hlt, G4, wipeR ρ4 vs, xs, es, rest, (g2.trans gr3.g).trans g4, st4.swap hw2, dpA_mono (gr3.g.trans g4) _ _ x2, by omega, hl, erest, fun j sv hj hs => (wipeR_get hs).elim id fun z => absurd hj z.1⟩
      · have ei : i = ds.length := by omega
        refine .inl ⟨by rw [ei]; exact ok.stop G2 H2 g2 st2.gh, ?_⟩
        rw [ei, List.drop_length] at hl
        cases hl
        rw [List.append_nil] at erest
        subst erest
        obtain ⟨H0, e0, st0, eH⟩ := st2.unframe aD
        subst eH
        refine q D xs G2 H0 (g1.trans g2) (st0.forget (by rw [← st0.len, wipe_length]) fun j sv h => ?_) e0 x2
        by_cases hj : j ∈ vs
        · exact .inl (hno j sv hj h)
        · exact .inr ⟨h, (wipe_at hj).symm⟩
  · cases h
/-- [e for t in it if c] as a new list -/
theorem jf_lc {elt : Expr} {ifs : List Expr} {scope : Scope} {own : List (Str × Nat)} {it : SemL} {g : SemG} {c : SemT} {s : Sem1} (hc : X.calm = true) (hN : X.N.Nodup) (hi : PI X tg iter (cI X.K it)) (ok : BlkOk X.N X.env.scope scope own)
    (hg : ∀ (s : Shared) (H : Hp) (C : Addr) (cl : List (Str × Addr)) (fp : List Addr), PG (X.blk s H scope (compEnvC scope cl C X.env) fp) tg (cG X.K (own.map (·.2)) g))
    (ht : ∀ (s : Shared) (H : Hp) (C : Addr) (cl : List (Str × Addr)) (fp : List Addr), PTs (X.blk s H scope (compEnvC scope cl C X.env) fp) ifs (cT X.K c))
    (he : ∀ (s' : Shared) (H : Hp) (C : Addr) (cl : List (Str × Addr)) (fp : List Addr), PE (X.blk s' H scope (compEnvC scope cl C X.env) fp) elt (cE X.K s))
    (hs : ∀ x, foldedSetIterable iter X.env x = pure x := by intro _; rfl) : PE X (.ListComp elt [⟨tg, iter, ifs, 0⟩] scope pos) (cF X.K (sLc (own.map (·.2)) it g c s)) :=
  pe_of (pe_lc hc hN hi ok hg ht he hs) lc_imp
end
end Lay

namespace Lay
open PySem PySem.Spec PyProof.Rows L2

section
variable {X : Cx} {K : PySem.W.Frag} {tg e iter c : Expr} {es : List Expr} {st : Stmt} {sts ra rb body : List Stmt} {pos : Pos} {sa sb : Sem1} {s t u : SemS} {x : Str}
/-! ## statements -/
def sSkip : SemS := fun ρ => some (.nx ρ)
def sSeq (s t : SemS) : SemS := fun ρ => (s ρ).bind fun o => match o with
  | .nx ρ' => t ρ'
  | .rt d ρ' => some (.rt d ρ')
  | .rf d ρ' => some (.rf d ρ')
  | .bk ρ' => some (.bk ρ')
  | .ct ρ' => some (.ct ρ')
theorem jss_nil : PSs X [] (cS X.K sSkip) := pss_of pss_nil fun D σ H ⟨A, G, ρ, o, h, st, q⟩ => by
  cases h
  exact q σ G H rfl (Same.refl _) st
theorem seq_imp (D : Ends) (σ : L2.St) (H : Hp) (h : cS K (sSeq s t) D σ H) : tSeq (cS K s) (cS K t) D σ H := by
  obtain ⟨A, G, ρ, o, h, st, q⟩ := h
  obtain ⟨o1, h1, h2⟩ := bind_some h
  refine ⟨A, G, ρ, o1, h1, st, ?_⟩
  cases o1 with
  | nx ρ1 =>
    refine fun σ1 G1 H1 z1 g1 st1 => ⟨A, G1, ρ1, o, h2, st1, ?_⟩
    cases o with
    | nx ρ2 => exact fun σ2 G2 H2 z2 g2 st2 => q σ2 G2 H2 (z2.trans z1) (g1.trans g2) st2
    | rt d ρ2 => exact fun v σ2 G2 H2 z2 g2 st2 x2 => q v σ2 G2 H2 (z2.trans z1) (g1.trans g2) st2 x2
    | rf d ρ2 => exact fun p xs σ2 G2 H2 z2 g2 st2 hp x2 => q p xs σ2 G2 H2 (z2.trans z1) (g1.trans g2) st2 hp x2
    | bk ρ2 => exact fun σ2 G2 H2 z2 g2 st2 => q σ2 G2 H2 (z2.trans z1) (g1.trans g2) st2
    | ct ρ2 => exact fun σ2 G2 H2 z2 g2 st2 => q σ2 G2 H2 (z2.trans z1) (g1.trans g2) st2
  | rt d ρ1 => cases h2; exact q
  | rf d ρ1 => cases h2; exact q
  | bk ρ1 => cases h2; exact q
  | ct ρ1 => cases h2; exact q
theorem jss_cons (h1 : PS X st (cS X.K s)) (h2 : PSs X sts (cS X.K t)) : PSs X (st :: sts) (cS X.K (sSeq s t)) := pss_of (pss_cons h1 h2) seq_imp
theorem jss_one (h1 : PS X st (cS X.K s)) : PSs X [st] (cS X.K s) := pss_one h1
def sStuck : SemS := fun _ => none
theorem js_never : PS X st (cS X.K sStuck) := ps_of ps_never fun D σ H ⟨A, G, ρ, o, h, st, q⟩ => by cases h
theorem jss_never : PSs X sts (cS X.K sStuck) := pss_of pss_never fun D σ H ⟨A, G, ρ, o, h, st, q⟩ => by cases h
/-- an owned list becomes a value: no code -/
def sFrz (i : Nat) : SemS := fun ρ => match ρ[i]? with
  | some (.own ds) => some (.nx (ρ.set i (.val (.list ds))))
  | _ => none
theorem frz_imp {i : Nat} (D : Ends) (σ : L2.St) (H : Hp) (h : cS K (sSeq (sFrz i) t) D σ H) : cS K t D σ H := by
  obtain ⟨A, G, ρ, o, h, st, q⟩ := h
  obtain ⟨o1, h1, h2⟩ := bind_some h
  unfold sFrz at h1
  split at h1
  · rename_i ds e
    cases h1
    obtain ⟨p, xs, _, gp, _, _, _, st'⟩ := st.freeze e
    have g0 : Same G (upd G p (.lst xs)) := same_new gp
    refine ⟨A, _, _, o, h2, st', ?_⟩
    cases o with
    | nx ρ2 => exact fun σ2 G2 H2 z2 g2 st2 => q σ2 G2 H2 z2 (g0.trans g2) st2
    | rt d ρ2 => exact fun v σ2 G2 H2 z2 g2 st2 x2 => q v σ2 G2 H2 z2 (g0.trans g2) st2 x2
    | rf d ρ2 => exact fun p xs σ2 G2 H2 z2 g2 st2 hp x2 => q p xs σ2 G2 H2 z2 (g0.trans g2) st2 hp x2
    | bk ρ2 => exact fun σ2 G2 H2 z2 g2 st2 => q σ2 G2 H2 z2 (g0.trans g2) st2
    | ct ρ2 => exact fun σ2 G2 H2 z2 g2 st2 => q σ2 G2 H2 z2 (g0.trans g2) st2
  · cases h1
theorem jss_frz (i : Nat) (h : PSs X sts (cS X.K t)) : PSs X sts (cS X.K (sSeq (sFrz i) t)) := pss_of h frz_imp
/-- a slot is forgotten: no code -/
def sForget (i : Nat) : SemS := fun ρ => some (.nx (ρ.set i .no))

/-! ### stores -/
def sSet (i : Nat) (s : Sem1) : SemS := fun ρ => (s ρ).map fun x => .nx (x.2.set i (.val x.1))
theorem set0_ne {σ : L2.St} {i : Nat} {o : Option V} (h : i ≠ 0) : (σ.set i o)[0]? = σ[0]? := List.getElem?_set_ne h
theorem set_imp {i : Nat} (n0 : i ≠ 0) (D : Ends) (σ : L2.St) (H : Hp) (h : cS K (sSet i sa) D σ H) : tAsg (cE K sa) (L2.gName i) D σ H := by
  obtain ⟨A, G, ρ, o, h, st, q⟩ := h
  obtain ⟨y, h1, e⟩ := map_some h
  subst e
  exact ⟨A, G, ρ, y.1, y.2, h1, st, fun v G1 H1 g1 st1 x1 => q _ G1 H1 (set0_ne n0) g1 (st1.setVal x1)⟩
theorem js_set (i : Nat) {pos' : Pos} (hN : X.N.Nodup) (he : PE X e (cE X.K sa)) (hi : X.N[i]? = some x := by rfl) (n0 : i ≠ 0 := by decide) (hx : Loc X.env.scope x := by first | exact Or.inl rfl | exact Or.inr rfl) (hs : swapsWith e (some (.Name x pos')) pos.line X.env = pure false := by rfl)
    (hf : X.fn x = true ∨ X.env.scope.names.lookup x = some .local := by first | exact .inl rfl | exact .inr rfl | assumption) : PS X (.Assign [.Name x pos'] e pos) (cS X.K (sSet i sa)) := ps_of (ps_set hN hi hx he hs hf) (set_imp n0)
/-- a new list, owned by the name -/
def sSetF (i : Nat) (s : SemL) : SemS := fun ρ => (s ρ).map fun x => .nx (x.2.set i (.own x.1))
theorem setF_imp {i : Nat} {sl : SemL} (n0 : i ≠ 0) (D : Ends) (σ : L2.St) (H : Hp) (h : cS K (sSetF i sl) D σ H) : tAsg (cF K sl) (L2.gName i) D σ H := by
  obtain ⟨A, G, ρ, o, h, st, q⟩ := h
  obtain ⟨y, h1, e⟩ := map_some h
  subst e
  exact ⟨A, G, ρ, y.1, y.2, h1, st, fun p xs G1 H1 g1 st1 hp x1 => q _ G1 _ (set0_ne n0) g1 (st1.setOwn hp x1)⟩
theorem js_setF (i : Nat) {pos' : Pos} {sl : SemL} (hN : X.N.Nodup) (he : PE X e (cF X.K sl)) (hi : X.N[i]? = some x := by rfl) (n0 : i ≠ 0 := by decide) (hx : Loc X.env.scope x := by first | exact Or.inl rfl | exact Or.inr rfl) (hs : swapsWith e (some (.Name x pos')) pos.line X.env = pure false := by rfl)
    (hf : X.fn x = true ∨ X.env.scope.names.lookup x = some .local := by first | exact .inl rfl | exact .inr rfl | assumption) : PS X (.Assign [.Name x pos'] e pos) (cS X.K (sSetF i sl)) := ps_of (ps_set hN hi hx he hs hf) (setF_imp n0)
/-- name = [.. for ..] on one line -/
theorem js_setLcF (i : Nat) {py spos : Pos} {elt : Expr} {ifs : List Expr} {scope : Scope} {own : List (Str × Nat)} {it : SemL} {g : SemG} {ct : SemT} {s : Sem1} (hc : X.calm = true) (hN : X.N.Nodup)
    (hi : PI X tg iter (cI X.K it)) (ok : BlkOk X.N X.env.scope scope own)
    (hg : ∀ (s : Shared) (H : Hp) (C : Addr) (cl : List (Str × Addr)) (fp : List Addr), PG (X.blk s H scope (compEnvC scope cl C X.env) fp) tg (cG X.K (own.map (·.2)) g))
    (ht : ∀ (s : Shared) (H : Hp) (C : Addr) (cl : List (Str × Addr)) (fp : List Addr), PTs (X.blk s H scope (compEnvC scope cl C X.env) fp) ifs (cT X.K ct))
    (he : ∀ (s' : Shared) (H : Hp) (C : Addr) (cl : List (Str × Addr)) (fp : List Addr), PE (X.blk s' H scope (compEnvC scope cl C X.env) fp) elt (cE X.K s))
    (hy : X.N[i]? = some x := by rfl) (n0 : i ≠ 0 := by decide) (hyl : X.env.scope.names.lookup x = some .local := by rfl) (hsw : swapsWith (.ListComp elt [⟨tg, iter, ifs, 0⟩] scope pos) (some (.Name x py)) spos.line X.env = pure true := by exact sw_true rfl rfl rfl (by decide +kernel))
    (hs : ∀ x, foldedSetIterable iter X.env x = pure x := by intro _; rfl) : PS X (.Assign [.Name x py] (.ListComp elt [⟨tg, iter, ifs, 0⟩] scope pos) spos) (cS X.K (sSetF i (sLc (own.map (·.2)) it g ct s))) :=
  ps_of (ps_setLc hc hN hy hyl hsw hi ok hg ht he hs) fun D σ H h => lc_imp σ H _ (setF_imp n0 D σ H h)
theorem l_imp {sl : SemL} (σ : L2.St) (H : Hp) (Q : VK) (h : cE K (sL sl) σ H Q) : cF K sl σ H Q := by
  obtain ⟨A, G, ρ, r, ρ', h, st, q⟩ := h
  obtain ⟨x, h1, h⟩ := map_some h
  cases h
  exact ⟨A, G, ρ, x.1, x.2, h1, st, fun p xs G1 H1 g1 st1 hp d1 => q _ _ _ (g1.trans (same_new (none_of_same st1.gh hp))) (st1.grow (Grow.val st1.gh hp)) (.lst (SqL.of upd_same) (dpA_mono (same_new (none_of_same st1.gh hp)) _ _ d1))⟩
theorem js_setLc (i : Nat) {py spos : Pos} {elt : Expr} {ifs : List Expr} {scope : Scope} {own : List (Str × Nat)} {it : SemL} {g : SemG} {ct : SemT} {s : Sem1} (hc : X.calm = true) (hN : X.N.Nodup)
    (hi : PI X tg iter (cI X.K it)) (ok : BlkOk X.N X.env.scope scope own)
    (hg : ∀ (s : Shared) (H : Hp) (C : Addr) (cl : List (Str × Addr)) (fp : List Addr), PG (X.blk s H scope (compEnvC scope cl C X.env) fp) tg (cG X.K (own.map (·.2)) g))
    (ht : ∀ (s : Shared) (H : Hp) (C : Addr) (cl : List (Str × Addr)) (fp : List Addr), PTs (X.blk s H scope (compEnvC scope cl C X.env) fp) ifs (cT X.K ct))
    (he : ∀ (s' : Shared) (H : Hp) (C : Addr) (cl : List (Str × Addr)) (fp : List Addr), PE (X.blk s' H scope (compEnvC scope cl C X.env) fp) elt (cE X.K s))
    (hy : X.N[i]? = some x := by rfl) (n0 : i ≠ 0 := by decide) (hyl : X.env.scope.names.lookup x = some .local := by rfl) (hsw : swapsWith (.ListComp elt [⟨tg, iter, ifs, 0⟩] scope pos) (some (.Name x py)) spos.line X.env = pure true := by exact sw_true rfl rfl rfl (by decide +kernel))
    (hs : ∀ x, foldedSetIterable iter X.env x = pure x := by intro _; rfl) : PS X (.Assign [.Name x py] (.ListComp elt [⟨tg, iter, ifs, 0⟩] scope pos) spos) (cS X.K (sSet i (sL (sLc (own.map (·.2)) it g ct s)))) :=
  ps_of (ps_setLc hc hN hy hyl hsw hi ok hg ht he hs) fun D σ H h => lc_imp σ H _ (l_imp σ H _ (set_imp n0 D σ H h))
/-- a, b, .. = a tuple -/
def sUnp (g : SemG) (s : Sem1) : SemS := fun ρ => (s ρ).bind fun x => (g x.1 x.2).map .nx
theorem wipe0 {σ τ : L2.St} {vs : List Nat} (n0 : 0 ∉ vs) (h : wipe τ vs = wipe σ vs) : τ[0]? = σ[0]? := by
  rw [← wipe_at (σ := τ) n0, h, wipe_at n0]
theorem js_unp {ts : List Expr} {k : Nat} {tpos : Pos} {g : SemG} {vs : List Nat} (n0 : 0 ∉ vs) (hg : PG X (.Tuple ts k tpos) (cG X.K vs g)) (he : PE X e (cE X.K sa)) (hs : swapsWithSole [.Tuple ts k tpos] e pos.line X.env = pure false := by rfl) (hw : swappedStores [.Tuple ts k tpos] e X.env = pure none := by rfl)
    (h1 : (assignEach [.Tuple ts k tpos] X.env).map (·.2) = [assign (.Tuple ts k tpos) X.env] := by rfl) : PS X (.Assign [.Tuple ts k tpos] e pos) (cS X.K (sUnp g sa)) := by
  refine ps_of (ps_asg he hg hs hw h1) fun D σ H ⟨A, G, ρ, o, h, st, q⟩ => ?_
  obtain ⟨y, h2, h3⟩ := bind_some h
  obtain ⟨ρ2, h4, h5⟩ := map_some h3
  subst h5
  exact ⟨A, G, ρ, y.1, y.2, h2, st, fun v G1 H1 g1 st1 x1 => ⟨A, G1, y.2, y.1, ρ2, h4, st1, x1, fun σ2 w2 st2 => q σ2 G1 H1 (wipe0 n0 w2) g1 st2⟩⟩
/-- a, b = e1, e2, two names -/
def sPar (i j : Nat) (s t : Sem1) : SemS := fun ρ => (s ρ).bind fun x => (t x.2).map fun y => .nx ((y.2.set i (.val x.1)).set j (.val y.1))
theorem js_par (i j : Nat) {y : Str} {a b : Expr} {px py pt : Pos} {kt k2 : Nat} {pt2 : Pos} (hc : X.calm = true) (hN : X.N.Nodup) (ha : PE X a (cE X.K sa)) (hb : PE X b (cE X.K sb)) (hi : X.N[i]? = some x := by rfl) (hj : X.N[j]? = some y := by rfl) (hij : i ≠ j := by decide) (n0 : i ≠ 0 := by decide) (m0 : j ≠ 0 := by decide)
    (hx : X.env.scope.names.lookup x = some .local := by rfl) (hy : X.env.scope.names.lookup y = some .local := by rfl) (hs0 : starEach [a, b] X.env = (false, eval a X.env) :: starEach [b] X.env := by rfl) (hs1 : starEach [b] X.env = (false, eval b X.env) :: starEach [] X.env := by rfl)
    (hw : swappedStores [.Tuple [.Name x px, .Name y py] kt pt] (.Tuple [a, b] k2 pt2) X.env = pure (some [x, y]) := by rfl)
    (hs : swapsWithSole [.Tuple [.Name x px, .Name y py] kt pt] (.Tuple [a, b] k2 pt2) pos.line X.env = pure false := by rfl) :
    PS X (.Assign [.Tuple [.Name x px, .Name y py] kt pt] (.Tuple [a, b] k2 pt2) pos) (cS X.K (sPar i j sa sb)) := by
  refine ps_of (ps_par hc hN hi hj hij hx hy (pa_cons ha (pa_cons hb pa_nil hs1) hs0) hw hs) fun D σ H ⟨A, G, ρ, o, h, st, q⟩ => ?_
  obtain ⟨z, h1, h2⟩ := bind_some h
  obtain ⟨w, h3, h4⟩ := map_some h2
  subst h4
  exact ⟨A, G, ρ, z.1, z.2, h1, st, fun v G1 H1 g1 st1 x1 => ⟨A, G1, z.2, w.1, w.2, h3, st1, fun v2 G2 H2 g2 st2 x2 => ⟨v, v2, rfl, q _ G2 H2 ((set0_ne m0).trans (set0_ne n0)) (g1.trans g2) ((st2.setVal (dp_mono g2 _ _ x1)).setVal x2)⟩⟩⟩
/-- an append to an owned list -/
def sApp (i : Nat) (s : Sem1) : SemS := fun ρ => match ρ[i]? with
  | some (.own _) => (s ρ).bind fun x => match x.2[i]? with
    | some (.own ds) => if ds.length < 16777216 then some (.nx (x.2.set i (.own (ds ++ [x.1])))) else none
    | _ => none
  | _ => none
theorem js_app (i : Nat) {px apos cpos : Pos} (he : PE X e (cE X.K sa))
    (hf : ∀ te, PE X e te → PE X (.Call (.Attribute (.Name x px) "append" apos) [e] [] cpos) (tBM X.K "list" rAppend (tVar i) (tCons te tNil)) := by exact fun _ he => pe_bm PySem.F.plainAttrs_list PySem.F.slot_list_append PySem.F.type_list_append mt_append (pv _) (pa_cons he pa_nil))
    (hs : swapsWith (.Call (.Attribute (.Name x px) "append" apos) [e] [] cpos) none pos.line X.env = pure false := by rfl) : PS X (.Expr (.Call (.Attribute (.Name x px) "append" apos) [e] [] cpos) pos) (cS X.K (sApp i sa)) := by
  have h := hf _ he
  refine ps_of (ps_expr h hs) fun D σ H ⟨A, G, ρ, o, h, st, q⟩ => ?_
  unfold sApp at h
  split at h
  · rename_i ds0 e0
    obtain ⟨p, xs0, hp, hp2, _⟩ := st.ownAt e0
    obtain ⟨⟨y, ρ1⟩, h1, h⟩ := bind_some h
    simp only at h
    split at h
    · rename_i ds e1
      split at h
      · rename_i hl
        cases h
        refine ⟨.ref p, hp, .inl ⟨rfl, _, SqL.of hp2⟩, A, G, ρ, y, ρ1, h1, st, fun v G1 H1 g1 st1 x1 => ?_⟩
        obtain ⟨p', xs, e2, e3, e4, _, _, up⟩ := st1.mutOwn (ds' := []) e1
        rw [hp] at e2
        cases e2
        refine ⟨p, xs, v, rfl, rfl, e3, by rw [dpA_len e4]; exact hl, q σ G1 _ rfl g1 (up _ _ (dpA_app e4 (.cons x1 .nil)))⟩
      · cases h
    · cases h
  · cases h
/-- xs[i] = v of an owned list -/
def sSetIx (i : Nat) (k : Sem1) (s : Sem1) : SemS := fun ρ => (s ρ).bind fun x => match x.2[i]? with
  | some (.own _) => (k x.2).bind fun y => match y.2[i]?, y.1 with
    | some (.own ds), .int z => (ixN ds.length z).map fun j => .nx (y.2.set i (.own (ds.set j x.1)))
    | _, _ => none
  | _ => none
theorem js_setIx (i : Nat) {b : Expr} {px ppos : Pos} (he : PE X e (cE X.K sa)) (hb : PE X b (cE X.K sb)) (hN : X.N[i]? = some x := by rfl) (hv : Vis X.env.scope x := by first | exact Or.inl rfl | exact Or.inr (Or.inl rfl) | exact Or.inr (Or.inr rfl)) (hd : (x == ("__debug__" : Str)) = false := by decide)
    (hcd : (x == ("__classdict__" : Str)) = false := by decide)
    (ha : ∀ v, assign (.Subscript (.Name x px) b ppos) X.env v = (do
      let ov ← holding [v] (eval (.Name x px) X.env)
      let iv ← holding [v, ov] (eval b X.env)
      standAt ppos
      holding [v, ov, iv] (setItem ov iv v)
      release [v, ov, iv] []) := by intro _; rfl)
    (hs : swapsWithSole [.Subscript (.Name x px) b ppos] e pos.line X.env = pure false := by rfl) (hw : swappedStores [.Subscript (.Name x px) b ppos] e X.env = pure none := by rfl)
    (h1 : (assignEach [.Subscript (.Name x px) b ppos] X.env).map (·.2) = [assign (.Subscript (.Name x px) b ppos) X.env] := by rfl) : PS X (.Assign [.Subscript (.Name x px) b ppos] e pos) (cS X.K (sSetIx i sb sa)) := by
  refine ps_of (ps_asg he (pg_sub (pe_var hN hv hd hcd) hb set_list ha) hs hw h1) fun D σ H ⟨A, G, ρ, o, h, st, q⟩ => ?_
  obtain ⟨⟨y, ρ1⟩, h2, h⟩ := bind_some h
  refine ⟨A, G, ρ, y, ρ1, h2, st, fun v G1 H1 g1 st1 x1 => ?_⟩
  simp only at h
  split at h
  · rename_i ds0 e0
    obtain ⟨p, xs0, hp, hp2, _⟩ := st1.ownAt e0
    obtain ⟨⟨z, ρ2⟩, h3, h⟩ := bind_some h
    refine ⟨.ref p, hp, A, G1, ρ1, z, ρ2, h3, st1, fun w G2 H2 g2 st2 x2 => ?_⟩
    simp only at h
    split at h
    · rename_i ds k e1
      obtain ⟨j, h4, e2⟩ := map_some h
      subst e2
      cases x2
      obtain ⟨p', xs, e2, e3, e4, _, _, up⟩ := st2.mutOwn (ds' := []) e1
      rw [hp] at e2
      cases e2
      exact ⟨p, xs, k, j, rfl, rfl, e3, by rw [dpA_len e4]; exact h4, q σ G2 _ rfl (g1.trans g2) (up _ _ (dpA_set j e4 (dp_mono g2 _ _ x1)))⟩
    · cases h
  · cases h

/-! ### an expression dropped, a return -/
def sDrop (s : Sem1) : SemS := fun ρ => (s ρ).map fun x => .nx x.2
theorem js_expr (he : PE X e (cE X.K sa)) (hs : swapsWith e none pos.line X.env = pure false := by rfl) : PS X (.Expr e pos) (cS X.K (sDrop sa)) := by
  refine ps_of (ps_expr he hs) fun D σ H ⟨A, G, ρ, o, h, st, q⟩ => ?_
  obtain ⟨y, h1, e⟩ := map_some h
  subst e
  exact ⟨A, G, ρ, y.1, y.2, h1, st, fun v G1 H1 g1 st1 x1 => q σ G1 H1 rfl g1 st1⟩
def sRet (s : Sem1) : SemS := fun ρ => (s ρ).map fun x => .rt x.1 x.2
theorem js_ret (he : PE X e (cE X.K sa)) : PS X (.Return (some e) pos) (cS X.K (sRet sa)) := by
  refine ps_of (ps_ret he) fun D σ H ⟨A, G, ρ, o, h, st, q⟩ => ?_
  obtain ⟨y, h1, e⟩ := map_some h
  subst e
  exact ⟨A, G, ρ, y.1, y.2, h1, st, fun v G1 H1 g1 st1 x1 => q v σ G1 H1 rfl g1 st1 x1⟩
def sRetF (s : SemL) : SemS := fun ρ => (s ρ).map fun x => .rf x.1 x.2
theorem js_retF {sl : SemL} (he : PE X e (cF X.K sl)) : PS X (.Return (some e) pos) (cS X.K (sRetF sl)) := by
  refine ps_of (ps_ret he) fun D σ H ⟨A, G, ρ, o, h, st, q⟩ => ?_
  obtain ⟨y, h1, e⟩ := map_some h
  subst e
  exact ⟨A, G, ρ, y.1, y.2, h1, st, fun p xs G1 H1 g1 st1 hp x1 => q p xs σ G1 H1 rfl g1 st1 hp x1⟩
/-- an owned list given away -/
theorem StR.give {A : Hp} {σ : L2.St} {G H : Hp} {ρ : Rho} {i : Nat} {ds : List PyData} (st : StR K A σ G H ρ) (h : ρ[i]? = some (.own ds)) :
    ∃ p xs H0, σ[i]? = some (some (.ref p)) ∧ H0 p = none ∧ H = upd H0 p (.lst xs) ∧ DpAll K G xs ds ∧ StR K A σ G H0 (ρ.set i .no) := by
  obtain ⟨fp, s⟩ := st
  obtain ⟨v, e, p, xs, e0, ef, hp, x⟩ := s.own i _ h rfl
  subst e0
  have pi : p ∈ fp i := by rw [ef]; exact List.mem_cons_self
  have off := s.off i _ h rfl p pi
  have old : ∀ (j : Nat) (sv : SV), (ρ.set i .no)[j]? = some sv → sv.isOwn = true → i ≠ j ∧ ρ[j]? = some sv := fun j sv h k => by
    rcases getElem_set_cases h with ⟨_, e⟩ | q
    · rw [e] at k; cases k
    · exact q
  refine ⟨p, xs, fun b => if b = p then none else H b, e, if_pos rfl, ?_, x, fp, by rw [List.length_set]; exact s.len, fun b o eb => ?_, fun b o eb => ?_, s.dis, fun j d hj => ?_, fun j w hj => ?_, fun j sv hj k => ?_, fun j sv hj k => s.off j sv (old j sv hj k).2 k, fun j l sv sw hj k hl k' n => s.sep j l sv sw (old j sv hj k).2 k (old l sw hl k').2 k' n⟩
  · funext b
    unfold upd
    by_cases hb : b = p
    · rw [if_pos hb, hb]
      exact hp
    · rw [if_neg hb]
      exact (if_neg hb).symm
  · rw [if_neg (ne_of_none eb off.1)]
    exact s.gh b o eb
  · rw [if_neg (ne_of_none eb off.2)]
    exact s.ah b o eb
  · rcases getElem_set_cases hj with ⟨_, e2⟩ | ⟨n, hj⟩
    · cases e2
    · exact s.val j d hj
  · rcases getElem_set_cases hj with ⟨_, e2⟩ | ⟨n, hj⟩
    · cases e2
    · exact s.raw j w hj
  · have q := old j sv hj k
    obtain ⟨v, e, o⟩ := s.own j sv q.2 k
    refine ⟨v, e, o.keep (Same.refl _) fun b hb => if_neg fun z => s.sep i j _ sv h rfl q.2 k q.1 p pi (by rw [← z]; exact hb)⟩
def sRetO (i : Nat) : SemS := fun ρ => match ρ[i]? with
  | some (.own ds) => some (.rf ds (ρ.set i .no))
  | _ => none
theorem js_retO (i : Nat) {px : Pos} (hN : X.N[i]? = some x := by rfl) (hv : Vis X.env.scope x := by first | exact Or.inl rfl | exact Or.inr (Or.inl rfl) | exact Or.inr (Or.inr rfl)) (hd : (x == ("__debug__" : Str)) = false := by decide)
    (hcd : (x == ("__classdict__" : Str)) = false := by decide) : PS X (.Return (some (.Name x px)) pos) (cS X.K (sRetO i)) := by
  refine ps_of (ps_ret (pe_var hN hv hd hcd)) fun D σ H ⟨A, G, ρ, o, h, st, q⟩ => ?_
  unfold sRetO at h
  split at h
  · rename_i ds e0
    cases h
    obtain ⟨p, xs, H0, e1, e2, e3, e4, e5⟩ := st.give e0
    refine ⟨.ref p, e1, ?_⟩
    rw [e3]
    exact q p xs σ G H0 rfl (Same.refl _) e5 e2 e4
  · cases h
/-- an owned list handed on to another name -/
theorem js_pass : PS X (.Pass pos) (cS X.K sSkip) := ps_of ps_pass fun D σ H ⟨A, G, ρ, o, h, st, q⟩ => by
  cases h
  exact q σ G H rfl (Same.refl _) st

/-! ### if, for, while -/
def sIf (c : SemT) (s t : SemS) : SemS := fun ρ => (c ρ).bind fun x => if x.1 = true then s x.2 else t x.2
theorem cS_mono {G : Hp} {A : Hp} {D : Ends} {σ : L2.St} {G1 H1 : Hp} {ρ1 : Rho} {o : Out} (h : t ρ1 = some o) (st : StR K A σ G1 H1 ρ1) (g : Same G G1) (q : match (generalizing := false) o with
  | .nx ρ' => ∀ σ' G' H', σ'[0]? = σ[0]? → Same G G' → StR K A σ' G' H' ρ' → D.nx σ' H'
  | .rt d ρ' => ∀ v σ' G' H', σ'[0]? = σ[0]? → Same G G' → StR K A σ' G' H' ρ' → Dp K G' v d → D.rt v H'
  | .rf ds ρ' => ∀ p xs σ' G' H', σ'[0]? = σ[0]? → Same G G' → StR K A σ' G' H' ρ' → H' p = none → DpAll K G' xs ds → D.rt (.ref p) (upd H' p (.lst xs))
  | .bk ρ' => ∀ σ' G' H', σ'[0]? = σ[0]? → Same G G' → StR K A σ' G' H' ρ' → D.bk σ' H'
  | .ct ρ' => ∀ σ' G' H', σ'[0]? = σ[0]? → Same G G' → StR K A σ' G' H' ρ' → D.ct σ' H') : cS K t D σ H1 := by
  refine ⟨A, G1, ρ1, o, h, st, ?_⟩
  cases o with
  | nx ρ2 => exact fun σ2 G2 H2 z2 g2 st2 => q σ2 G2 H2 z2 (g.trans g2) st2
  | rt d ρ2 => exact fun v σ2 G2 H2 z2 g2 st2 x2 => q v σ2 G2 H2 z2 (g.trans g2) st2 x2
  | rf d ρ2 => exact fun p xs σ2 G2 H2 z2 g2 st2 hp x2 => q p xs σ2 G2 H2 z2 (g.trans g2) st2 hp x2
  | bk ρ2 => exact fun σ2 G2 H2 z2 g2 st2 => q σ2 G2 H2 z2 (g.trans g2) st2
  | ct ρ2 => exact fun σ2 G2 H2 z2 g2 st2 => q σ2 G2 H2 z2 (g.trans g2) st2
theorem js_if {tc : SemT} (hc : PT X c (cT X.K tc)) (ha : PSs X ra (cS X.K s)) (hb : PSs X rb (cS X.K t)) : PS X (.If c ra rb pos) (cS X.K (sIf tc s t)) := by
  refine ps_of (ps_if hc ha hb) fun D σ H ⟨A, G, ρ, o, h, st, q⟩ => ?_
  obtain ⟨y, h1, h⟩ := bind_some h
  refine ⟨A, G, ρ, y.1, y.2, h1, st, fun G1 H1 g1 st1 => ?_⟩
  cases hy : y.1 with
  | true =>
    rw [hy, if_pos rfl] at h
    exact iteT (cS_mono h st1 g1 q)
  | false =>
    rw [hy, if_neg Bool.false_ne_true] at h
    exact iteF (cS_mono h st1 g1 q)
def forL (g : SemG) (b : SemS) : List PyData → Rho → Option Out
  | [], ρ => some (.nx ρ)
  | d :: ds, ρ => (g d ρ).bind fun ρ1 => (b ρ1).bind fun o => match o with
    | .nx ρ2 => forL g b ds ρ2
    | .ct ρ2 => forL g b ds ρ2
    | .bk ρ2 => some (.nx ρ2)
    | .rt d ρ2 => some (.rt d ρ2)
    | .rf d ρ2 => some (.rf d ρ2)
def sFor (it : SemL) (g : SemG) (b : SemS) : SemS := fun ρ => (it ρ).bind fun x => forL g b x.1 x.2
theorem js_for {it : SemL} {g : SemG} {vs : List Nat} (n0 : 0 ∉ vs) (hi : PI X tg iter (cI X.K it)) (hg : PG X tg (cG X.K vs g)) (hb : PSs X body (cS X.K s)) (hc : X.calm = true) (hp : PassesOwn (model X.prog X.w) X.A X.env X.xe := by exact PassesOwn.never)
    (hs : ∀ x, foldedSetIterable iter X.env x = pure x := by intro _; rfl) : PS X (.For tg iter body [] pos) (cS X.K (sFor it g s)) := by
  refine ps_of (ps_for hp hc hi hg hb hs) fun D σ H ⟨A, G, ρ, o, h, st, q⟩ => ?_
  obtain ⟨⟨ds, ρ1⟩, h1, h⟩ := bind_some h
  simp only at h
  refine ⟨A, G, ρ, ds, ρ1, h1, st, fun J G1 H1 g1 st1 ok => ⟨fun i m τ H => m = ds.length - i ∧ i ≤ ds.length ∧ τ[0]? = σ[0]? ∧ ∃ G2 ρ2, Same G1 G2 ∧ StR X.K A τ G2 H ρ2 ∧ forL g s (ds.drop i) ρ2 = some o, ⟨ds.length, rfl, Nat.zero_le _, rfl, G1, ρ1, Same.refl _, st1, h⟩, ?_⟩⟩
  rintro i m σ2 H2 ⟨rfl, hi2, z2, G2, ρ2, g2, st2, hl⟩
  by_cases hlt : i < ds.length
  · refine .inr ?_
    have ed : ds.drop i = ds[i] :: ds.drop (i + 1) := List.drop_eq_getElem_cons hlt
    rw [ed] at hl
    obtain ⟨ρ3, h3, hl⟩ := bind_some hl
    obtain ⟨o4, h4, hl⟩ := bind_some hl
    obtain ⟨go, yl⟩ := ok.item i _ (List.getElem?_eq_getElem hlt) G2 H2 g2 st2.gh
    refine ⟨go, fun σ' H' => ∃ m', m' < ds.length - i ∧ (m' = ds.length - (i + 1) ∧ i + 1 ≤ ds.length ∧ σ'[0]? = σ[0]? ∧ ∃ G2 ρ2, Same G1 G2 ∧ StR X.K A σ' G2 H' ρ2 ∧ forL g s (ds.drop (i + 1)) ρ2 = some o), fun σ' H' hn => hn, fun x H3 hy => ?_⟩
    obtain ⟨G3, gr3, x3⟩ := yl x H3 hy
    refine ⟨A, G3, ρ2, _, ρ3, h3, st2.grow gr3, x3, fun σ3 w3 st3 => ⟨A, G3, ρ3, o4, h4, st3, ?_⟩⟩
    have z3 := (wipe0 n0 w3).trans z2
    have g3 := g2.trans gr3.g
    cases o4 with
    | nx ρ4 => exact fun σ4 G4 H4 z4 g4 st4 => ⟨ds.length - (i + 1), by omega, rfl, hlt, z4.trans z3, G4, ρ4, g3.trans g4, st4, hl⟩
    | ct ρ4 => exact fun σ4 G4 H4 z4 g4 st4 => ⟨ds.length - (i + 1), by omega, rfl, hlt, z4.trans z3, G4, ρ4, g3.trans g4, st4, hl⟩
    | bk ρ4 =>
      cases hl
      exact fun σ4 G4 H4 z4 g4 st4 => q σ4 G4 H4 (z4.trans z3) ((g1.trans g3).trans g4) st4
    | rt d ρ4 =>
      cases hl
      exact fun v σ4 G4 H4 z4 g4 st4 x4 => q v σ4 G4 H4 (z4.trans z3) ((g1.trans g3).trans g4) st4 x4
    | rf d ρ4 =>
      cases hl
      exact fun p xs σ4 G4 H4 z4 g4 st4 hp x4 => q p xs σ4 G4 H4 (z4.trans z3) ((g1.trans g3).trans g4) st4 hp x4
  · have ei : i = ds.length := by omega
    rw [ei, List.drop_length] at hl
    cases hl
    exact .inl ⟨by rw [ei]; exact ok.stop G2 H2 g2 st2.gh, q σ2 G2 H2 z2 (g1.trans g2) st2⟩
def whileN (c : SemT) (b : SemS) : Nat → Rho → Option Out
  | 0, _ => none
  | n + 1, ρ => (c ρ).bind fun x => if x.1 = true then (b x.2).bind fun o => match o with
      | .nx ρ2 => whileN c b n ρ2
      | .ct ρ2 => whileN c b n ρ2
      | .bk ρ2 => some (.nx ρ2)
      | .rt d ρ2 => some (.rt d ρ2)
      | .rf d ρ2 => some (.rf d ρ2)
    else some (.nx x.2)
def sWhile (n : Nat) (c : SemT) (b : SemS) : SemS := whileN c b n
theorem js_while (n : Nat) {tc : SemT} (hc : PT X c (cT X.K tc)) (hb : PSs X body (cS X.K s)) (hp : PassesOwn (model X.prog X.w) X.A X.env X.xe := by exact PassesOwn.never) : PS X (.While c body [] pos) (cS X.K (sWhile n tc s)) := by
  refine ps_of (ps_while hp hc hb) fun D σ H ⟨A, G, ρ, o, h, st, q⟩ => ?_
  refine ⟨fun m τ H => τ[0]? = σ[0]? ∧ ∃ G2 ρ2, Same G G2 ∧ StR X.K A τ G2 H ρ2 ∧ whileN tc s m ρ2 = some o, ⟨n, rfl, G, ρ, Same.refl _, st, h⟩, ?_⟩
  rintro m σ2 H2 ⟨z2, G2, ρ2, g2, st2, hl⟩
  cases m with
  | zero => cases hl
  | succ m =>
    obtain ⟨⟨y, ρ3⟩, h3, hl⟩ := bind_some hl
    refine ⟨A, G2, ρ2, y, ρ3, h3, st2, fun G3 H3 g3 st3 => ?_⟩
    cases y with
    | true =>
      rw [if_pos rfl] at hl
      obtain ⟨o4, h4, hl⟩ := bind_some hl
      refine iteT ⟨fun σ' H' => ∃ m', m' < m + 1 ∧ σ'[0]? = σ[0]? ∧ ∃ G2 ρ2, Same G G2 ∧ StR X.K A σ' G2 H' ρ2 ∧ whileN tc s m' ρ2 = some o, fun σ' H' hn => hn, A, G3, ρ3, o4, h4, st3, ?_⟩
      cases o4 with
      | nx ρ4 => exact fun σ4 G4 H4 z4 g4 st4 => ⟨m, Nat.lt_succ_self m, z4.trans z2, G4, ρ4, (g2.trans g3).trans g4, st4, hl⟩
      | ct ρ4 => exact fun σ4 G4 H4 z4 g4 st4 => ⟨m, Nat.lt_succ_self m, z4.trans z2, G4, ρ4, (g2.trans g3).trans g4, st4, hl⟩
      | bk ρ4 =>
        cases hl
        exact fun σ4 G4 H4 z4 g4 st4 => q σ4 G4 H4 (z4.trans z2) ((g2.trans g3).trans g4) st4
      | rt d ρ4 =>
        cases hl
        exact fun v σ4 G4 H4 z4 g4 st4 x4 => q v σ4 G4 H4 (z4.trans z2) ((g2.trans g3).trans g4) st4 x4
      | rf d ρ4 =>
        cases hl
        exact fun p xs σ4 G4 H4 z4 g4 st4 hp x4 => q p xs σ4 G4 H4 (z4.trans z2) ((g2.trans g3).trans g4) st4 hp x4
    | false =>
      rw [if_neg Bool.false_ne_true] at hl
      cases hl
      exact iteF (q σ2 G3 H3 z2 (g2.trans g3) st3)
end

/-! ## a def of the text -/
def entry (n : Nat) (vs : List SV) : Rho := vs ++ List.replicate (n - vs.length) .no
/-- what a body gives back -/
def outD : Out → Option PyData
  | .rt d _ => some d
  | .rf ds _ => some (.list ds)
  | .nx _ => some .none
  | _ => none
def outF : Out → Option (List PyData)
  | .rf ds _ => some ds
  | _ => none
def runD (np n : Nat) (b : SemS) : List PyData → Option PyData := fun ds => if ds.length = np then (b (entry n (ds.map SV.val))).bind outD else none
def runF (np n : Nat) (b : SemS) : List PyData → Option (List PyData) := fun ds => if ds.length = np then (b (entry n (ds.map SV.val))).bind outF else none
def outB : Out → Option (PyData × List PyData)
  | .rt d ρ => match (ρ[0]? : Option SV) with
    | some (SV.own bs) => some (d, bs)
    | _ => none
  | .nx ρ => match (ρ[0]? : Option SV) with
    | some (SV.own bs) => some (PyData.none, bs)
    | _ => none
  | _ => none
def runB (np n : Nat) (b : SemS) : List PyData → List PyData → Option (PyData × List PyData) := fun bs ds => if ds.length + 1 = np then (b (entry n (.own bs :: ds.map SV.val))).bind outB else none
section
variable {P : Program} {w : World} {K : PySem.W.Frag} {mg : Str → Option Value} {base : Heap} {CX : CXT}
theorem start_get {N : List Str} {vs : List V} {i : Nat} {v : V} (h : vs[i]? = some v) : (L2.start N vs)[i]? = some (some v) := by
  unfold L2.start
  have hl := (List.getElem?_eq_some_iff.mp h).1
  rw [List.getElem?_append_left (by rw [List.length_map]; exact hl), List.getElem?_map, h]
  rfl
theorem start_len {N : List Str} {vs : List V} (h : vs.length ≤ N.length) : (L2.start N vs).length = N.length := by
  unfold L2.start
  rw [List.length_append, List.length_map, List.length_replicate]
  omega
theorem entry_get {n : Nat} {vs : List SV} {i : Nat} {sv : SV} (h : (entry n vs)[i]? = some sv) : vs[i]? = some sv ∨ sv = .no := by
  unfold entry at h
  by_cases hl : i < vs.length
  · rw [List.getElem?_append_left hl] at h
    exact .inl h
  · rw [List.getElem?_append_right (by omega)] at h
    have h2 := List.mem_of_getElem? h
    exact .inr (List.eq_of_mem_replicate h2)
theorem entry_len {n : Nat} {vs : List SV} (h : vs.length ≤ n) : (entry n vs).length = n := by
  unfold entry
  rw [List.length_append, List.length_replicate]
  omega
/-- what stands outside the values at hand -/
def rest0 (G H : Hp) : Hp := fun p => match G p with
  | none => H p
  | some _ => none
theorem rest0_some {G H : Hp} {p : Addr} {o : HO} (h : rest0 G H p = some o) : G p = none ∧ H p = some o := by
  unfold rest0 at h
  split at h
  · rename_i e
    exact ⟨e, h⟩
  · cases h
theorem rest0_of {G H : Hp} {p : Addr} (h : G p = none) : rest0 G H p = H p := by
  unfold rest0
  rw [h]
theorem start_str {N : List Str} {G H : Hp} {vs : List V} {ds : List PyData} (gh : Same G H) (x : DpAll K G vs ds) (hl : vs.length ≤ N.length) : StR K (rest0 G H) (L2.start N vs) G H (entry N.length (ds.map SV.val)) := by
  have e := dpA_len x
  have noown : ∀ (i : Nat) (sv : SV), (entry N.length (ds.map SV.val))[i]? = some sv → sv.isOwn = true → False := fun i sv h k => by
    rcases entry_get h with h | h
    · rw [List.getElem?_map] at h
      obtain ⟨d, _, e⟩ := map_some h
      subst e
      cases k
    · subst h
      cases k
  refine ⟨fun _ => [], by rw [start_len hl, entry_len (by rw [List.length_map]; omega)], gh, fun p o h => (rest0_some h).2, fun p o h => (rest0_some h).1, fun i d h => ?_, fun i v h => ?_, fun i sv h k => (noown i sv h k).elim, fun i sv h k => (noown i sv h k).elim, fun i j sv sw h k => (noown i sv h k).elim⟩
  · rcases entry_get h with h | h
    · rw [List.getElem?_map] at h
      obtain ⟨d', h1, h2⟩ := map_some h
      cases h2
      obtain ⟨v, h3, h4⟩ := dpA_get x h1
      exact ⟨v, start_get h3, h4⟩
    · cases h
  · rcases entry_get h with h | h
    · rw [List.getElem?_map] at h
      obtain ⟨d', h1, h2⟩ := map_some h
      cases h2
    · cases h
theorem grow_of {σ : L2.St} {G H G' H' : Hp} {ρ : Rho} (gh : Same G H) (g : Same G G') (s : StR K (rest0 G H) σ G' H' ρ) : Grow G H G' H' := by
  refine ⟨g, fun p o h => ?_, s.gh, fun p o h1 h2 => s.dis p o (by rw [rest0_of h2]; exact h1)⟩
  cases e : G p with
  | none => exact s.ah p o (by rw [rest0_of e]; exact h)
  | some u =>
    have := gh p u e
    rw [h] at this
    cases this
    exact s.gh p o (g p o e)
theorem runD_some {np n : Nat} {b : SemS} {ds : List PyData} {r : PyData} (h : runD np n b ds = some r) : ds.length = np ∧ ∃ o, b (entry n (ds.map SV.val)) = some o ∧ outD o = some r := by
  unfold runD at h
  split at h
  · rename_i e
    obtain ⟨o, h1, h2⟩ := bind_some h
    exact ⟨e, o, h1, h2⟩
  · cases h
theorem fn_D {x qual : Str} {st : Stmt} {f : Addr} {fd : FuncData} {N ps : List Str} {k : Nat} {b : SemS} (F : Fun K x qual st f fd) (S : FnScope N ps (defScope st)) (hN : ps.length ≤ N.length)
    (hb : ∀ (cdv : Value) (A : Around) (outer : List Env) (s : Shared) (H : Hp) (E : XK), Room k (A.deeper (envOfC qual (defScope st) s.heap.objs.size f cdv)) → PSs (cxOf CX0 P w K mg base N qual (defScope st) f cdv A outer s H E).nox (defBody st) (cS K b)) :
    FnOk P w K mg base CX0 (k + 1) f fd ps (spD K (runD ps.length N.length b)) := by
  refine F.ok S (fun vs H Q E ⟨G, ds, r, gh, x, h, q⟩ => (dpA_len x).trans (runD_some h).1) fun cdv A outer s H vs Q E hr ⟨G, ds, r, gh, x, h, q⟩ => ⟨_, hb cdv A outer s H E hr, ?_⟩
  obtain ⟨e, o, h1, h2⟩ := runD_some h
  refine ⟨rest0 G H, G, _, o, h1, start_str gh x (by rw [dpA_len x, e]; exact hN), ?_⟩
  cases o with
  | nx ρ' =>
    cases h2
    exact fun σ' G' H' _ g st => q .non G' H' (grow_of gh g st) .non
  | rt d ρ' =>
    cases h2
    exact fun v σ' G' H' _ g st x' => q v G' H' (grow_of gh g st) x'
  | rf d ρ' =>
    cases h2
    exact fun p xs σ' G' H' _ g st hp x' => q _ _ _ ((grow_of gh g st).trans (Grow.val st.gh hp)) (.lst (SqL.of upd_same) (dpA_mono (same_new (none_of_same st.gh hp)) _ _ x'))
  | bk ρ' => cases h2
  | ct ρ' => cases h2
theorem runF_some {np n : Nat} {b : SemS} {ds : List PyData} {r : List PyData} (h : runF np n b ds = some r) : ds.length = np ∧ ∃ o, b (entry n (ds.map SV.val)) = some o ∧ outF o = some r := by
  unfold runF at h
  split at h
  · rename_i e
    obtain ⟨o, h1, h2⟩ := bind_some h
    exact ⟨e, o, h1, h2⟩
  · cases h
theorem fn_F {x qual : Str} {st : Stmt} {f : Addr} {fd : FuncData} {N ps : List Str} {k : Nat} {b : SemS} (F : Fun K x qual st f fd) (S : FnScope N ps (defScope st)) (hN : ps.length ≤ N.length)
    (hb : ∀ (cdv : Value) (A : Around) (outer : List Env) (s : Shared) (H : Hp) (E : XK), Room k (A.deeper (envOfC qual (defScope st) s.heap.objs.size f cdv)) → PSs (cxOf CX0 P w K mg base N qual (defScope st) f cdv A outer s H E).nox (defBody st) (cS K b)) :
    FnOk P w K mg base CX0 (k + 1) f fd ps (spF K (runF ps.length N.length b)) := by
  refine F.ok S (fun vs H Q E ⟨G, ds, r, gh, x, h, q⟩ => (dpA_len x).trans (runF_some h).1) fun cdv A outer s H vs Q E hr ⟨G, ds, r, gh, x, h, q⟩ => ⟨_, hb cdv A outer s H E hr, ?_⟩
  obtain ⟨e, o, h1, h2⟩ := runF_some h
  refine ⟨rest0 G H, G, _, o, h1, start_str gh x (by rw [dpA_len x, e]; exact hN), ?_⟩
  cases o with
  | rf d ρ' =>
    cases h2
    exact fun p xs σ' G' H' _ g st hp x' => q p xs G' H' (grow_of gh g st) hp x'
  | nx ρ' => cases h2
  | rt d ρ' => cases h2
  | bk ρ' => cases h2
  | ct ρ' => cases h2
end
end Lay

namespace Lay
open PySem PySem.Spec PyProof.Rows L2

/-! ## set(list): the set is filled item by item; SP i says what it holds behind i items -/
section
variable {P : Program} {w : World} {A : Around} {E : Value → Shared → Prop}
/-- a set just made -/
abbrev set0 (w : World) : Obj := { cls := .type "set", dict := none, data := .set #[] 0 (.fresh 0 0 (!w.params.followText "set-order")) }
/-- how an item is added -/
def AddOk (P : Program) (w : World) (S : Addr) (g : Heap) (A : Around) (SP : Nat → Heap → Prop) (items : Array Value) : Prop :=
  ∀ (i : Nat) (v : Value) (t : Shared) (Q : Bool → Shared → Prop) (F : Value → Shared → Prop), items[i]? = some v → SP i t.heap → (∀ b o, g.get? b = some o → t.heap.get? b = some o) →
    (∀ b h tk, t.toks ≤ tk → Heap.SameBut S t.heap h → SP (i + 1) h → Q b { t with heap := h, toks := tk }) → wpAny (model P w) A (setAdd S v) Q F t
theorem fill_loop {R : Result → Shared → Prop} {I S : Addr} {fp wr : List Addr} {GG : Array GenState → Array GenState → Prop} {items : Array Value} {St : Nat → Shared → Prop} {g : Heap} {SP : Nat → Heap → Prop}
    (W : WalksS P w A.in1 I fp wr GG items.size (fun i v => items[i]? = some v) St) (nS : S ∉ fp) (gS : g.get? S = none) (gw : ∀ b ∈ wr, g.get? b = none)
    (keep : ∀ i h h', SP i h → (∀ o, h.get? S = some o → h'.get? S = some o) → (∀ b o, g.get? b = some o → h'.get? b = some o) → SP i h') (add : AddOk P w S g A.in1 SP items) :
    ∀ (d i : Nat) (t : Shared), items.size - i = d → i ≤ items.size → St i t → (∀ b o, g.get? b = some o → t.heap.get? b = some o) → SP i t.heap →
      (∀ u : Shared, Moved (S :: wr) GG t u → SP items.size u.heap → (∀ b o, g.get? b = some o → u.heap.get? b = some o) → R (.ok (.ret .none)) u) →
      codeAny (model P w) A (.builtin "set.update.loop" ⟨[.ref S, .ref I], []⟩) R t := by
  have nSw : S ∉ wr := fun z => nS (W.sub _ z)
  have up : ∀ b ∈ wr, b ∈ S :: wr := fun b hb => List.mem_cons_of_mem _ hb
  have carry : ∀ {t u : Shared}, Moved wr GG t u → (∀ b o, g.get? b = some o → t.heap.get? b = some o) → ∀ b o, g.get? b = some o → u.heap.get? b = some o := fun mv kp b o e =>
    mv.heap b o (fun hb => by
      rw [gw b hb] at e
      cases e) (kp b o e)
  intro d
  induction d with
  | zero =>
    intro i t hd hi hst kp sp fin
    have e : i = items.size := by omega
    subst e
    refine codeAny_builtin F.entry_set_update_loop ?_
    rw [Around.under_plainId F.plain_set_update_loop _]
    show wpAny _ A.in1 (pyNext (.ref I) >>= _) _ _ t
    refine wpAny_bind (W.done t _ _ hst fun u mv => ?_)
    have kp2 := carry mv kp
    exact wpAny_pure (fin u (mv.mono up) (keep _ _ _ sp (fun o e => mv.heap S o nSw e) kp2) kp2)
  | succ d ih =>
    intro i t hd hi hst kp sp fin
    have hlt : i < items.size := by omega
    refine codeAny_builtin F.entry_set_update_loop ?_
    rw [Around.under_plainId F.plain_set_update_loop _]
    show wpAny _ A.in1 (pyNext (.ref I) >>= _) _ _ t
    refine wpAny_bind (W.item i t _ _ hlt hst fun v u hv hst2 mv => ?_)
    have kp2 := carry mv kp
    have sp2 := keep _ _ u.heap sp (fun o e => mv.heap S o nSw e) kp2
    show wpAny _ A.in1 (holding [v] (setAdd S v) >>= _) _ _ u
    refine wpAny_bind (wpAny_holding (add i v u _ _ hv sp2 kp2 fun b h tk htk sb sp3 => ?_))
    have kp3 : ∀ b o, g.get? b = some o → h.get? b = some o := fun b o e => (sb.2 b (fun z => by
      rw [z, gS] at e
      cases e)).trans (kp2 b o e)
    refine wpAny_pure ⟨plainId_quiet F.plain_set_update_loop _, ih (i + 1) _ (by omega) hlt (W.frame _ u _ _ hst2 htk fun b hb o e => ?_) kp3 sp3 fun x mv2 sp4 kp4 => ?_⟩
    · rw [sb.2 b (fun z : b = S => nS (by rw [← z]; exact hb))]
      exact e
    · refine fin x (Moved.trans W.gtrans ((mv.mono up).then_heap htk fun b o hb e => ?_) mv2) sp4 kp4
      rw [sb.2 b (fun z : b = S => hb (by rw [z]; exact List.mem_cons_self))]
      exact e
variable {s : Shared}
set_option maxHeartbeats 3200000 in
theorem call_set_fill {l : Addr} {items : Array Value} {Q : Value → Shared → Prop} {SP : Nat → Heap → Prop} (hh : A.handled = none) (hl : s.heap.IsList l items)
    (start : ∀ h : Heap, h.get? s.heap.objs.size = some (set0 w) → (∀ b o, s.heap.get? b = some o → h.get? b = some o) → SP 0 h)
    (keep : ∀ i h h', SP i h → (∀ o, h.get? s.heap.objs.size = some o → h'.get? s.heap.objs.size = some o) → (∀ b o, s.heap.get? b = some o → h'.get? b = some o) → SP i h')
    (add : AddOk P w s.heap.objs.size s.heap A.in1.in1.in1 SP items)
    (fin : ∀ (h : Heap) (tk : Nat), SP items.size h → (∀ b o, s.heap.get? b = some o → h.get? b = some o) → Q (.ref s.heap.objs.size) { s with heap := h, toks := tk }) :
    wpAny (model P w) A (call (.type "set") [.ref l]) Q E s := by
  obtain ⟨c, tl, hmro⟩ := F.called_set.mro
  have hmade := F.called_set.made
  have hsub := F.called_set.sub
  refine wpAny_call (codeAny_of_tree ?_)
  show wpAny _ _ (callAny (.type "set") _) _ _ _
  refine wpAny_pure ⟨Code.quiet_builtin _ (by decide +kernel), codeAny_builtin F.entry_type_call ?_⟩
  rw [Around.under_plain (weight_type_call_type "set" [.ref l] []) rfl]
  have h1 := F.called_set.notType
  have h2 := F.called_set.canCreate
  have hct := F.typeCall_set_1 (.ref l)
  repeat (any_goals (first | assumption | wp_step))
  have nS : (s.heap.push (set0 w)).objs.size = s.heap.objs.size + 1 := Heap.size_push ..
  refine codeAny_mono (code_set_led1 (.ref l) (E := E) (Q₁ := fun obj u => obj = .ref s.heap.objs.size ∧ u = { s with heap := s.heap.push (set0 w) }) ⟨rfl, rfl⟩) fun r u hr => ?_
  cases r with
  | error e => exact hr
  | ok fl =>
    cases fl with
    | ret obj =>
      obtain ⟨e1, e2⟩ := hr
      subst e1 e2
      have hS : (s.heap.push (set0 w)).get? s.heap.objs.size = some (set0 w) := Heap.get?_push_size _ rfl
      have hT : Shared.TypeIs { s with heap := s.heap.push (set0 w) } (.ref s.heap.objs.size) "set" := ⟨_, hS, rfl⟩
      have hli := F.called_set.init.lookup
      have hbi := F.called_set.init.bind (.ref s.heap.objs.size)
      repeat (any_goals (first | assumption | wp_step))
      refine codeAny_mono (codeAny_call_builtin (R := wants (fun r u => r = .none ∧ ∃ h tk, u = { s with heap := h, toks := tk } ∧ SP items.size h ∧ ∀ b o, s.heap.get? b = some o → h.get? b = some o) E)
        F.called_set.init.plain F.entry_set_init (check_set_init_1 hT ?_)) fun r₂ u₂ hr₂ => ?_
      · obtain ⟨⟨c1, d1, k1, s1⟩, hol, hcl, nl, hdl⟩ := hl
        simp only at hcl hdl
        subst hcl hdl
        have hol2 : (s.heap.push (set0 w)).get? l = some { cls := .type "list", dict := d1, data := .seq items nl, slots := s1 } := Heap.get?_push_of_some _ hol
        have hsls := F.sub_list_set
        have hslf := F.sub_list_frozenset
        have hne : (Value.type "list" == Value.type "dict") = false := by decide
        have hl1 : (s.heap.push (set0 w)).IsList l items := ⟨_, hol2, rfl, nl, rfl⟩
        unfold Builtin.«set.__init__» noKeywords Builtin.Frozenset.updateFrom
        generalize hPI : pyIter = PI
        wp_walk
        subst hPI
        refine wpAny_pyIter_list hl1 ?_
        refine wpAny_bind (wpAny_runValue ?_)
        have hlS : l < s.heap.objs.size := Heap.lt_size hol
        have hh3 : A.in1.in1.in1.handled = none := by simp [hh]
        have nI : l ≠ (s.heap.push (set0 w)).objs.size := by
          rw [nS]
          exact Nat.ne_of_lt (Nat.lt_succ_of_lt hlS)
        have nF : s.heap.objs.size ∉ [(s.heap.push (set0 w)).objs.size, l] := fun z => by
          rcases List.mem_cons.mp z with z | z
          · rw [Heap.size_push] at z
            exact absurd z (Nat.ne_of_lt (Nat.lt_succ_self _))
          · exact absurd (List.mem_singleton.mp z) (Nat.ne_of_gt hlS)
        have none_of : ∀ b, s.heap.objs.size ≤ b → s.heap.get? b = none := fun b hb => by
          cases q : s.heap.get? b with
          | none => rfl
          | some o => exact absurd (Nat.lt_of_lt_of_le (Heap.lt_size q) hb) (Nat.lt_irrefl _)
        refine fill_loop (g := s.heap) (SP := SP) ((Walks.list hh3 _ l nI items).toS) nF (none_of _ (Nat.le_refl _)) (fun b hb => none_of b (by
          rw [List.mem_singleton.mp hb, Heap.size_push]
          exact Nat.le_succ _)) keep add (items.size - 0) 0 _ (by omega) (Nat.zero_le _) ⟨⟨_, Heap.get?_push_size _ rfl, rfl, rfl⟩, hl1.push _⟩ (fun b o e => Heap.get?_push_of_some _ (Heap.get?_push_of_some _ e)) ?st ?fin
        case st => exact start _ (Heap.get?_push_of_some _ hS) fun b o e => Heap.get?_push_of_some _ (Heap.get?_push_of_some _ e)
        case fin =>
          intro u mv sp kp
          obtain ⟨h', g2, d', tk', os'⟩ := u
          have eg : g2 = s.gens := mv.gens
          have ed : d' = s.drawn := mv.drawn
          have eo : os' = s.os := mv.os
          subst eg ed eo
          show wpAny _ _ _ _ _ _
          refine wpAny_pure ?_
          show wpAny _ _ (ret Value.none) _ _ _
          exact wpAny_pure ⟨rfl, h', tk', rfl, sp, kp⟩
      · cases r₂ with
        | error e => exact hr₂
        | ok fl₂ =>
          cases fl₂ with
          | ret r =>
            obtain ⟨rfl, h', tk, e2, sp, kp⟩ := hr₂
            subst e2
            repeat (any_goals (first | assumption | wp_step))
            exact fin _ _ sp kp
          | _ => exact hr₂.elim
    | _ => exact hr.elim
end

end Lay

namespace Lay
open PySem PySem.Spec PyProof.Rows L2

/-! ## ints: sorted(set(..)) -/
/-- k put into a rising list -/
def insD (k : Int) : List Int → List Int
  | [] => [k]
  | x :: xs => if k < x then k :: x :: xs else if k = x then x :: xs else x :: insD k xs
def sdd (ns : List Int) : List Int := ns.foldr insD []
theorem mem_insD {k j : Int} : ∀ {xs : List Int}, j ∈ insD k xs ↔ j = k ∨ j ∈ xs
  | [] => by simp [insD]
  | x :: xs => by
    unfold insD
    split
    · simp
    · split
      · rename_i _ e
        subst e
        simp
      · rw [List.mem_cons, mem_insD, List.mem_cons]
        constructor
        · rintro (h | h | h)
          · exact .inr (.inl h)
          · exact .inl h
          · exact .inr (.inr h)
        · rintro (h | h | h)
          · exact .inr (.inl h)
          · exact .inl h
          · exact .inr (.inr h)
theorem rise_insD {k : Int} : ∀ {xs : List Int}, xs.Pairwise (· < ·) → (insD k xs).Pairwise (· < ·)
  | [], _ => by simp [insD]
  | x :: xs, h => by
    obtain ⟨h1, h2⟩ := List.pairwise_cons.mp h
    unfold insD
    split
    · rename_i c
      exact List.pairwise_cons.mpr ⟨fun y hy => by
        rcases List.mem_cons.mp hy with e | e
        · omega
        · have := h1 y e
          omega, h⟩
    · split
      · exact h
      · rename_i c d
        refine List.pairwise_cons.mpr ⟨fun y hy => ?_, rise_insD h2⟩
        rcases mem_insD.mp hy with e | e
        · omega
        · exact h1 y e
theorem mem_sdd {j : Int} : ∀ {ns : List Int}, j ∈ sdd ns ↔ j ∈ ns
  | [] => Iff.rfl
  | n :: ns => by
    show j ∈ insD n (sdd ns) ↔ _
    rw [mem_insD, mem_sdd, List.mem_cons]
theorem rise_sdd : ∀ (ns : List Int), (sdd ns).Pairwise (· < ·)
  | [] => List.Pairwise.nil
  | n :: ns => rise_insD (rise_sdd ns)
theorem rise_unique : ∀ {xs ys : List Int}, xs.Pairwise (· < ·) → ys.Pairwise (· < ·) → (∀ k, k ∈ xs ↔ k ∈ ys) → xs = ys
  | [], [], _, _, _ => rfl
  | [], y :: ys, _, _, h => absurd ((h y).mpr List.mem_cons_self) (by simp)
  | x :: xs, [], _, _, h => absurd ((h x).mp List.mem_cons_self) (by simp)
  | x :: xs, y :: ys, h1, h2, h => by
    obtain ⟨a1, b1⟩ := List.pairwise_cons.mp h1
    obtain ⟨a2, b2⟩ := List.pairwise_cons.mp h2
    have e : x = y := by
      rcases List.mem_cons.mp ((h x).mp List.mem_cons_self) with e | e
      · exact e
      · rcases List.mem_cons.mp ((h y).mpr List.mem_cons_self) with e2 | e2
        · exact e2.symm
        · have := a1 y e2
          have := a2 x e
          omega
    subst e
    rw [rise_unique b1 b2 fun k => ?_]
    constructor
    · intro hk
      rcases List.mem_cons.mp ((h k).mp (List.mem_cons_of_mem _ hk)) with e | e
      · have := a1 k hk
        omega
      · exact e
    · intro hk
      rcases List.mem_cons.mp ((h k).mpr (List.mem_cons_of_mem _ hk)) with e | e
      · have := a2 k hk
        omega
      · exact e
section
variable {P : Program} {w : World}
theorem setR_len {h : Heap} {a : Addr} {S : Int → Bool} {n : Nat} {ns : List Int} (R : SetR w h a S n) (hS : ∀ k, S k = true ↔ k ∈ ns) : n = (sdd ns).length := by
  obtain ⟨o, es, ep, t, _, _, _, _, nd, mem, _, _, hn, _, _⟩ := R
  have e : (sdd (es.toList.map keyOf)).length = (es.toList.map keyOf).length := by
    have l : ∀ xs : List Int, xs.Nodup → (sdd xs).length = xs.length := by
      intro xs
      induction xs with
      | nil => intro _; rfl
      | cons x xs ih =>
        intro hd
        obtain ⟨h1, h2⟩ := List.nodup_cons.mp hd
        have hx : x ∉ sdd xs := fun z => h1 (mem_sdd.mp z)
        have q : ∀ ys : List Int, x ∉ ys → (insD x ys).length = ys.length + 1 := by
          intro ys
          induction ys with
          | nil => intro _; rfl
          | cons y ys ih =>
            intro hy
            unfold insD
            split
            · rfl
            · split
              · rename_i _ e
                exact absurd (by rw [e]; exact List.mem_cons_self) hy
              · rw [List.length_cons, ih fun z => hy (List.mem_cons_of_mem _ z), List.length_cons]
        show (insD x (sdd xs)).length = xs.length + 1
        rw [q _ hx, ih h2]
    exact l _ nd
  have e2 : sdd ns = sdd (es.toList.map keyOf) := rise_unique (rise_sdd _) (rise_sdd _) fun k => by
    rw [mem_sdd, mem_sdd, ← hS k, mem k]
  rw [e2, e, List.length_map, Array.length_toList]
  exact hn.symm
theorem ints_add {S : Addr} {g : Heap} {A : Around} {items : Array Value} {ns : List Int} (hi : IntsAre items.toList ns) (hb : ns.length ≤ 4000) :
    AddOk P w S g A (fun i h => ∃ n, n ≤ i ∧ SetR w h S (fun k => decide (k ∈ ns.take i)) n) items := fun i v t Q F hv ⟨n, hn, R⟩ _ q => by
  obtain ⟨tk, e⟩ := IntsAre.int_at hi i v (by rw [Array.getElem?_toList]; exact hv)
  subst e
  have hl : i < ns.length := by
    have e := hi.length
    have e2 := (Array.getElem?_eq_some_iff.mp hv).1
    have e3 : items.toList.length = items.size := Array.length_toList
    omega
  have ek : ns.getD i 0 = ns[i] := by
    rw [List.getD_eq_getElem?_getD, List.getElem?_eq_getElem hl]
    rfl
  unfold setAdd
  refine wpAny_holding ?_
  refine wpAny_bind ((intKind P w).pyHash (k := ns.getD i 0) (intKind_is _ _ _ _) ?_)
  refine setR_add_hashed (s := { t with toks := t.toks + 1 }) R (by unfold scanBound; omega) fun h' sb R2 => ?_
  refine q _ h' (t.toks + 1) (Nat.le_succ _) sb ⟨_, ?_, R2.congr fun k => ?_⟩
  · split <;> omega
  · have e : (k ∈ ns.take (i + 1)) ↔ (k ∈ ns.take i ∨ k = ns[i]) := by
      rw [List.take_succ, List.getElem?_eq_getElem hl, List.mem_append]
      show _ ∨ k ∈ [ns[i]] ↔ _
      rw [List.mem_singleton]
    show decide (k ∈ ns.take (i + 1)) = (decide (k ∈ ns.take i) || decide (k = ns.getD i 0))
    rw [ek, Bool.eq_iff_iff, Bool.or_eq_true, decide_eq_true_eq, decide_eq_true_eq, decide_eq_true_eq]
    exact e
end
section
variable {X : Cx}
def rSetI (K : PySem.W.Frag) (w : World) : List V → Hp → VK → Prop := fun vs H Q => ∃ (l : Addr) (ns : List Int), vs = [.ref l] ∧ SqL K H l (ns.map V.int) ∧ ns.length ≤ 4000 ∧
  ∀ a S n, H a = none → (∀ k, S k = true ↔ k ∈ ns) → n = (sdd ns).length → Q (.ref a) (upd H a (SetO w a S n))
theorem cr_setI (hc : X.calm = true) : CallR X (.type "set") (rSetI X.K X.w) := by
  intro pins s σ H vs us Q I r h
  obtain ⟨l, ns, rfl, hq, hl, q⟩ := h
  obtain ⟨u, rfl, rx⟩ := vals1 r
  cases rx
  obtain ⟨its, rv, pl, _⟩ := I.list hq
  have hi : IntsAre its ns := rv.ints
  refine call_set_fill (SP := fun i h => ∃ n, n ≤ i ∧ SetR X.w h s.heap.objs.size (fun k => decide (k ∈ ns.take i)) n) (I.ok.hd hc) pl.isList (fun h e kp => ?_) (fun i h h' ⟨n, hn, R⟩ k1 k2 => ⟨n, hn, R.at k1⟩) (ints_add (items := its.toArray) hi hl) fun h tk ⟨n, hn, R⟩ kp => ?_
  · exact ⟨0, Nat.le_refl _, setR_new_at e⟩
  · have hsz : its.toArray.size = ns.length := by
      have := hi.length
      simp only [List.size_toArray]
      exact this
    rw [hsz, List.take_length] at R
    have hn : H s.heap.objs.size = none := I.hok.fresh (Nat.le_refl _)
    refine ⟨.ref s.heap.objs.size, _, I.laid (t' := tk) kp (Nat.le_refl _) (setO_new R), rfl, q _ _ n hn (fun k => ?_) (setR_len R fun k => ?_)⟩ <;> exact decide_eq_true_iff
/-- the ints of a list -/
def intsOf : List PyData → Option (List Int)
  | [] => some []
  | .int i :: r => (intsOf r).map fun is => i :: is
  | _ :: _ => none
theorem intsOf_some : ∀ {ds : List PyData} {ns : List Int}, intsOf ds = some ns → ds = ns.map PyData.int
  | [], _, h => by cases h; rfl
  | .int i :: r, ns, h => by
    obtain ⟨is, h1, h2⟩ := map_some h
    subst h2
    rw [intsOf_some h1]
    rfl
  | .none :: _, _, h => by cases h
  | .bool _ :: _, _, h => by cases h
  | .str _ :: _, _, h => by cases h
  | .list _ :: _, _, h => by cases h
  | .tuple _ :: _, _, h => by cases h
  | .dict _ :: _, _, h => by cases h
theorem intsOf_map : ∀ (ns : List Int), intsOf (ns.map PyData.int) = some ns
  | [] => rfl
  | n :: ns => by
    show (intsOf (ns.map PyData.int)).map _ = _
    rw [intsOf_map ns]
    rfl
/-- sorted(set(..)) of ints -/
def sSortSet (s : Sem1) : SemL := fun ρ => (s ρ).bind fun x => match x.1 with
  | .list ds => (intsOf ds).bind fun ns => if ns.length ≤ 4000 ∧ (sdd ns).length < 64 then some ((sdd ns).map .int, x.2) else none
  | _ => none
theorem jf_sortSet {a : Expr} {sa : Sem1} {p p2 q pos : Pos} (hc : X.calm = true) (ha : PE X a (cE X.K sa)) (hg : Gl X "sorted") (hm : X.mg "sorted" = none) (hg2 : Gl X "set") (hm2 : X.mg "set" = none)
    (n1 : starEach [a] X.env = (false, eval a X.env) :: starEach [] X.env := by rfl) (n2 : starEach [Expr.Call (.Name "set" p2) [a] [] q] X.env = (false, eval (Expr.Call (.Name "set" p2) [a] [] q) X.env) :: starEach [] X.env := by rfl) :
    PE X (.Call (.Name "sorted" p) [.Call (.Name "set" p2) [a] [] q] [] pos) (cF X.K (sSortSet sa)) := by
  have h1 : PE X (.Call (.Name "set" p2) [a] [] q) _ := pe_callTy (cr_setI hc) hg2 hm2 (by decide +kernel) (pa_cons ha pa_nil n1) (by decide) (by decide) n1 (by rfl)
  have h2 : PE X (.Call (.Name "sorted" p) [.Call (.Name "set" p2) [a] [] q] [] pos) _ := pe_callB (cr_sortedSet hc) hg hm (by decide +kernel) (pa_cons h1 pa_nil n2) (by decide) (by decide) n2 (by rfl)
  refine pe_of h2 fun σ H Q ⟨A, G, ρ, r, ρ', h, st, q⟩ => ?_
  obtain ⟨⟨x, ρ1⟩, h3, h⟩ := bind_some h
  simp only at h
  split at h
  · rename_i ds
    obtain ⟨ns, h4, h⟩ := bind_some h
    split at h
    · rename_i c
      cases h
      have e4 := intsOf_some h4
      subst e4
      refine ⟨A, G, ρ, _, _, h3, st, fun v G1 H1 g1 st1 d1 => ?_⟩
      cases d1 with
      | lst a1 b1 =>
        have eb := dpA_ints b1
        subst eb
        refine ⟨_, ns, rfl, st1.gh.seq a1, c.1, fun a S n hn hS en => ?_⟩
        have gr : Grow G1 H1 G1 (upd H1 a (SetO X.w a S n)) := ⟨Same.refl _, same_new hn, st1.gh.trans (same_new hn), fun _ _ _ z => z⟩
        refine ⟨a, S, n, rfl, upd_same, by rw [en]; exact c.2, fun ms p hr hm hl hp => ?_⟩
        have em : ms = sdd ns := rise_unique hr (rise_sdd ns) fun k => by rw [hm k, hS k, mem_sdd]
        subst em
        exact q p _ G1 _ g1 (st1.grow gr) hp (dpA_ofInts _)
    · cases h
  · cases h
end
end Lay

namespace Lay
open PySem PySem.Spec PyProof.Rows L2

section
variable {X : Cx} {K : PySem.W.Frag} {e a b : Expr} {es : List Expr} {pos p q : Pos} {sa sb : Sem1} {s : SemL}
/-! ## isinstance -/
def tyName : PyData → String
  | .none => "NoneType"
  | .bool _ => "bool"
  | .int _ => "int"
  | .str _ => "str"
  | .list _ => "list"
  | .tuple _ => "tuple"
  | .dict _ => "dict"
theorem dp_ty {G H : Hp} {v : V} {d : PyData} (s : Same G H) (h : Dp K G v d) : TyX K H v (.type (tyName d)) := by
  cases h with
  | non => exact .base .non
  | bl b => exact .base (.bl b)
  | int i => exact .base (.int i)
  | str x => exact .base (.str x)
  | lst a1 b1 =>
    rcases a1 with (h | ⟨o, h⟩) | ⟨o, _, _, h, c, _⟩
    · exact .base (.lst (s _ _ h))
    · exact .base (.frz (s _ _ h))
    · exact .kList h c
  | tup a1 b1 =>
    rcases a1 with (h | ⟨o, h⟩) | ⟨o, _, _, h, c, _⟩
    · exact .base (.tup (s _ _ h))
    · exact .fTuple (s _ _ h)
    · exact .kTuple h c
def dTup : PyData → Bool
  | .tuple _ => true
  | _ => false
def dLst : PyData → Bool
  | .list _ => true
  | _ => false
def dStr : PyData → Bool
  | .str _ => true
  | _ => false
def dInt : PyData → Bool
  | .int _ => true
  | .bool _ => true
  | _ => false
def dBool : PyData → Bool
  | .bool _ => true
  | _ => false
/-- the data that an isinstance is asked of -/
def noDict : PyData → Bool
  | .dict _ => false
  | _ => true
structure IsiOk (T : String) (f : PyData → Bool) : Prop where
  ok : ∀ d, noDict d = true → kitB (tyName d) T = some (f d)
theorem isi_tup : IsiOk "tuple" dTup := ⟨fun d h => match d, h with
  | .none, _ => (by decide +kernel : kitB "NoneType" "tuple" = some false)
  | .bool _, _ => (by decide +kernel : kitB "bool" "tuple" = some false)
  | .int _, _ => (by decide +kernel : kitB "int" "tuple" = some false)
  | .str _, _ => (by decide +kernel : kitB "str" "tuple" = some false)
  | .list _, _ => (by decide +kernel : kitB "list" "tuple" = some false)
  | .tuple _, _ => (by decide +kernel : kitB "tuple" "tuple" = some true)
  | .dict _, h => by cases h⟩
theorem isi_lst : IsiOk "list" dLst := ⟨fun d h => match d, h with
  | .none, _ => (by decide +kernel : kitB "NoneType" "list" = some false)
  | .bool _, _ => (by decide +kernel : kitB "bool" "list" = some false)
  | .int _, _ => (by decide +kernel : kitB "int" "list" = some false)
  | .str _, _ => (by decide +kernel : kitB "str" "list" = some false)
  | .list _, _ => (by decide +kernel : kitB "list" "list" = some true)
  | .tuple _, _ => (by decide +kernel : kitB "tuple" "list" = some false)
  | .dict _, h => by cases h⟩
theorem isi_str : IsiOk "str" dStr := ⟨fun d h => match d, h with
  | .none, _ => (by decide +kernel : kitB "NoneType" "str" = some false)
  | .bool _, _ => (by decide +kernel : kitB "bool" "str" = some false)
  | .int _, _ => (by decide +kernel : kitB "int" "str" = some false)
  | .str _, _ => (by decide +kernel : kitB "str" "str" = some true)
  | .list _, _ => (by decide +kernel : kitB "list" "str" = some false)
  | .tuple _, _ => (by decide +kernel : kitB "tuple" "str" = some false)
  | .dict _, h => by cases h⟩
theorem isi_int : IsiOk "int" dInt := ⟨fun d h => match d, h with
  | .none, _ => (by decide +kernel : kitB "NoneType" "int" = some false)
  | .bool _, _ => (by decide +kernel : kitB "bool" "int" = some true)
  | .int _, _ => (by decide +kernel : kitB "int" "int" = some true)
  | .str _, _ => (by decide +kernel : kitB "str" "int" = some false)
  | .list _, _ => (by decide +kernel : kitB "list" "int" = some false)
  | .tuple _, _ => (by decide +kernel : kitB "tuple" "int" = some false)
  | .dict _, h => by cases h⟩
theorem isi_bool : IsiOk "bool" dBool := ⟨fun d h => match d, h with
  | .none, _ => (by decide +kernel : kitB "NoneType" "bool" = some false)
  | .bool _, _ => (by decide +kernel : kitB "bool" "bool" = some true)
  | .int _, _ => (by decide +kernel : kitB "int" "bool" = some false)
  | .str _, _ => (by decide +kernel : kitB "str" "bool" = some false)
  | .list _, _ => (by decide +kernel : kitB "list" "bool" = some false)
  | .tuple _, _ => (by decide +kernel : kitB "tuple" "bool" = some false)
  | .dict _, h => by cases h⟩
def sIsi (f : PyData → Bool) (s : Sem1) : Sem1 := fun ρ => (s ρ).map fun x => (.bool (f x.1), x.2)
theorem je_isi {T : Str} {T' : String} {f : PyData → Bool} (hf : IsiOk T' f) (ha : PE X a (cE X.K sa)) (hg : Gl X "isinstance") (hm : X.mg "isinstance" = none) (hg2 : Gl X T) (hm2 : X.mg T = none) (hT : bootBuiltins T = some (.type T')) (hnT : T ≠ "__name__" := by decide) (hdT : (T == ("__debug__" : Str)) = false := by decide)
    (n1 : starEach [a, Expr.Name T q] X.env = (false, eval a X.env) :: starEach [Expr.Name T q] X.env := by rfl) (n2 : starEach [Expr.Name T q] X.env = (false, eval (Expr.Name T q) X.env) :: starEach [] X.env := by rfl) (hpl : (backTo pos (starEach [Expr.Name T q] X.env)).any (·.1) = false := by rfl) :
    PE X (.Call (.Name "isinstance" p) [a, .Name T q] [] pos) (cE X.K (sIsi f sa)) := by
  have h2 : PE X (.Name T q) (tC (.ty T')) := pe_bltn hg2 hm2 hT rfl hnT hdT
  refine pe_of (pe_callB call_isi hg hm (by decide +kernel) (pa_cons ha (pa_cons h2 pa_nil n2) n1) (by decide) (by decide) n1 hpl) fun σ H Q ⟨A, G, ρ, r, ρ', h, st, qq⟩ => ?_
  obtain ⟨x, h1, e1⟩ := map_some h
  cases e1
  refine ⟨A, G, ρ, x.1, x.2, h1, st, fun v G1 H1 g1 st1 d1 => ⟨v, .ty T', _, _, f x.1, rfl, .ty T', dp_ty st1.gh d1, kit_ty (hf.ok x.1 ?_), qq _ G1 H1 g1 st1 (.bl _)⟩⟩
  cases hx : x.1 <;> first | rfl | (rw [hx] at d1; cases d1)

/-! ## built-ins -/
def pLen : List PyData → Option PyData
  | [.list ds] => some (.int (ds.length : Nat))
  | [.tuple ds] => some (.int (ds.length : Nat))
  | _ => none
theorem rc_len : RCall K (fun xs H Q => ∃ p ys, xs = [.ref p] ∧ (SqL K H p ys ∨ SqT K H p ys) ∧ Q (.int ys.length) H) pLen := fun G H vs ds z Q s d h q => by
  unfold pLen at h
  split at h
  · cases h
    cases d with
    | cons d1 d2 =>
      cases d2
      cases d1 with
      | lst a1 b1 => exact ⟨_, _, rfl, .inl (s.seq a1), by rw [dpA_len b1]; exact q _ G H (Grow.refl s) (.int _)⟩
  · cases h
    cases d with
    | cons d1 d2 =>
      cases d2
      cases d1 with
      | tup a1 b1 => exact ⟨_, _, rfl, .inr (sqT_mono s a1), by rw [dpA_len b1]; exact q _ G H (Grow.refl s) (.int _)⟩
  · cases h
/-- the greatest, the least of a list -/
def lMax (x : Int) (xs : List Int) : Int := xs.foldl max x
def lMin (x : Int) (xs : List Int) : Int := xs.foldl min x
theorem lMax_spec : ∀ (xs : List Int) (x : Int), (lMax x xs = x ∨ lMax x xs ∈ xs) ∧ x ≤ lMax x xs ∧ ∀ y ∈ xs, y ≤ lMax x xs
  | [], x => ⟨.inl rfl, Int.le_refl _, fun y hy => by cases hy⟩
  | z :: zs, x => by
    obtain ⟨h1, h2, h3⟩ := lMax_spec zs (max x z)
    have e : lMax x (z :: zs) = lMax (max x z) zs := rfl
    rw [e]
    refine ⟨?_, by omega, fun y hy => ?_⟩
    · rcases h1 with h1 | h1
      · rw [h1]
        by_cases c : x ≤ z
        · right
          rw [show max x z = z by omega]
          exact List.mem_cons_self
        · left
          omega
      · exact .inr (List.mem_cons_of_mem _ h1)
    · rcases List.mem_cons.mp hy with e | e
      · subst e
        omega
      · exact h3 y e
theorem lMin_spec : ∀ (xs : List Int) (x : Int), (lMin x xs = x ∨ lMin x xs ∈ xs) ∧ lMin x xs ≤ x ∧ ∀ y ∈ xs, lMin x xs ≤ y
  | [], x => ⟨.inl rfl, Int.le_refl _, fun y hy => by cases hy⟩
  | z :: zs, x => by
    obtain ⟨h1, h2, h3⟩ := lMin_spec zs (min x z)
    have e : lMin x (z :: zs) = lMin (min x z) zs := rfl
    rw [e]
    refine ⟨?_, by omega, fun y hy => ?_⟩
    · rcases h1 with h1 | h1
      · rw [h1]
        by_cases c : z ≤ x
        · right
          rw [show min x z = z by omega]
          exact List.mem_cons_self
        · left
          omega
      · exact .inr (List.mem_cons_of_mem _ h1)
    · rcases List.mem_cons.mp hy with e | e
      · subst e
        omega
      · exact h3 y e
def pMax : List PyData → Option PyData
  | [.list ds] => (intsOf ds).bind fun ns => match ns with
    | [] => none
    | n :: ns => some (.int (lMax n ns))
  | _ => none
def pMin : List PyData → Option PyData
  | [.list ds] => (intsOf ds).bind fun ns => match ns with
    | [] => none
    | n :: ns => some (.int (lMin n ns))
  | _ => none
theorem rc_max : RCall K (rMax K) pMax := fun G H vs ds z Q s d h q => by
  unfold pMax at h
  split at h
  · obtain ⟨ns, h1, h5⟩ := bind_some h
    clear h
    have e1 := intsOf_some h1
    subst e1
    cases d with
    | cons d1 d2 =>
      cases d2
      cases d1 with
      | lst a1 b1 =>
        have e2 := dpA_ints b1
        subst e2
        split at h5
        · cases h5
        · rename_i n ms
          cases h5
          refine ⟨_, _, rfl, s.seq a1, by rw [List.length_cons]; omega, fun m hm hle => ?_⟩
          obtain ⟨c1, c2, c3⟩ := lMax_spec ms n
          have e3 : m = lMax n ms := by
            apply Int.le_antisymm
            · rcases List.mem_cons.mp hm with e | e
              · rw [e]; exact c2
              · exact c3 m e
            · rcases c1 with c | c
              · rw [c]; exact hle n List.mem_cons_self
              · exact hle _ (List.mem_cons_of_mem _ c)
          rw [e3]
          exact q _ G H (Grow.refl s) (.int _)
  · cases h
theorem rc_min : RCall K (rMin K) pMin := fun G H vs ds z Q s d h q => by
  unfold pMin at h
  split at h
  · obtain ⟨ns, h1, h5⟩ := bind_some h
    clear h
    have e1 := intsOf_some h1
    subst e1
    cases d with
    | cons d1 d2 =>
      cases d2
      cases d1 with
      | lst a1 b1 =>
        have e2 := dpA_ints b1
        subst e2
        split at h5
        · cases h5
        · rename_i n ms
          cases h5
          refine ⟨_, _, rfl, s.seq a1, by rw [List.length_cons]; omega, fun m hm hle => ?_⟩
          obtain ⟨c1, c2, c3⟩ := lMin_spec ms n
          have e3 : m = lMin n ms := by
            apply Int.le_antisymm
            · rcases c1 with c | c
              · rw [c]; exact hle n List.mem_cons_self
              · exact hle _ (List.mem_cons_of_mem _ c)
            · rcases List.mem_cons.mp hm with e | e
              · rw [e]; exact c2
              · exact c3 m e
          rw [e3]
          exact q _ G H (Grow.refl s) (.int _)
  · cases h
def pMax2 : List PyData → Option PyData
  | [.int i, .int j] => some (.int (max i j))
  | _ => none
def pMin2 : List PyData → Option PyData
  | [.int i, .int j] => some (.int (min i j))
  | _ => none
theorem rc_max2 : RCall K (fun xs H Q => ∃ i j, xs = [.int i, .int j] ∧ Q (.int (if j > i then j else i)) H) pMax2 := fun G H vs ds z Q s d h q => by
  unfold pMax2 at h
  split at h
  · rename_i i j
    cases h
    cases d with
    | cons d1 d2 =>
      cases d2 with
      | cons d2 d3 =>
        cases d3
        cases d1
        cases d2
        refine ⟨i, j, rfl, ?_⟩
        have e : (if j > i then j else i) = max i j := by split <;> omega
        rw [e]
        exact q _ G H (Grow.refl s) (.int _)
  · cases h
theorem rc_min2 : RCall K (fun xs H Q => ∃ i j, xs = [.int i, .int j] ∧ Q (.int (if j < i then j else i)) H) pMin2 := fun G H vs ds z Q s d h q => by
  unfold pMin2 at h
  split at h
  · rename_i i j
    cases h
    cases d with
    | cons d1 d2 =>
      cases d2 with
      | cons d2 d3 =>
        cases d3
        cases d1
        cases d2
        refine ⟨i, j, rfl, ?_⟩
        have e : (if j < i then j else i) = min i j := by split <;> omega
        rw [e]
        exact q _ G H (Grow.refl s) (.int _)
  · cases h
def pSum : List PyData → Option PyData
  | [.list ds] => (intsOf ds).map fun ns => .int ns.sum
  | _ => none
theorem rc_sum : RCall K (rSum K) pSum := fun G H vs ds z Q s d h q => by
  unfold pSum at h
  split at h
  · obtain ⟨ns, h1, h5⟩ := map_some h
    clear h
    have e1 := intsOf_some h1
    subst e1 h5
    cases d with
    | cons d1 d2 =>
      cases d2
      cases d1 with
      | lst a1 b1 =>
        have e2 := dpA_ints b1
        subst e2
        exact ⟨_, ns, rfl, s.seq a1, q _ G H (Grow.refl s) (.int _)⟩
  · cases h
/-- the bools of a list -/
def boolsOf : List PyData → Option (List Bool)
  | [] => some []
  | .bool i :: r => (boolsOf r).map fun is => i :: is
  | _ :: _ => none
theorem boolsOf_some : ∀ {ds : List PyData} {ns : List Bool}, boolsOf ds = some ns → ds = ns.map PyData.bool
  | [], _, h => by cases h; rfl
  | .bool i :: r, ns, h => by
    obtain ⟨is, h1, h2⟩ := map_some h
    subst h2
    rw [boolsOf_some h1]
    rfl
  | .none :: _, _, h => by cases h
  | .int _ :: _, _, h => by cases h
  | .str _ :: _, _, h => by cases h
  | .list _ :: _, _, h => by cases h
  | .tuple _ :: _, _, h => by cases h
  | .dict _ :: _, _, h => by cases h
theorem boolsOf_map : ∀ (ns : List Bool), boolsOf (ns.map PyData.bool) = some ns
  | [] => rfl
  | n :: ns => by
    show (boolsOf (ns.map PyData.bool)).map _ = _
    rw [boolsOf_map ns]
    rfl
def pAll : List PyData → Option PyData
  | [.list ds] => (boolsOf ds).map fun ns => .bool (ns.all id)
  | _ => none
def pAny : List PyData → Option PyData
  | [.list ds] => (boolsOf ds).map fun ns => .bool (ns.any id)
  | _ => none
theorem rc_all : RCall K (rAll K) pAll := fun G H vs ds z Q s d h q => by
  unfold pAll at h
  split at h
  · obtain ⟨ns, h1, h5⟩ := map_some h
    clear h
    have e1 := boolsOf_some h1
    subst e1 h5
    cases d with
    | cons d1 d2 =>
      cases d2
      cases d1 with
      | lst a1 b1 =>
        have e2 := dpA_bls b1
        subst e2
        exact ⟨_, ns, rfl, s.seq a1, q _ G H (Grow.refl s) (.bl _)⟩
  · cases h
theorem rc_any : RCall K (rAny K) pAny := fun G H vs ds z Q s d h q => by
  unfold pAny at h
  split at h
  · obtain ⟨ns, h1, h5⟩ := map_some h
    clear h
    have e1 := boolsOf_some h1
    subst e1 h5
    cases d with
    | cons d1 d2 =>
      cases d2
      cases d1 with
      | lst a1 b1 =>
        have e2 := dpA_bls b1
        subst e2
        exact ⟨_, ns, rfl, s.seq a1, q _ G H (Grow.refl s) (.bl _)⟩
  · cases h
def pAbs : List PyData → Option PyData
  | [.int i] => some (.int (if i < 0 then -i else i))
  | _ => none
theorem rc_abs : RCall K (fun xs H Q => ∃ i, xs = [.int i] ∧ Q (.int (if i < 0 then -i else i)) H) pAbs := fun G H vs ds z Q s d h q => by
  unfold pAbs at h
  split at h
  · cases h
    cases d with
    | cons d1 d2 =>
      cases d2
      cases d1
      exact ⟨_, rfl, q _ G H (Grow.refl s) (.int _)⟩
  · cases h
def pInt : List PyData → Option PyData
  | [.int i] => some (.int i)
  | [.bool k] => some (.int (if k then 1 else 0))
  | _ => none
theorem rc_int : RCall K (fun xs H Q => (∃ i, xs = [.int i] ∧ Q (.int i) H) ∨ ∃ k, xs = [.bl k] ∧ Q (.int (if k then 1 else 0)) H) pInt := fun G H vs ds z Q s d h q => by
  unfold pInt at h
  split at h
  · cases h
    cases d with
    | cons d1 d2 =>
      cases d2
      cases d1
      exact .inl ⟨_, rfl, q _ G H (Grow.refl s) (.int _)⟩
  · cases h
    cases d with
    | cons d1 d2 =>
      cases d2
      cases d1
      exact .inr ⟨_, rfl, q _ G H (Grow.refl s) (.int _)⟩
  · cases h
/-- tuple(xs) -/
def pTuple : List PyData → Option PyData
  | [.list ds] => some (.tuple ds)
  | [.tuple ds] => some (.tuple ds)
  | _ => none
theorem rc_tuple : RCall K (fun xs H Q => ∃ p ys, xs = [.ref p] ∧ ((SqL K H p ys ∧ ∀ l, H l = none → Q (.ref l) (upd H l (.tup ys))) ∨ (SqT K H p ys ∧ Q (.ref p) H))) pTuple := fun G H vs ds z Q s d h q => by
  unfold pTuple at h
  split at h
  · cases h
    cases d with
    | cons d1 d2 =>
      cases d2
      cases d1 with
      | lst a1 b1 => exact ⟨_, _, rfl, .inl ⟨s.seq a1, fun l hl => q _ _ _ (Grow.val s hl) (.tup (SqT.of upd_same) (dpA_mono (same_new (none_of_same s hl)) _ _ b1))⟩⟩
  · cases h
    cases d with
    | cons d1 d2 =>
      cases d2
      cases d1 with
      | tup a1 b1 => exact ⟨_, _, rfl, .inr ⟨sqT_mono s a1, q _ G H (Grow.refl s) (.tup a1 b1)⟩⟩
  · cases h
/-- list(xs), a new list -/
def sListOf (s : Sem1) : SemL := fun ρ => (s ρ).bind fun x => match x.1 with
  | .list ds => some (ds, x.2)
  | .tuple ds => some (ds, x.2)
  | _ => none
theorem jf_list (ha : PE X a (cE X.K sa)) (hg : Gl X "list") (hm : X.mg "list" = none) (n1 : starEach [a] X.env = (false, eval a X.env) :: starEach [] X.env := by rfl) : PE X (.Call (.Name "list" p) [a] [] pos) (cF X.K (sListOf sa)) := by
  refine pe_of (pe_callTy call_list_of hg hm (by decide +kernel) (pa_cons ha pa_nil n1) (by decide) (by decide) n1 (by rfl)) fun σ H Q ⟨A, G, ρ, r, ρ', h, st, q⟩ => ?_
  obtain ⟨⟨x, ρ1⟩, h1, h⟩ := bind_some h
  refine ⟨A, G, ρ, x, ρ1, h1, st, fun v G1 H1 g1 st1 d1 => ?_⟩
  simp only at h
  split at h
  · cases h
    cases d1 with
    | lst a1 b1 => exact ⟨_, _, rfl, .inl (st1.gh.seq a1), fun l hl => q l _ G1 H1 g1 st1 hl b1⟩
  · cases h
    cases d1 with
    | tup a1 b1 => exact ⟨_, _, rfl, .inr (sqT_mono st1.gh a1), fun l hl => q l _ G1 H1 g1 st1 hl b1⟩
  · cases h
/-- sorted(xs), ints: rising, with all its doubles -/
def insI (k : Int) : List Int → List Int
  | [] => [k]
  | x :: xs => if k ≤ x then k :: x :: xs else x :: insI k xs
def sortI (ns : List Int) : List Int := ns.foldr insI []
theorem insI_perm (k : Int) : ∀ xs : List Int, (insI k xs).Perm (k :: xs)
  | [] => .refl _
  | x :: xs => by
    unfold insI
    split
    · exact .refl _
    · exact ((insI_perm k xs).cons x).trans (.swap k x xs)
theorem sortI_perm : ∀ ns : List Int, (sortI ns).Perm ns
  | [] => .refl _
  | n :: ns => (insI_perm n (sortI ns)).trans ((sortI_perm ns).cons n)
theorem insI_rise {k : Int} : ∀ {xs : List Int}, xs.Pairwise (· ≤ ·) → (insI k xs).Pairwise (· ≤ ·)
  | [], _ => by simp [insI]
  | x :: xs, h => by
    obtain ⟨h1, h2⟩ := List.pairwise_cons.mp h
    unfold insI
    split
    · rename_i c
      exact List.pairwise_cons.mpr ⟨fun y hy => by
        rcases List.mem_cons.mp hy with e | e
        · omega
        · have := h1 y e
          omega, h⟩
    · rename_i c
      refine List.pairwise_cons.mpr ⟨fun y hy => ?_, insI_rise h2⟩
      rcases List.mem_cons.mp ((insI_perm k xs).mem_iff.mp hy) with e | e
      · omega
      · exact h1 y e
theorem sortI_rise : ∀ ns : List Int, (sortI ns).Pairwise (· ≤ ·)
  | [] => .nil
  | n :: ns => insI_rise (sortI_rise ns)
theorem perm_rise_eq : ∀ {xs ys : List Int}, xs.Perm ys → xs.Pairwise (· ≤ ·) → ys.Pairwise (· ≤ ·) → xs = ys
  | [], ys, h, _, _ => by rw [h.nil_eq]
  | x :: xs, [], h, _, _ => by have := h.length_eq; simp at this
  | x :: xs, y :: ys, h, h1, h2 => by
    obtain ⟨a1, b1⟩ := List.pairwise_cons.mp h1
    obtain ⟨a2, b2⟩ := List.pairwise_cons.mp h2
    have e : x = y := by
      rcases List.mem_cons.mp (h.mem_iff.mp List.mem_cons_self) with e | e
      · exact e
      · rcases List.mem_cons.mp (h.mem_iff.mpr List.mem_cons_self) with e2 | e2
        · exact e2.symm
        · have := a1 y e2
          have := a2 x e
          omega
    subst e
    rw [perm_rise_eq h.cons_inv b1 b2]
def sSorted (s : Sem1) : SemL := fun ρ => (s ρ).bind fun x => match x.1 with
  | .list ds => (intsOf ds).map fun ns => ((sortI ns).map .int, x.2)
  | _ => none
theorem jf_sorted (ha : PE X a (cE X.K sa)) (hg : Gl X "sorted") (hm : X.mg "sorted" = none) (n1 : starEach [a] X.env = (false, eval a X.env) :: starEach [] X.env := by rfl) : PE X (.Call (.Name "sorted" p) [a] [] pos) (cF X.K (sSorted sa)) := by
  refine pe_of (pe_callB cr_sortedI hg hm (by decide +kernel) (pa_cons ha pa_nil n1) (by decide) (by decide) n1 (by rfl)) fun σ H Q ⟨A, G, ρ, r, ρ', h, st, q⟩ => ?_
  obtain ⟨⟨x, ρ1⟩, h1, h⟩ := bind_some h
  refine ⟨A, G, ρ, x, ρ1, h1, st, fun v G1 H1 g1 st1 d1 => ?_⟩
  simp only at h
  split at h
  · obtain ⟨ns, h2, h5⟩ := map_some h
    clear h
    have e1 := intsOf_some h2
    subst e1
    cases h5
    cases d1 with
    | lst a1 b1 =>
      have e2 := dpA_ints b1
      subst e2
      refine ⟨_, ns, rfl, st1.gh.seq a1, fun ms l pm hr hl => ?_⟩
      have e3 : ms = sortI ns := perm_rise_eq (pm.trans (sortI_perm ns).symm) hr (sortI_rise ns)
      subst e3
      exact q l _ G1 H1 g1 st1 hl (dpA_ofInts _)
  · cases h

/-! ## a test that reads one owned list as a value; nothing is changed within -/
def hideOwn (ρ : Rho) : Rho := ρ.map fun sv => if sv.isOwn then .no else sv
def sBorT (i : Nat) (c : SemT) : SemT := fun ρ => match ρ[i]? with
  | some (.own ds) => (c ((hideOwn ρ).set i (.val (.list ds)))).map fun x => (x.1, ρ)
  | _ => none
theorem hide_get {ρ : Rho} {j : Nat} {sv : SV} (h : (hideOwn ρ)[j]? = some sv) : sv.isOwn = false ∧ (sv = .no ∨ ρ[j]? = some sv) := by
  unfold hideOwn at h
  rw [List.getElem?_map] at h
  obtain ⟨z, h1, h2⟩ := map_some h
  split at h2
  · subst h2
    exact ⟨rfl, .inl rfl⟩
  · rename_i c
    subst h2
    exact ⟨by simpa using c, .inr h1⟩
/-- the frame with the other owned objects -/
noncomputable def withOthers (ρ : Rho) (fp : Nat → List Addr) (i : Nat) (H A : Hp) : Hp := fun q => @ite _ (∃ j sv, j ≠ i ∧ ρ[j]? = some sv ∧ sv.isOwn = true ∧ q ∈ fp j) (Classical.propDecidable _) (H q) (A q)
theorem others_cases {ρ : Rho} {fp : Nat → List Addr} {i : Nat} {H A : Hp} (q : Addr) : ((∃ j sv, j ≠ i ∧ ρ[j]? = some sv ∧ sv.isOwn = true ∧ q ∈ fp j) ∧ withOthers ρ fp i H A q = H q) ∨ withOthers ρ fp i H A q = A q := by
  unfold withOthers
  by_cases c : ∃ j sv, j ≠ i ∧ ρ[j]? = some sv ∧ sv.isOwn = true ∧ q ∈ fp j
  · exact .inl ⟨c, if_pos c⟩
  · exact .inr (if_neg c)
theorem StR.borrow {A : Hp} {σ : L2.St} {G H : Hp} {ρ : Rho} {i : Nat} {ds : List PyData} (st : StR K A σ G H ρ) (h : ρ[i]? = some (.own ds)) :
    ∃ A' G', Same G G' ∧ StR K A' σ G' H ((hideOwn ρ).set i (.val (.list ds))) ∧ ∀ G2 H2 ρ2, Same G' G2 → StR K A' σ G2 H2 ρ2 → StR K A σ G H2 ρ := by
  obtain ⟨fp, s⟩ := st
  obtain ⟨v, e, p, xs, e0, ef, hp, x⟩ := s.own i _ h rfl
  subst e0
  have pi : p ∈ fp i := by rw [ef]; exact List.mem_cons_self
  have off := s.off i _ h rfl p pi
  -- the other owned objects go into the frame
  let B : Hp := withOthers ρ fp i H A
  have bB : ∀ {j sv q}, j ≠ i → ρ[j]? = some sv → sv.isOwn = true → q ∈ fp j → B q = H q := fun n h1 h2 h3 => if_pos ⟨_, _, n, h1, h2, h3⟩
  have aB : ∀ q o, A q = some o → B q = some o := fun q o eq => by
    rcases others_cases (ρ := ρ) (fp := fp) (i := i) (H := H) (A := A) q with ⟨_, c⟩ | c
    · exact c.trans (s.ah q o eq)
    · exact c.trans eq
  have Bc : ∀ q o, B q = some o → (A q = some o) ∨ (∃ j sv, j ≠ i ∧ ρ[j]? = some sv ∧ sv.isOwn = true ∧ q ∈ fp j) := fun q o eq => by
    rcases others_cases (ρ := ρ) (fp := fp) (i := i) (H := H) (A := A) q with ⟨c, _⟩ | c
    · exact .inr c
    · exact .inl (c.symm.trans eq)
  have bH : Same B H := fun q o eq => by
    rcases others_cases (ρ := ρ) (fp := fp) (i := i) (H := H) (A := A) q with ⟨_, c⟩ | c
    · exact c.symm.trans eq
    · exact s.ah q o (c.symm.trans eq)
  have np : ∀ q o, B q = some o → q ≠ p := fun q o eq z => by
    rcases Bc q o eq with c | ⟨j, sv, n, h1, h2, h3⟩
    · rw [z, off.2] at c
      cases c
    · exact s.sep j i sv _ h1 h2 h rfl n q h3 (by rw [z]; exact pi)
  have nG : ∀ q o, B q = some o → G q = none := fun q o eq => by
    rcases Bc q o eq with c | ⟨j, sv, n, h1, h2, h3⟩
    · exact s.dis q o c
    · exact (s.off j sv h1 h2 q h3).1
  have g0 : Same G (upd G p (.lst xs)) := same_new off.1
  have noown : ∀ (j : Nat) (sv : SV), ((hideOwn ρ).set i (.val (.list ds)))[j]? = some sv → sv.isOwn = true → False := fun j sv hj k => by
    rcases getElem_set_cases hj with ⟨_, e2⟩ | ⟨_, hj⟩
    · subst e2
      cases k
    · rw [(hide_get hj).1] at k
      cases k
  refine ⟨B, upd G p (.lst xs), g0, ⟨fp, by rw [List.length_set]; unfold hideOwn; rw [List.length_map]; exact s.len, fun b o eb => ?_, bH, fun q o eq => by rw [upd_ne (np q o eq)]; exact nG q o eq, fun j d hj => ?_, fun j w hj => ?_,
    fun j sv hj k => (noown j sv hj k).elim, fun j sv hj k => (noown j sv hj k).elim, fun j l sv sw hj k => (noown j sv hj k).elim⟩, fun G2 H2 ρ2 g2 st2 => ?_⟩
  · by_cases hb : b = p
    · subst hb
      rw [upd_same] at eb
      cases eb
      exact hp
    · rw [upd_ne hb] at eb
      exact s.gh b o eb
  · rcases getElem_set_cases hj with ⟨e1, e2⟩ | ⟨n, hj⟩
    · subst e1
      cases e2
      exact ⟨_, e, .lst (SqL.of upd_same) (dpA_mono g0 _ _ x)⟩
    · rcases (hide_get hj).2 with z | z
      · cases z
      · obtain ⟨v, e, y⟩ := s.val j d z
        exact ⟨v, e, dp_mono g0 _ _ y⟩
  · rcases getElem_set_cases hj with ⟨e1, e2⟩ | ⟨n, hj⟩
    · cases e2
    · rcases (hide_get hj).2 with z | z
      · cases z
      · exact s.raw j w z
  · have hpp : H2 p = some (.lst xs) := st2.gh p _ (g2 p _ upd_same)
    have at2 : ∀ (j : Nat) (sv : SV), ρ[j]? = some sv → sv.isOwn = true → ∀ q ∈ fp j, H2 q = H q := fun j sv hj k q hq => by
      by_cases hji : j = i
      · subst hji
        rw [ef] at hq
        have eq : q = p := by simpa using hq
        rw [eq, hpp, hp]
      · obtain ⟨v', e', o'⟩ := s.own j sv hj k
        obtain ⟨u, hu⟩ := o'.there q hq
        rw [hu]
        exact st2.ah q u (by rw [bB hji hj k hq]; exact hu)
    refine ⟨fp, s.len, (g0.trans g2).trans st2.gh, fun q o eq => st2.ah q o (aB q o eq), s.dis, s.val, s.raw, fun j sv hj k => ?_, s.off, s.sep⟩
    obtain ⟨v', e', o'⟩ := s.own j sv hj k
    exact ⟨v', e', o'.keep (Same.refl _) (at2 j sv hj k)⟩
theorem jt_bor (i : Nat) {c : SemT} (h : PT X e (cT X.K c)) : PT X e (cT X.K (sBorT i c)) := by
  refine pt_of h fun σ H Q ⟨A, G, ρ, r, ρ', h, st, q⟩ => ?_
  unfold sBorT at h
  split at h
  · rename_i ds e0
    obtain ⟨y, h1, e1⟩ := map_some h
    cases e1
    obtain ⟨A', G', g0, st0, back⟩ := st.borrow e0
    exact ⟨A', G', _, y.1, y.2, h1, st0, fun G2 H2 g2 st2 => q G H2 (Same.refl _) (back G2 H2 _ g2 st2)⟩
  · cases h
/-- .. as a value that hangs on no heap -/
def scalarD : PyData → Bool
  | .none => true
  | .bool _ => true
  | .int _ => true
  | .str _ => true
  | _ => false
theorem dp_scalar {G G' : Hp} {v : V} {d : PyData} (h : Dp K G v d) (s : scalarD d = true) : Dp K G' v d := by
  cases h with
  | non => exact .non
  | bl b => exact .bl b
  | int i => exact .int i
  | str x => exact .str x
  | lst a b => cases s
  | tup a b => cases s
def sBor (i : Nat) (c : Sem1) : Sem1 := fun ρ => match ρ[i]? with
  | some (.own ds) => (c ((hideOwn ρ).set i (.val (.list ds)))).bind fun x => if scalarD x.1 = true then some (x.1, ρ) else none
  | _ => none
theorem je_bor (i : Nat) {c : Sem1} (h : PE X e (cE X.K c)) : PE X e (cE X.K (sBor i c)) := by
  refine pe_of h fun σ H Q ⟨A, G, ρ, r, ρ', h, st, q⟩ => ?_
  unfold sBor at h
  split at h
  · rename_i ds e0
    obtain ⟨y, h1, h2⟩ := bind_some h
    split at h2
    · rename_i sc
      cases h2
      obtain ⟨A', G', g0, st0, back⟩ := st.borrow e0
      exact ⟨A', G', _, y.1, y.2, h1, st0, fun v G2 H2 g2 st2 d2 => q v G H2 (Same.refl _) (back G2 H2 _ g2 st2) (dp_scalar d2 sc)⟩
    · cases h2
  · cases h
end
end Lay

namespace Lay
open PySem PySem.Spec PyProof.Rows L2

section
variable {P : Program} {w : World} {K : PySem.W.Frag} {mg : Str → Option Value} {base : Heap}
/-! ## a def whose first argument is an owned list -/
theorem runB_some {np n : Nat} {b : SemS} {bs ds : List PyData} {r : PyData × List PyData} (h : runB np n b bs ds = some r) : ds.length + 1 = np ∧ ∃ o, b (entry n (.own bs :: ds.map SV.val)) = some o ∧ outB o = some r := by
  unfold runB at h
  split at h
  · rename_i e
    obtain ⟨o, h1, h2⟩ := bind_some h
    exact ⟨e, o, h1, h2⟩
  · cases h
def restB (p : Addr) (G H : Hp) : Hp := fun q => if q = p then none else rest0 G H q
theorem startB_str {N : List Str} {G H : Hp} {p : Addr} {xs : List V} {ws : List V} {bs ds : List PyData} (gh : Same G H) (hp : H p = some (.lst xs)) (gp : G p = none) (x : DpAll K G xs bs) (y : DpAll K G ws ds) (hl : ws.length + 1 ≤ N.length) :
    StR K (restB p G H) (L2.start N (.ref p :: ws)) G H (entry N.length (.own bs :: ds.map SV.val)) := by
  have e := dpA_len y
  have elen : (SV.own bs :: ds.map SV.val).length ≤ N.length := by
    rw [List.length_cons, List.length_map]
    omega
  have own0 : ∀ (i : Nat) (sv : SV), (entry N.length (.own bs :: ds.map SV.val))[i]? = some sv → sv.isOwn = true → i = 0 ∧ sv = .own bs := fun i sv h k => by
    rcases entry_get h with h | h
    · cases i with
      | zero => exact ⟨rfl, (Option.some.inj h).symm⟩
      | succ i =>
        rw [List.getElem?_cons_succ, List.getElem?_map] at h
        obtain ⟨d, _, e⟩ := map_some h
        subst e
        cases k
    · subst h
      cases k
  refine ⟨fun _ => [p], by rw [start_len (by rw [List.length_cons]; exact hl), entry_len elen], gh, fun q o h => ?_, fun q o h => ?_, fun i d h => ?_, fun i v h => ?_, fun i sv h k => ?_, fun i sv h k q hq => ?_, fun i j sv sw h k h' k' n => ?_⟩
  · unfold restB at h
    split at h
    · cases h
    · exact (rest0_some h).2
  · unfold restB at h
    split at h
    · cases h
    · exact (rest0_some h).1
  · rcases entry_get h with h | h
    · cases i with
      | zero => cases (Option.some.inj h)
      | succ i =>
        rw [List.getElem?_cons_succ, List.getElem?_map] at h
        obtain ⟨d', h1, h2⟩ := map_some h
        cases h2
        obtain ⟨v, h3, h4⟩ := dpA_get y h1
        exact ⟨v, start_get (by rw [List.getElem?_cons_succ]; exact h3), h4⟩
    · cases h
  · rcases entry_get h with h | h
    · cases i with
      | zero => cases (Option.some.inj h)
      | succ i =>
        rw [List.getElem?_cons_succ, List.getElem?_map] at h
        obtain ⟨d', h1, h2⟩ := map_some h
        cases h2
    · cases h
  · obtain ⟨rfl, rfl⟩ := own0 i sv h k
    exact ⟨.ref p, start_get rfl, p, xs, rfl, rfl, hp, x⟩
  · have e : q = p := by simpa using hq
    subst e
    exact ⟨gp, if_pos rfl⟩
  · exact absurd ((own0 i sv h k).1.trans (own0 j sw h' k').1.symm) n
theorem fn_B {x qual : Str} {st : Stmt} {f : Addr} {fd : FuncData} {N ps : List Str} {k : Nat} {b : SemS} (F : Fun K x qual st f fd) (S : FnScope N ps (defScope st)) (hN : ps.length ≤ N.length)
    (hb : ∀ (cdv : Value) (A : Around) (outer : List Env) (s : Shared) (H : Hp) (E : XK), Room k (A.deeper (envOfC qual (defScope st) s.heap.objs.size f cdv)) → PSs (cxOf CX0 P w K mg base N qual (defScope st) f cdv A outer s H E).nox (defBody st) (cS K b)) :
    FnOk P w K mg base CX0 (k + 1) f fd ps (spB K (runB ps.length N.length b)) := by
  refine F.ok S (fun vs H Q E ⟨G, p, xs, bs, ws, ds, r, bs', e, gh, hp, gp, x, y, h, q⟩ => ?_) fun cdv A outer s H vs Q E hr ⟨G, p, xs, bs, ws, ds, r, bs', ev, gh, hp, gp, x, y, h, q⟩ => ⟨_, hb cdv A outer s H E hr, ?_⟩
  · rw [e, List.length_cons, dpA_len y]
    exact (runB_some h).1
  · subst ev
    obtain ⟨e, o, h1, h2⟩ := runB_some h
    refine ⟨restB p G H, G, _, o, h1, startB_str gh hp gp x y (by rw [dpA_len y, e]; exact hN), ?_⟩
    have fin : ∀ {σ' : L2.St} {G' H' : Hp} {ρ' : Rho} {v : V} {d : PyData} {cs : List PyData}, σ'[0]? = (L2.start N (.ref p :: ws))[0]? → Same G G' → StR K (restB p G H) σ' G' H' ρ' → ρ'[0]? = some (.own cs) → Dp K G' v d → d = r → cs = bs' → Q v H' := by
      intro σ' G' H' ρ' v d cs z g st e0 dv ed ec
      subst ed ec
      have s0 : (L2.start N (.ref p :: ws))[0]? = some (some (.ref p)) := start_get rfl
      rw [s0] at z
      obtain ⟨p', xs', z2, e3, e4, e5, e6, _⟩ := st.mutOwn (ds' := []) e0
      rw [z] at z2
      cases z2
      have inA : ∀ q o, q ≠ p → G q = none → H q = some o → restB p G H q = some o := fun q o n eg eh => by
        unfold restB
        rw [if_neg n, rest0_of eg]
        exact eh
      refine q v G' H' xs' g st.gh (fun q o n eq => ?_) (fun q o eq eg => ?_) e3 e4 dv
      · cases eg : G q with
        | none => exact st.ah q o (inA q o n eg eq)
        | some u =>
          have := gh q u eg
          rw [eq] at this
          cases this
          exact st.gh q o (g q o eg)
      · by_cases n : q = p
        · rw [n]; exact e5
        · exact st.dis q o (inA q o n eg eq)
    cases o with
    | nx ρ' =>
      unfold outB at h2
      simp only at h2
      split at h2
      · rename_i cs e0
        cases h2
        exact fun σ' G' H' z g st => fin (v := .non) z g st e0 .non rfl rfl
      · cases h2
    | rt d ρ' =>
      unfold outB at h2
      simp only at h2
      split at h2
      · rename_i cs e0
        cases h2
        exact fun v σ' G' H' z g st x' => fin z g st e0 x' rfl rfl
      · cases h2
    | rf d ρ' => cases h2
    | bk ρ' => cases h2
    | ct ρ' => cases h2
/-- a def of the text, as its callers need it -/
structure Fact (K : PySem.W.Frag) (mg : Str → Option Value) (x : Str) (st : Stmt) (ps : List Str) : Prop where
  ex : ∃ (f : Addr) (fd : FuncData), mg x = some (.ref f) ∧ Fun K x x st f fd ∧ Binds K fd ps []
theorem def_D {x : Str} {st : Stmt} {N ps : List Str} {k : Nat} {b : SemS} (F : Fact K mg x st ps) (S : FnScope N ps (defScope st)) (hN : ps.length ≤ N.length)
    (hb : ∀ (f : Addr) (cdv : Value) (A : Around) (outer : List Env) (s : Shared) (H : Hp) (E : XK), Room k (A.deeper (envOfC x (defScope st) s.heap.objs.size f cdv)) → PSs (cxOf CX0 P w K mg base N x (defScope st) f cdv A outer s H E).nox (defBody st) (cS K b)) :
    DefOk P w K mg base (k + 1) x ps (spD K (runD ps.length N.length b)) := by
  obtain ⟨f, fd, hm, F, B⟩ := F.ex
  exact ⟨f, fd, hm, F.kp, B, fn_D F S hN (hb f)⟩
theorem def_F {x : Str} {st : Stmt} {N ps : List Str} {k : Nat} {b : SemS} (F : Fact K mg x st ps) (S : FnScope N ps (defScope st)) (hN : ps.length ≤ N.length)
    (hb : ∀ (f : Addr) (cdv : Value) (A : Around) (outer : List Env) (s : Shared) (H : Hp) (E : XK), Room k (A.deeper (envOfC x (defScope st) s.heap.objs.size f cdv)) → PSs (cxOf CX0 P w K mg base N x (defScope st) f cdv A outer s H E).nox (defBody st) (cS K b)) :
    DefOk P w K mg base (k + 1) x ps (spF K (runF ps.length N.length b)) := by
  obtain ⟨f, fd, hm, F, B⟩ := F.ex
  exact ⟨f, fd, hm, F.kp, B, fn_F F S hN (hb f)⟩
theorem def_B {x : Str} {st : Stmt} {N ps : List Str} {k : Nat} {b : SemS} (F : Fact K mg x st ps) (S : FnScope N ps (defScope st)) (hN : ps.length ≤ N.length)
    (hb : ∀ (f : Addr) (cdv : Value) (A : Around) (outer : List Env) (s : Shared) (H : Hp) (E : XK), Room k (A.deeper (envOfC x (defScope st) s.heap.objs.size f cdv)) → PSs (cxOf CX0 P w K mg base N x (defScope st) f cdv A outer s H E).nox (defBody st) (cS K b)) :
    DefOk P w K mg base (k + 1) x ps (spB K (runB ps.length N.length b)) := by
  obtain ⟨f, fd, hm, F, B⟩ := F.ex
  exact ⟨f, fd, hm, F.kp, B, fn_B F S hN (hb f)⟩
end
end Lay

namespace Lay
open PySem PySem.Spec PyProof.Rows L2

/-! ## a new list of new lists, each to be owned later -/
abbrev SemLL := Rho → Option (List (List PyData) × Rho)
abbrev Bag := Addr × List V
inductive BagsAll (K : PySem.W.Frag) (G : Hp) : List Bag → List (List PyData) → Prop
  | nil : BagsAll K G [] []
  | cons {b : Bag} {bs : List Bag} {d : List PyData} {ds : List (List PyData)} : DpAll K G b.2 d → BagsAll K G bs ds → BagsAll K G (b :: bs) (d :: ds)
structure Bags (A F : Hp) (p : Addr) (bs : List Bag) : Prop where
  sub : Same A F
  lst : F p = some (.lst (bs.map fun b => .ref b.1))
  at_ : ∀ b ∈ bs, F b.1 = some (.lst b.2)
  newp : A p = none
  new : ∀ b ∈ bs, A b.1 = none
  nd : (p :: bs.map (·.1)).Nodup
section
variable {K : PySem.W.Frag} {G G' : Hp}
theorem bagsAll_mono (s : Same G G') : ∀ {bs : List Bag} {ds : List (List PyData)}, BagsAll K G bs ds → BagsAll K G' bs ds
  | _, _, .nil => .nil
  | _, _, .cons a t => .cons (dpA_mono s _ _ a) (bagsAll_mono s t)
theorem bagsAll_len : ∀ {bs : List Bag} {ds : List (List PyData)}, BagsAll K G bs ds → bs.length = ds.length
  | _, _, .nil => rfl
  | _, _, .cons _ t => congrArg (· + 1) (bagsAll_len t)
theorem bagsAll_get : ∀ {bs : List Bag} {ds : List (List PyData)} {i : Nat} {b : Bag}, BagsAll K G bs ds → bs[i]? = some b → ∃ d, ds[i]? = some d ∧ DpAll K G b.2 d
  | _, _, _, _, .nil, h => by simp at h
  | _, _, 0, _, .cons a _, h => by
    simp at h
    subst h
    exact ⟨_, rfl, a⟩
  | _, _, i + 1, _, .cons _ t, h => by
    obtain ⟨v, h1, h2⟩ := bagsAll_get (i := i) t (by simpa using h)
    exact ⟨v, by simpa using h1, h2⟩
theorem bagsAll_snoc : ∀ {bs : List Bag} {ds : List (List PyData)} {b : Bag} {d : List PyData}, BagsAll K G bs ds → DpAll K G b.2 d → BagsAll K G (bs ++ [b]) (ds ++ [d])
  | _, _, _, _, .nil, h => .cons h .nil
  | _, _, _, _, .cons a t, h => .cons a (bagsAll_snoc t h)
def cFF (K : PySem.W.Frag) (s : SemLL) : TE := fun σ H Q => ∃ A G ρ rs ρ', s ρ = some (rs, ρ') ∧ StR K A σ G H ρ ∧ ∀ p F bs G' H', Same G G' → StR K F σ G' H' ρ' → Bags A F p bs → BagsAll K G' bs rs → Q (.ref p) H'
def lcLL (vs : List Nat) (g : SemG) (s : SemL) : List PyData → Rho → Option (List (List PyData) × Rho)
  | [], ρ => some ([], ρ)
  | d :: ds, ρ => (g d ρ).bind fun ρ1 => (s ρ1).bind fun z => (lcLL vs g s ds (wipeR z.2 vs)).map fun r => (z.1 :: r.1, r.2)
def sLcF (vs : List Nat) (it : SemL) (g : SemG) (s : SemL) : SemLL := fun ρ => (it ρ).bind fun x => if x.1.length < 16777216 then lcLL vs g s x.1 (wipeR x.2 vs) else none
theorem upd_comm {H : Hp} {a b : Addr} {o u : HO} (h : a ≠ b) : upd (upd H a o) b u = upd (upd H b u) a o := by
  funext q
  unfold upd
  by_cases h1 : q = a
  · by_cases h2 : q = b
    · exact absurd (h1.symm.trans h2) h
    · rw [if_neg h2, if_pos h1, if_pos h1]
  · by_cases h2 : q = b
    · rw [if_pos h2, if_neg h1, if_pos h2]
    · rw [if_neg h2, if_neg h1, if_neg h1, if_neg h2]
theorem lcF_imp {vs : List Nat} {it : SemL} {g : SemG} {s : SemL} (σ : L2.St) (H : Hp) (Q : VK) (h : cFF K (sLcF vs it g s) σ H Q) : tLc (cI K it) (cG K vs g) (cT K tYesS) (cF K s) vs σ H Q := by
  obtain ⟨A, G, ρ, rs, ρ', h, st, q⟩ := h
  obtain ⟨⟨ds, ρ1⟩, h1, h⟩ := bind_some h
  split at h
  · rename_i hlen
    simp only at hlen h
    refine ⟨A, G, ρ, ds, ρ1, h1, st, fun J G1 H1 g1 st1 ok D hD => ?_⟩
    have aD : A D = none := none_of_same st1.ah hD
    refine ⟨fun i m H => m = ds.length - i ∧ i ≤ ds.length ∧ ∃ G2 ρ2 F bs es rest, Same G1 G2 ∧ StR K F (wipe σ vs) G2 H ρ2 ∧ Bags A F D bs ∧ BagsAll K G2 bs es ∧ es.length ≤ i ∧ lcLL vs g s (ds.drop i) ρ2 = some (rest, ρ') ∧ es ++ rest = rs ∧ ∀ (j : Nat) (sv : SV), j ∈ vs → ρ2[j]? = some sv → sv = .no,
      ⟨ds.length, rfl, Nat.zero_le _, G1, wipeR ρ1 vs, upd A D (.lst []), [], [], rs, Same.refl _, ?_, ⟨same_new aD, upd_same, fun b hb => (by cases hb), aD, fun b hb => (by cases hb), by simp⟩, .nil, Nat.le_refl _, h, rfl, fun j sv hj hs => (wipeR_get hs).elim id fun z => absurd hj z.1⟩, ?_⟩
    · exact (st1.swap (τ := wipe σ vs) wipe_wipe.symm).frame hD
    · rintro i m H2 ⟨rfl, hi, G2, ρ2, F, bs, es, rest, g2, st2, B, x2, hes, hl, erest, hno⟩
      by_cases hlt : i < ds.length
      · refine .inr ?_
        have ed : ds.drop i = ds[i] :: ds.drop (i + 1) := List.drop_eq_getElem_cons hlt
        rw [ed] at hl
        obtain ⟨ρ3, hg, hl⟩ := bind_some hl
        obtain ⟨⟨z, ρ5⟩, hs, hl⟩ := bind_some hl
        obtain ⟨⟨r, ρ6⟩, hl5, er⟩ := map_some hl
        injection er with er1 er2
        have er3 : ρ' = ρ6 := er2.symm
        have er4 : z :: r = rest := er1
        subst er3 er4
        obtain ⟨go, yl⟩ := ok.item i _ (List.getElem?_eq_getElem hlt) G2 H2 g2 st2.gh
        refine ⟨go, fun H' => ∃ m', m' < ds.length - i ∧ (m' = ds.length - (i + 1) ∧ i + 1 ≤ ds.length ∧ ∃ G2 ρ2 F bs es rest, Same G1 G2 ∧ StR K F (wipe σ vs) G2 H' ρ2 ∧ Bags A F D bs ∧ BagsAll K G2 bs es ∧ es.length ≤ i + 1 ∧ lcLL vs g s (ds.drop (i + 1)) ρ2 = some (rest, ρ') ∧ es ++ rest = rs ∧ ∀ (j : Nat) (sv : SV), j ∈ vs → ρ2[j]? = some sv → sv = .no), fun H' hn => hn, fun x H3 hy => ?_⟩
        obtain ⟨G3, gr3, x3⟩ := yl x H3 hy
        refine ⟨_, G3, ρ2, _, ρ3, hg, st2.grow gr3, x3, fun σ2 hw st3 => ⟨by rw [hw, wipe_wipe], F, G3, ρ3, true, ρ3, rfl, st3, fun G4 H4 g4 st4 => iteT ⟨F, G4, ρ3, z, ρ5, hs, st4, fun b xs G5 H5 g5 st5 hb x5 => ?_⟩⟩⟩
        have hw2 : wipe σ2 vs = wipe (wipe σ vs) vs := hw
        have fb : F b = none := none_of_same st5.ah hb
        have hD5 : H5 D = some (.lst (bs.map fun b => .ref b.1)) := st5.ah D _ B.lst
        have nbD : b ≠ D := fun e => by
          rw [e, hD5] at hb
          cases hb
        have nbb : ∀ c ∈ bs, c.1 ≠ b := fun c hc e => by
          have := B.at_ c hc
          rw [e, fb] at this
          cases this
        have el := bagsAll_len x2
        refine ⟨_, by rw [upd_ne nbD.symm]; exact hD5, ?_, ds.length - (i + 1), by omega, rfl, hlt, G5, wipeR ρ5 vs, upd (upd F b (.lst xs)) D (.lst (bs.map (fun b => V.ref b.1) ++ [.ref b])), bs ++ [(b, xs)], es ++ [z], r, ?_, ?_, ?_, bagsAll_snoc (bagsAll_mono ((gr3.g.trans g4).trans g5) x2) x5, ?_, hl5, ?_, fun j sv hj hs => (wipeR_get hs).elim id fun z => absurd hj z.1⟩
        · rw [List.length_map]
          have e1 : (sizeLine : Nat) = 16777216 := by decide
          omega
        · exact ((g2.trans gr3.g).trans g4).trans g5
        · have s1 : StR K (upd F b (.lst xs)) (wipe σ vs) G5 (upd H5 b (.lst xs)) (wipeR ρ5 vs) := (st5.swap hw2).frame hb
          have e1 : upd F b (.lst xs) = upd (upd F b (.lst xs)) D (.lst (bs.map fun b => V.ref b.1)) := by
            funext q
            by_cases hq : q = D
            · rw [hq, upd_same, upd_ne nbD.symm, B.lst]
            · rw [upd_ne hq]
          rw [e1] at s1
          have s2 := s1.reframe (o' := .lst (bs.map (fun b => V.ref b.1) ++ [.ref b]))
          exact s2
        · refine ⟨fun q o e => ?_, ?_, fun c hc => ?_, aD, fun c hc => ?_, ?_⟩
          · have n1 : q ≠ D := ne_of_none e aD
            have ab : A b = none := none_of_same B.sub fb
            rw [upd_ne n1, upd_ne (ne_of_none e ab)]
            exact B.sub q o e
          · rw [upd_same, List.map_append]
            rfl
          · rcases List.mem_append.mp hc with hc | hc
            · have n1 : c.1 ≠ D := fun e => (List.nodup_cons.mp B.nd).1 (List.mem_map.mpr ⟨c, hc, e⟩)
              rw [upd_ne n1, upd_ne (nbb c hc)]
              exact B.at_ c hc
            · have e := List.mem_singleton.mp hc
              subst e
              rw [upd_ne nbD]
              exact upd_same
          · rcases List.mem_append.mp hc with hc | hc
            · exact B.new c hc
            · have e := List.mem_singleton.mp hc
              subst e
              exact none_of_same B.sub fb
          · obtain ⟨n1, n2⟩ := List.nodup_cons.mp B.nd
            rw [List.map_append]
            refine List.nodup_cons.mpr ⟨fun hm => ?_, List.nodup_append.mpr ⟨n2, by simp, fun x hx y hy e => ?_⟩⟩
            · rcases List.mem_append.mp hm with hm | hm
              · exact n1 hm
              · exact nbD (List.mem_singleton.mp hm).symm
            · obtain ⟨c, hc, ec⟩ := List.mem_map.mp hx
              have ey : y = b := List.mem_singleton.mp hy
              exact nbb c hc (by rw [ec, e, ey])
        · rw [List.length_append]
          show es.length + 1 ≤ i + 1
          omega
        · rw [List.append_assoc]
          exact erest
      · have ei : i = ds.length := by omega
        refine .inl ⟨by rw [ei]; exact ok.stop G2 H2 g2 st2.gh, ?_⟩
        rw [ei, List.drop_length] at hl
        cases hl
        rw [List.append_nil] at erest
        subst erest
        refine q D F bs G2 H2 (g1.trans g2) (st2.forget (by rw [← st2.len, wipe_length]) fun j sv h => ?_) B x2
        by_cases hj : j ∈ vs
        · exact .inl (hno j sv hj h)
        · exact .inr ⟨h, (wipe_at hj).symm⟩
  · cases h
end

section
variable {X : Cx} {K : PySem.W.Frag} {tg e iter : Expr} {es : List Expr} {a b : Expr} {pos : Pos}
theorem jff_lc {elt : Expr} {scope : Scope} {own : List (Str × Nat)} {it : SemL} {g : SemG} {s : SemL} (hc : X.calm = true) (hN : X.N.Nodup) (hi : PI X tg iter (cI X.K it)) (ok : BlkOk X.N X.env.scope scope own)
    (hg : ∀ (s : Shared) (H : Hp) (C : Addr) (cl : List (Str × Addr)) (fp : List Addr), PG (X.blk s H scope (compEnvC scope cl C X.env) fp) tg (cG X.K (own.map (·.2)) g))
    (he : ∀ (s' : Shared) (H : Hp) (C : Addr) (cl : List (Str × Addr)) (fp : List Addr), PE (X.blk s' H scope (compEnvC scope cl C X.env) fp) elt (cF X.K s))
    (hs : ∀ x, foldedSetIterable iter X.env x = pure x := by intro _; rfl) : PE X (.ListComp elt [⟨tg, iter, [], 0⟩] scope pos) (cFF X.K (sLcF (own.map (·.2)) it g s)) :=
  pe_of (pe_lc hc hN hi ok hg (fun _ _ _ _ _ => jts_nil) he hs) lcF_imp
/-- a def that gives such a list back: its one statement returns it -/
def spFF (K : PySem.W.Frag) (g : List PyData → Option (List (List PyData))) : Sp := fun vs H Q _ => ∃ G ds rs, Same G H ∧ DpAll K G vs ds ∧ g ds = some rs ∧
  ∀ p F bs G' H', Same G G' → Same G' H' → Same F H' → (∀ q o, F q = some o → G' q = none) → Bags (rest0 G H) F p bs → (∀ q, q = p ∨ q ∈ bs.map (·.1) → H q = none) → BagsAll K G' bs rs → Q (.ref p) H'
def runFF (np n : Nat) (s : SemLL) : List PyData → Option (List (List PyData)) := fun ds => if ds.length = np then (s (entry n (ds.map SV.val))).map (·.1) else none
theorem def_FF {P : Program} {w : World} {mg : Str → Option Value} {base : Heap} {x : Str} {st : Stmt} {N ps : List Str} {k : Nat} {s : SemLL} {e : Expr} {rpos : Pos} (F : Fact K mg x st ps) (S : FnScope N ps (defScope st)) (hN : ps.length ≤ N.length) (hst : defBody st = [.Return (some e) rpos])
    (hb : ∀ (f : Addr) (cdv : Value) (A : Around) (outer : List Env) (s' : Shared) (H : Hp) (E : XK), Room k (A.deeper (envOfC x (defScope st) s'.heap.objs.size f cdv)) → PE (cxOf CX0 P w K mg base N x (defScope st) f cdv A outer s' H E).nox e (cFF K s)) :
    DefOk P w K mg base (k + 1) x ps (spFF K (runFF ps.length N.length s)) := by
  obtain ⟨f, fd, hm, F, B⟩ := F.ex
  have hlen : ∀ {ds : List PyData} {rs : List (List PyData)}, runFF ps.length N.length s ds = some rs → ds.length = ps.length ∧ ∃ ρ', s (entry N.length (ds.map SV.val)) = some (rs, ρ') := fun {ds rs} h => by
    unfold runFF at h
    split at h
    · rename_i e
      obtain ⟨⟨r, ρ'⟩, h1, h2⟩ := map_some h
      subst h2
      exact ⟨e, ρ', h1⟩
    · cases h
  refine ⟨f, fd, hm, F.kp, B, F.ok S (fun vs H Q E ⟨G, ds, rs, gh, x, h, q⟩ => (dpA_len x).trans (hlen h).1) fun cdv A outer s' H vs Q E hr ⟨G, ds, rs, gh, x, h, q⟩ => ⟨_, by rw [hst]; exact pss_one (ps_ret (hb f cdv A outer s' H E hr)), ?_⟩⟩
  obtain ⟨e1, ρ', h1⟩ := hlen h
  refine ⟨rest0 G H, G, _, rs, ρ', h1, start_str gh x (by rw [dpA_len x, e1]; exact hN), fun p F' bs G' H' g st B' y => q p F' bs G' H' g st.gh st.ah st.dis B' (fun q' hq => ?_) y⟩
  cases eg : H q' with
  | none => rfl
  | some o =>
    exfalso
    have hF : ∃ u, F' q' = some u := by
      rcases hq with e | e
      · rw [e]
        exact ⟨_, B'.lst⟩
      · obtain ⟨c, hc, ec⟩ := List.mem_map.mp e
        rw [← ec]
        exact ⟨_, B'.at_ c hc⟩
    have hA : rest0 G H q' = none := by
      rcases hq with e | e
      · rw [e]
        exact B'.newp
      · obtain ⟨c, hc, ec⟩ := List.mem_map.mp e
        rw [← ec]
        exact B'.new c hc
    cases eG : G q' with
    | none =>
      rw [rest0_of eG, eg] at hA
      cases hA
    | some u =>
      obtain ⟨u2, hu2⟩ := hF
      have := st.dis q' u2 hu2
      rw [g q' u eG] at this
      cases this
def sCallFF (f : List PyData → Option (List (List PyData))) (s : SemL) : SemLL := fun ρ => (s ρ).bind fun x => (f x.1).map fun z => (z, x.2)
theorem jff_call {k : Nat} {x : Str} {p : Pos} {ps : List Str} {s : SemL} {g : List PyData → Option (List (List PyData))} (D : DefOk X.prog X.w X.K X.mg X.base k x ps (spFF X.K g)) (hr : Room k X.A) (hg : Gl X x) (ha : PA X (e :: es) (cA X.K s)) (hdb : (x == ("__debug__" : Str)) = false := by decide)
    (he : starEach (e :: es) X.env = (false, eval e X.env) :: starEach es X.env := by rfl) (hpl : (backTo pos (starEach es X.env)).any (·.1) = false := by rfl) : PE X (.Call (.Name x p) (e :: es) [] pos) (cFF X.K (sCallFF g s)) := by
  obtain ⟨f, fd, hm, hk, hb, F⟩ := D.ex
  refine pe_of (pe_call F hr hg hm hk hb .nil pass0 ha hdb he hpl) fun σ H Q ⟨A, G, ρ, r, ρ', h, st, q⟩ => ?_
  obtain ⟨y, h1, h⟩ := bind_some h
  obtain ⟨z, h2, h⟩ := map_some h
  cases h
  refine ⟨A, G, ρ, y.1, y.2, h1, st, fun vs G1 H1 g1 st1 d1 => ?_⟩
  show spFF X.K g (vs ++ []) H1 Q E0
  rw [List.append_nil]
  refine ⟨G1, y.1, _, st1.gh, d1, h2, fun p F bs G2 H2 g2 gh2 fh2 dis2 B hnew x2 => ?_⟩
  -- the caller's frame, with the new lists
  have keepA : ∀ q o, A q = some o → F q = some o := fun q o eq => B.sub q o (by rw [rest0_of (st1.dis q o eq)]; exact st1.ah q o eq)
  obtain ⟨fp, s1⟩ := st1
  have atF : ∀ (j : Nat) (sv : SV), y.2[j]? = some sv → sv.isOwn = true → ∀ q ∈ fp j, F q = H1 q ∧ ∃ u, H1 q = some u := fun j sv hj k q hq => by
    obtain ⟨v, e, o⟩ := s1.own j sv hj k
    obtain ⟨u, hu⟩ := o.there q hq
    have eg := (s1.off j sv hj k q hq).1
    exact ⟨by rw [hu]; exact B.sub q u (by rw [rest0_of eg]; exact hu), u, hu⟩
  have nd2 := List.nodup_cons.mp B.nd
  let F' : Hp := fun q => if q ∈ p :: bs.map (·.1) then F q else A q
  have f1 : ∀ q, q ∈ p :: bs.map (·.1) → F' q = F q := fun q hq => if_pos hq
  have f2 : ∀ q, q ∉ p :: bs.map (·.1) → F' q = A q := fun q hq => if_neg hq
  have new1 : ∀ q, q ∈ p :: bs.map (·.1) → H1 q = none := fun q hq => hnew q (List.mem_cons.mp hq)
  have newA : ∀ q, q ∈ p :: bs.map (·.1) → A q = none := fun q hq => none_of_same s1.ah (new1 q hq)
  have F'F : ∀ q o, F' q = some o → F q = some o := fun q o eq => by
    by_cases hq : q ∈ p :: bs.map (·.1)
    · rw [f1 q hq] at eq
      exact eq
    · rw [f2 q hq] at eq
      exact keepA q o eq
  refine q p F' bs G2 H2 (g1.trans g2) ⟨fp, s1.len, gh2, fun q o eq => fh2 q o (F'F q o eq), fun q o eq => dis2 q o (F'F q o eq), fun i d hi => ?_, s1.raw, fun i sv hi k => ?_, fun i sv hi k q hq => ?_, s1.sep⟩ ⟨fun q o eq => ?_, ?_, fun b hb => ?_, newA p List.mem_cons_self, fun b hb => newA b.1 (List.mem_cons_of_mem _ (List.mem_map.mpr ⟨b, hb, rfl⟩)), B.nd⟩ x2
  · obtain ⟨v, e, y⟩ := s1.val i d hi
    exact ⟨v, e, dp_mono g2 _ _ y⟩
  · obtain ⟨v, e, o⟩ := s1.own i sv hi k
    refine ⟨v, e, o.keep g2 fun q hq => ?_⟩
    obtain ⟨e1, u, hu⟩ := atF i sv hi k q hq
    rw [hu]
    exact fh2 q u (by rw [e1]; exact hu)
  · obtain ⟨e1, u, hu⟩ := atF i sv hi k q hq
    have n1 : q ∉ p :: bs.map (·.1) := fun z => by
      rw [new1 q z] at hu
      cases hu
    refine ⟨dis2 q u (by rw [e1]; exact hu), ?_⟩
    rw [f2 q n1]
    exact (s1.off i sv hi k q hq).2
  · have n1 : q ∉ p :: bs.map (·.1) := fun z => by
      rw [newA q z] at eq
      cases eq
    rw [f2 q n1]
    exact eq
  · rw [f1 p List.mem_cons_self]
    exact B.lst
  · rw [f1 b.1 (List.mem_cons_of_mem _ (List.mem_map.mpr ⟨b, hb, rfl⟩))]
    exact B.at_ b hb
/-- for bag in bags: each turn owns its bag -/
def forBL (i : Nat) (b : SemS) : List (List PyData) → Rho → Option Out
  | [], ρ => some (.nx ρ)
  | d :: ds, ρ => (b (ρ.set i (.own d))).bind fun o => match o with
    | .nx ρ2 => forBL i b ds ρ2
    | .ct ρ2 => forBL i b ds ρ2
    | .bk ρ2 => some (.nx ρ2)
    | .rt d ρ2 => some (.rt d ρ2)
    | .rf d ρ2 => some (.rf d ρ2)
def sForB (it : SemLL) (i : Nat) (b : SemS) : SemS := fun ρ => (it ρ).bind fun x => forBL i b x.1 x.2
/-- a list of the frame is owned by a slot from now on -/
theorem StR.take {A : Hp} {σ : L2.St} {G H : Hp} {ρ : Rho} {i : Nat} {p : Addr} {xs : List V} {ds : List PyData} (st : StR K A σ G H ρ) (hp : A p = some (.lst xs)) (x : DpAll K G xs ds) :
    StR K (fun q => if q = p then none else A q) (σ.set i (some (.ref p))) G H (ρ.set i (.own ds)) := by
  obtain ⟨fp, s⟩ := st
  have notin : ∀ (j : Nat) (sv : SV), ρ[j]? = some sv → sv.isOwn = true → p ∉ fp j := fun j sv h k hm => by
    have := (s.off j sv h k p hm).2
    rw [hp] at this
    cases this
  have sub : ∀ q o, (if q = p then none else A q) = some o → A q = some o := fun q o e => by
    split at e
    · cases e
    · exact e
  refine ⟨fun j => if j = i then [p] else fp j, by rw [List.length_set, List.length_set]; exact s.len, s.gh, fun q o e => s.ah q o (sub q o e), fun q o e => s.dis q o (sub q o e), fun j e h => ?_, fun j w h => ?_, fun j sv h k => ?_, fun j sv h k q hq => ?_, fun j l sv sw h k h' k' n q hq => ?_⟩
  · rcases getElem_set_cases h with ⟨_, e2⟩ | ⟨n, h⟩
    · cases e2
    · rw [List.getElem?_set_ne n]
      exact s.val j e h
  · rcases getElem_set_cases h with ⟨_, e2⟩ | ⟨n, h⟩
    · cases e2
    · rw [List.getElem?_set_ne n]
      exact s.raw j w h
  · rcases getElem_set_cases h with ⟨e1, e2⟩ | ⟨n, h⟩
    · subst e1
      subst e2
      refine ⟨.ref p, set_get ?_, p, xs, rfl, if_pos rfl, s.ah p _ hp, x⟩
      rw [s.len]
      have := (List.getElem?_eq_some_iff.mp h).1
      simpa using this
    · rw [List.getElem?_set_ne n, if_neg (Ne.symm n)]
      exact s.own j sv h k
  · rcases getElem_set_cases h with ⟨e1, e2⟩ | ⟨n, h⟩
    · rw [if_pos e1.symm] at hq
      have e : q = p := by simpa using hq
      rw [e]
      exact ⟨s.dis p _ hp, if_pos rfl⟩
    · rw [if_neg (Ne.symm n)] at hq
      have w := s.off j sv h k q hq
      refine ⟨w.1, ?_⟩
      show (if q = p then none else A q) = none
      split
      · rfl
      · exact w.2
  · rcases getElem_set_cases h with ⟨e1, e2⟩ | ⟨n1, h⟩
    · rw [if_pos e1.symm] at hq
      have e : q = p := by simpa using hq
      rcases getElem_set_cases h' with ⟨e3, e4⟩ | ⟨n2, h'⟩
      · exact absurd (e1.symm.trans e3) n
      · show q ∉ (if l = i then [p] else fp l)
        rw [if_neg (Ne.symm n2), e]
        exact notin l sw h' k'
    · rw [if_neg (Ne.symm n1)] at hq
      rcases getElem_set_cases h' with ⟨e3, e4⟩ | ⟨n2, h'⟩
      · show q ∉ (if l = i then [p] else fp l)
        rw [if_pos e3.symm]
        intro z
        have e : q = p := by simpa using z
        rw [e] at hq
        exact notin j sv h k hq
      · show q ∉ (if l = i then [p] else fp l)
        rw [if_neg (Ne.symm n2)]
        exact s.sep j l sv sw h k h' k' n q hq
theorem StR.less {A B : Hp} {σ : L2.St} {G H : Hp} {ρ : Rho} (st : StR K B σ G H ρ) (h : Same A B) : StR K A σ G H ρ := by
  obtain ⟨fp, s⟩ := st
  exact ⟨fp, s.len, s.gh, h.trans s.ah, fun q o e => s.dis q o (h q o e), s.val, s.raw, s.own, fun i sv hi k q hq => ⟨(s.off i sv hi k q hq).1, none_of_same h (s.off i sv hi k q hq).2⟩, s.sep⟩
theorem js_forB (i : Nat) {x : Str} {px : Pos} {body : List Stmt} {it : SemLL} {s : SemS} (hN : X.N.Nodup) (hi : PE X iter (cFF X.K it)) (hb : PSs X body (cS X.K s)) (hc : X.calm = true) (n0 : i ≠ 0 := by decide) (hx : X.N[i]? = some x := by rfl) (hl : Loc X.env.scope x := by first | exact Or.inl rfl | exact Or.inr rfl)
    (hf : X.fn x = true ∨ X.env.scope.names.lookup x = some .local := by first | exact .inl rfl | exact .inr rfl | assumption) (hp : PassesOwn (model X.prog X.w) X.A X.env X.xe := by exact PassesOwn.never)
    (hs : ∀ x, foldedSetIterable iter X.env x = pure x := by intro _; rfl) : PS X (.For (.Name x px) iter body [] pos) (cS X.K (sForB it i s)) := by
  refine ps_of (ps_for hp hc (pi_list hi) (pg_name hN hx hl hf) hb hs) fun D σ H ⟨A, G, ρ, o, h, st, q⟩ => ?_
  obtain ⟨⟨rs, ρ1⟩, h1, h⟩ := bind_some h
  simp only at h
  refine ⟨A, G, ρ, rs, ρ1, h1, st, fun p F bs G1 H1 g1 st1 B x1 => ⟨p, rfl, ⟨_, SqL.of (st1.ah p _ B.lst)⟩, ?_⟩⟩
  have el := bagsAll_len x1
  let Fr : Nat → Hp := fun i q => if q ∈ (bs.take i).map (·.1) then none else F q
  have frp : ∀ i, Fr i p = F p := fun i => if_neg fun z => (List.nodup_cons.mp B.nd).1 (by
    obtain ⟨c, hc, ec⟩ := List.mem_map.mp z
    exact List.mem_map.mpr ⟨c, List.mem_of_mem_take hc, ec⟩)
  have frA : ∀ i, Same A (Fr i) := fun i q o eq => by
    have n : q ∉ (bs.take i).map (·.1) := fun z => by
      obtain ⟨c, hc, ec⟩ := List.mem_map.mp z
      have := B.new c (List.mem_of_mem_take hc)
      rw [ec, eq] at this
      cases this
    show (if _ then _ else _) = _
    rw [if_neg n]
    exact B.sub q o eq
  refine ⟨fun j m τ H => m = bs.length - j ∧ j ≤ bs.length ∧ τ[0]? = σ[0]? ∧ ∃ G2 ρ2, Same G1 G2 ∧ StR X.K (Fr j) τ G2 H ρ2 ∧ forBL i s (rs.drop j) ρ2 = some o, ⟨bs.length, rfl, Nat.zero_le _, rfl, G1, ρ1, Same.refl _, ?_, h⟩, ?_⟩
  · have e : Fr 0 = F := by
      funext q
      exact if_neg (by simp)
    rw [e]
    exact st1
  · rintro j m σ2 H2 ⟨rfl, hj, z2, G2, ρ2, g2, st2, hl2⟩
    have hlst : H2 p = some (.lst (bs.map fun b => .ref b.1)) := st2.ah p _ (by rw [frp]; exact B.lst)
    by_cases hlt : j < bs.length
    · refine .inr ?_
      have hlt2 : j < rs.length := by omega
      have ed : rs.drop j = rs[j] :: rs.drop (j + 1) := List.drop_eq_getElem_cons hlt2
      rw [ed] at hl2
      obtain ⟨o4, h4, hl2⟩ := bind_some hl2
      have gb : bs[j]? = some bs[j] := List.getElem?_eq_getElem hlt
      obtain ⟨d, hd, xd⟩ := bagsAll_get x1 gb
      have ed2 : d = rs[j] := Option.some.inj (hd.symm.trans (List.getElem?_eq_getElem hlt2))
      subst ed2
      have gm : (bs.map fun b => V.ref b.1)[j]? = some (.ref bs[j].1) := by
        rw [List.getElem?_map, gb]
        rfl
      have mem : bs[j] ∈ bs := List.getElem_mem hlt
      have notin : bs[j].1 ∉ (bs.take j).map (·.1) := fun z => by
        obtain ⟨c, hc, ec⟩ := List.mem_map.mp z
        obtain ⟨k, hk, ek⟩ := List.mem_iff_getElem.mp hc
        rw [List.length_take] at hk
        rw [List.getElem_take] at ek
        have n2 := (List.nodup_cons.mp B.nd).2
        have hk' : k < (bs.map (·.1)).length := by rw [List.length_map]; omega
        have hj' : j < (bs.map (·.1)).length := by rw [List.length_map]; omega
        have := (List.getElem_inj n2 (i := k) (j := j) (h₀ := hk') (h₁ := hj')).mp (by rw [List.getElem_map, List.getElem_map, ek]; exact ec)
        omega
      have frb : Fr j bs[j].1 = some (.lst bs[j].2) := by
        show (if _ then _ else _) = _
        rw [if_neg notin]
        exact B.at_ _ mem
      refine ⟨⟨_, _, SqL.of hlst, gm⟩, fun τ H' => ∃ m', m' < bs.length - j ∧ (m' = bs.length - (j + 1) ∧ j + 1 ≤ bs.length ∧ τ[0]? = σ[0]? ∧ ∃ G2 ρ2, Same G1 G2 ∧ StR X.K (Fr (j + 1)) τ G2 H' ρ2 ∧ forBL i s (rs.drop (j + 1)) ρ2 = some o), fun τ H' hn => hn, fun v H3 hy => ?_⟩
      obtain ⟨e1, e2⟩ := hy
      subst e1
      have ev : v = .ref bs[j].1 := Option.some.inj ((e2 _ (SqL.of hlst)).symm.trans gm)
      subst ev
      have st3 := st2.take (i := i) frb (dpA_mono g2 _ _ xd)
      have eFr : (fun q => if q = bs[j].1 then none else Fr j q) = Fr (j + 1) := by
        funext q
        show (if q = bs[j].1 then none else if q ∈ (bs.take j).map (·.1) then none else F q) = if q ∈ (bs.take (j + 1)).map (·.1) then none else F q
        have et : (bs.take (j + 1)).map (·.1) = (bs.take j).map (·.1) ++ [bs[j].1] := by
          rw [List.take_succ, gb, List.map_append]
          rfl
        rw [et]
        by_cases c1 : q = bs[j].1
        · rw [if_pos c1, if_pos (List.mem_append_right _ (List.mem_singleton.mpr c1))]
        · rw [if_neg c1]
          by_cases c2 : q ∈ (bs.take j).map (·.1)
          · rw [if_pos c2, if_pos (List.mem_append_left _ c2)]
          · rw [if_neg c2, if_neg fun z => (List.mem_append.mp z).elim c2 fun z => c1 (List.mem_singleton.mp z)]
      rw [eFr] at st3
      refine ⟨Fr (j + 1), G2, _, o4, h4, st3, ?_⟩
      have z3 : (σ2.set i (some (V.ref bs[j].1)))[0]? = σ[0]? := (set0_ne n0).trans z2
      cases o4 with
      | nx ρ4 => exact fun σ4 G4 H4 z4 g4 st4 => ⟨bs.length - (j + 1), by omega, rfl, hlt, z4.trans z3, G4, ρ4, g2.trans g4, st4, hl2⟩
      | ct ρ4 => exact fun σ4 G4 H4 z4 g4 st4 => ⟨bs.length - (j + 1), by omega, rfl, hlt, z4.trans z3, G4, ρ4, g2.trans g4, st4, hl2⟩
      | bk ρ4 =>
        cases hl2
        exact fun σ4 G4 H4 z4 g4 st4 => q σ4 G4 H4 (z4.trans z3) ((g1.trans g2).trans g4) (st4.less (frA _))
      | rt d ρ4 =>
        cases hl2
        exact fun v σ4 G4 H4 z4 g4 st4 x4 => q v σ4 G4 H4 (z4.trans z3) ((g1.trans g2).trans g4) (st4.less (frA _)) x4
      | rf d ρ4 =>
        cases hl2
        exact fun p xs σ4 G4 H4 z4 g4 st4 hp x4 => q p xs σ4 G4 H4 (z4.trans z3) ((g1.trans g2).trans g4) (st4.less (frA _)) hp x4
    · have ej : j = bs.length := by omega
      rw [ej, el, List.drop_length] at hl2
      cases hl2
      exact .inl ⟨⟨_, SqL.of hlst, by rw [List.length_map]; omega⟩, q σ2 G2 H2 z2 (g1.trans g2) (st2.less (frA _))⟩
/-! ## a module's int, by its value alone -/
theorem je_gintE {x : Str} {i : Int} {pos : Pos} (hg : Gl X x) (hm : ∃ t, X.mg x = some (.int i t)) (hd : (x == ("__debug__" : Str)) = false := by decide) : PE X (.Name x pos) (cE X.K (sC (.int i))) :=
  let ⟨_, h⟩ := hm
  je_gint hg h hd
end
end Lay

namespace Lw
open PySem PySem.Spec PyProof.Rows L2 Lay
/-! ### is_integer -/
def b_is_integer : SemS := (sRet (sAndV (sIsi dInt (sVar 0)) (sAndV (sNotV (sIsi dBool (sVar 0))) (sChain pLe pLe (sVar 1) (sVar 0) (sVar 2)))))
def g_is_integer : List PyData → Option PyData := runD 3 3 b_is_integer
/-! ### is_row -/
def b_is_row : SemS := (sSeq (sIf (sOrT (sNotT (sTst (sIsi dTup (sVar 0)))) (sTst (sBin pNe (sCall pLen (sCons (sVar 0) sNil)) (sC (.int 2))))) (sRet (sC (.bool false))) sSkip) (sRet (sAndV (sCall g_is_integer (sCons (sBin pIdx (sVar 0) (sC (.int 0))) (sCons (sC (.int 1)) (sCons (sBin pSub (sC (.int 96)) (sC (.int 1))) sNil)))) (sCall g_is_integer (sCons (sBin pIdx (sVar 0) (sC (.int 1))) (sCons (sC (.int 0)) (sCons (sC (.int 1000000)) sNil)))))))
def g_is_row : List PyData → Option PyData := runD 1 1 b_is_row
/-! ### are_rows -/
def b_are_rows : SemS := (sSeq (sIf (sOrT (sNotT (sTst (sIsi dTup (sVar 0)))) (sOrT (sTst (sBin pGt (sCall pLen (sCons (sVar 0) sNil)) (sC (.int 4)))) (sNotT (sTst (sCall pAll (sCons (sL (sLc [1] (iSeq (sVar 0)) (gN 1) tYesS (sCall g_is_row (sCons (sVar 1) sNil)))) sNil)))))) (sRet (sC (.bool false))) sSkip) (sRet (sCall pAll (sCons (sL (sLc [2, 3] (iZipS (sVar 0) (sSlice (sVar 0) (sPart (sC (.int 1))) sNoP)) (gT 2 (tgCons (gN 2) (tgCons (gN 3) tgNil))) tYesS (sAndV (sBin pLt (sBin pIdx (sVar 2) (sC (.int 0))) (sBin pIdx (sVar 3) (sC (.int 0)))) (sBin pLe (sBin pIdx (sVar 2) (sC (.int 1))) (sBin pIdx (sVar 3) (sC (.int 1))))))) sNil))))
def g_are_rows : List PyData → Option PyData := runD 1 4 b_are_rows
/-! ### is_tariff -/
def b_is_tariff : SemS := (sSeq (sIf (sOrT (sNotT (sTst (sIsi dTup (sVar 0)))) (sTst (sBin pNe (sCall pLen (sCons (sVar 0) sNil)) (sC (.int 5))))) (sRet (sC (.bool false))) sSkip) (sSeq (sUnp (gT 5 (tgCons (gN 1) (tgCons (gN 2) (tgCons (gN 3) (tgCons (gN 4) (tgCons (gN 5) tgNil)))))) (sVar 0)) (sSeq (sIf (sOrT (sNotT (sTst (sCall g_is_integer (sCons (sVar 1) (sCons (sC (.int 0)) (sCons (sC (.int 96)) sNil)))))) (sOrT (sNotT (sTst (sCall g_are_rows (sCons (sVar 2) sNil)))) (sNotT (sTst (sCall g_is_integer (sCons (sVar 3) (sCons (sC (.int 1)) (sCons (sC (.int 96)) sNil)))))))) (sRet (sC (.bool false))) sSkip) (sRet (sAndV (sCall g_is_integer (sCons (sVar 4) (sCons (sC (.int 0)) (sCons (sC (.int 1000000)) sNil)))) (sOrV (sBin pIsN (sVar 5) (sC .none)) (sCall g_is_integer (sCons (sVar 5) (sCons (sC (.int 0)) (sCons (sC (.int 1000000)) sNil))))))))))
def g_is_tariff : List PyData → Option PyData := runD 1 6 b_is_tariff
/-! ### need_tariff -/
def b_need_tariff : SemS := (sIf (sNotT (sTst (sCall g_is_tariff (sCons (sVar 0) sNil)))) sStuck sSkip)
def g_need_tariff : List PyData → Option PyData := runD 1 1 b_need_tariff
/-! ### need_length -/
def b_need_length : SemS := (sIf (sNotT (sTst (sCall g_is_integer (sCons (sVar 0) (sCons (sC (.int 0)) (sCons (sC (.int 1000000000000000)) sNil)))))) sStuck sSkip)
def g_need_length : List PyData → Option PyData := runD 1 1 b_need_length
/-! ### day_price -/
def b_day_price_l9 : SemS := (sSeq (sIf (sTst (sBin pLe (sVar 1) (sVar 9))) (sRet (sIfE (sTst (sBin pIsN (sVar 6) (sC .none))) (sVar 10) (sCall pMin2 (sCons (sVar 6) (sCons (sVar 10) sNil))))) sSkip) (sPar 7 8 (sVar 9) (sVar 10)))
def b_day_price : SemS := (sSeq (sUnp (gT 5 (tgCons (gN 2) (tgCons (gN 3) (tgCons (gN 4) (tgCons (gN 5) (tgCons (gN 6) tgNil)))))) (sVar 0)) (sSeq (sIf (sTst (sBin pLe (sVar 1) (sVar 2))) (sRet (sC (.int 0))) sSkip) (sSeq (sUnp (gT 2 (tgCons (gN 7) (tgCons (gN 8) tgNil))) (sTup (sCons (sC (.int 0)) (sCons (sC (.int 0)) sNil)))) (sSeq (sFor (iSeq (sVar 3)) (gT 2 (tgCons (gN 9) (tgCons (gN 10) tgNil))) b_day_price_l9) (sSeq (sSet 8 (sBin pAdd (sVar 8) (sBin pMul (sVar 5) (sBin pFdiv (sBin pSub (sBin pAdd (sBin pSub (sVar 1) (sVar 7)) (sVar 4)) (sC (.int 1))) (sVar 4))))) (sRet (sIfE (sTst (sBin pIsN (sVar 6) (sC .none))) (sVar 8) (sCall pMin2 (sCons (sVar 6) (sCons (sVar 8) sNil))))))))))
def g_day_price : List PyData → Option PyData := runD 2 11 b_day_price
/-! ### stay_price -/
def b_stay_price : SemS := (sSeq (sIf (sTst (sBin pEq (sVar 1) (sC (.int 0)))) (sRet (sC (.int 0))) sSkip) (sSeq (sSet 2 (sBin pFdiv (sBin pSub (sVar 1) (sC (.int 1))) (sC (.int 96)))) (sRet (sBin pAdd (sBin pMul (sVar 2) (sCall g_day_price (sCons (sVar 0) (sCons (sC (.int 96)) sNil)))) (sCall g_day_price (sCons (sVar 0) (sCons (sBin pSub (sVar 1) (sBin pMul (sVar 2) (sC (.int 96)))) sNil)))))))
def g_stay_price : List PyData → Option PyData := runD 2 3 b_stay_price
/-! ### price -/
def b_price : SemS := (sSeq (sDrop (sCall g_need_tariff (sCons (sVar 0) sNil))) (sSeq (sDrop (sCall g_need_length (sCons (sVar 1) sNil))) (sRet (sCall g_stay_price (sCons (sVar 0) (sCons (sVar 1) sNil))))))
def g_price : List PyData → Option PyData := runD 2 2 b_price
/-! ### level_list -/
def b_level_list_l2 : SemS := (sSeq (sSet 3 (sCall g_day_price (sCons (sVar 0) (sCons (sVar 2) sNil)))) (sIf (sBorT 1 (sAndT (sTst (sBin pNe (sVar 1) (sL (sLst sNil)))) (sTst (sBin pEq (sBin pIdx (sBin pIdx (sVar 1) (sNeg (sC (.int 1)))) (sC (.int 1))) (sVar 3))))) (sSetIx 1 (sNeg (sC (.int 1))) (sTup (sCons (sVar 2) (sCons (sVar 3) sNil)))) (sApp 1 (sTup (sCons (sVar 2) (sCons (sVar 3) sNil))))))
def b_level_list : SemS := (sSeq (sSetF 1 (sLst sNil)) (sSeq (sFor (iRange2 (sC (.int 1)) (sBin pAdd (sC (.int 96)) (sC (.int 1)))) (gN 2) b_level_list_l2) (sRetO 1)))
def g_level_list : List PyData → Option (List PyData) := runF 1 4 b_level_list
/-! ### levels -/
def b_levels : SemS := (sSeq (sDrop (sCall g_need_tariff (sCons (sVar 0) sNil))) (sRetF (sCallF g_level_list (sCons (sVar 0) sNil))))
def g_levels : List PyData → Option (List PyData) := runF 1 1 b_levels
/-! ### _law_cell_at -/
def b_law_cell_at : SemS := (sSeq (sIf (sTst (sBin pLt (sVar 1) (sCall pLen (sCons (sVar 0) sNil)))) (sRet (sBin pIdx (sVar 0) (sVar 1))) sSkip) (sRet (sC (.int 0))))
def g_law_cell_at : List PyData → Option PyData := runD 2 2 b_law_cell_at
/-! ### _law_draws -/
def b_law_draws_l6 : SemS := (sSeq (sSet 5 (sBin pMod (sBin pAdd (sBin pAdd (sBin pAdd (sBin pMul (sVar 5) (sVar 5)) (sBin pMul (sC (.int 48271)) (sVar 5))) (sVar 6)) (sC (.int 1))) (sC (.int 2305843009213693951)))) (sIf (sAndT (sTst (sBin pGt (sVar 6) (sC (.int 2)))) (sTst (sBin pGt (sVar 4) (sC (.int 0))))) (sSeq (sApp 3 (sBin pMod (sVar 4) (sVar 2))) (sSet 4 (sBin pFdiv (sVar 4) (sVar 2)))) (sIf (sTst (sBin pGt (sVar 6) (sC (.int 2)))) (sApp 3 (sBin pMod (sBin pFdiv (sVar 5) (sC (.int 4096))) (sVar 2))) sSkip)))
def b_law_draws : SemS := (sSeq (sSetF 3 (sLst sNil)) (sSeq (sSet 4 (sBin pMul (sVar 0) (sCall pInt (sCons (sBin pGe (sVar 0) (sBin pPow (sC (.int 10)) (sC (.int 18)))) sNil)))) (sSeq (sSet 5 (sBin pMod (sVar 0) (sC (.int 2305843009213693951)))) (sSeq (sFor (iRange1 (sBin pAdd (sVar 1) (sC (.int 3)))) (gN 6) b_law_draws_l6) (sRetO 3)))))
def g_law_draws : List PyData → Option PyData := runD 3 7 b_law_draws
/-! ### _law_bag -/
def b_law_bag : SemS := (sRetF (sLst (sCons (sCall g_law_draws (sCons (sCall g_law_cell_at (sCons (sVar 0) (sCons (sVar 1) sNil))) (sCons (sC (.int 400)) (sCons (sC (.int 1000)) sNil)))) (sCons (sC (.int 0)) sNil))))
def g_law_bag : List PyData → Option (List PyData) := runF 2 2 b_law_bag
/-! ### _law_bags -/
def b_law_bags : SemLL := (sLcF [2] (iRange1 (sCall pMax2 (sCons (sC (.int 1)) (sCons (sCall pMin2 (sCons (sVar 1) (sCons (sCall pLen (sCons (sVar 0) sNil)) sNil))) sNil)))) (gN 2) (sCallF g_law_bag (sCons (sVar 0) (sCons (sVar 2) sNil))))
def g_law_bags : List PyData → Option (List (List PyData)) := runFF 2 3 b_law_bags
/-! ### _law_take -/
def b_law_take : SemS := (sSeq (sSetIx 0 (sC (.int 1)) (sBin pAdd (sOwnIx 0 (sC (.int 1))) (sC (.int 1)))) (sRet (sBin pMod (sBin pIdx (sOwnIx 0 (sC (.int 0))) (sBin pMod (sOwnIx 0 (sC (.int 1))) (sCall pLen (sCons (sOwnIx 0 (sC (.int 0))) sNil)))) (sVar 1))))
def g_law_take : List PyData → List PyData → Option (PyData × List PyData) := runB 2 2 b_law_take
/-! ### _law_tariff -/
def b_law_tariff_l6 : SemS := (sSeq (sSet 5 (sBin pAdd (sVar 5) (sBin pIdx (sL (sLst (sCons (sC (.int 0)) (sCons (sCallB g_law_take 0 (sCons (sVar 1) sNil)) (sCons (sBin pFdiv (sVar 1) (sC (.int 2))) sNil))))) (sCallB g_law_take 0 (sCons (sC (.int 3)) sNil))))) (sSet 4 (sBin pAdd (sVar 4) (sTup (sCons (sTup (sCons (sVar 6) (sCons (sVar 5) sNil))) sNil)))))
def b_law_tariff : SemS := (sSeq (sSet 2 (sL (sSortSet (sL (sLc [3] (iRange1 (sCallB g_law_take 0 (sCons (sC (.int 5)) sNil))) (gN 3) tYesS (sBin pAdd (sC (.int 1)) (sCallB g_law_take 0 (sCons (sBin pIdx (sL (sLst (sCons (sC (.int 8)) (sCons (sC (.int 95)) sNil)))) (sCallB g_law_take 0 (sCons (sC (.int 2)) sNil))) sNil)))))))) (sSeq (sUnp (gT 2 (tgCons (gN 4) (tgCons (gN 5) tgNil))) (sTup (sCons (sTup sNil) (sCons (sC (.int 0)) sNil)))) (sSeq (sFor (iSeq (sVar 2)) (gN 6) b_law_tariff_l6) (sSeq (sSet 7 (sBin pIdx (sL (sLst (sCons (sC (.int 0)) (sCons (sC (.int 0)) (sCons (sC (.int 0)) (sCons (sCallB g_law_take 0 (sCons (sC (.int 5)) sNil)) (sCons (sCallB g_law_take 0 (sCons (sC (.int 97)) sNil)) sNil))))))) (sCallB g_law_take 0 (sCons (sC (.int 5)) sNil)))) (sSeq (sSet 8 (sBin pAdd (sC (.int 1)) (sCallB g_law_take 0 (sCons (sBin pIdx (sL (sLst (sCons (sC (.int 4)) (sCons (sC (.int 96)) sNil)))) (sCallB g_law_take 0 (sCons (sC (.int 2)) sNil))) sNil)))) (sSeq (sSet 9 (sBin pIdx (sL (sLst (sCons (sC .none) (sCons (sBin pAdd (sVar 5) (sCallB g_law_take 0 (sCons (sBin pMul (sC (.int 3)) (sVar 1)) sNil))) (sCons (sCallB g_law_take 0 (sCons (sBin pAdd (sBin pMul (sC (.int 4)) (sVar 1)) (sC (.int 1))) sNil)) sNil))))) (sCallB g_law_take 0 (sCons (sC (.int 3)) sNil)))) (sRet (sTup (sCons (sVar 7) (sCons (sVar 4) (sCons (sVar 8) (sCons (sBin pIdx (sL (sLst (sCons (sC (.int 0)) (sCons (sCallB g_law_take 0 (sCons (sVar 1) sNil)) (sCons (sBin pAdd (sC (.int 1)) (sCallB g_law_take 0 (sCons (sVar 1) sNil))) sNil))))) (sCallB g_law_take 0 (sCons (sC (.int 3)) sNil))) (sCons (sVar 9) sNil)))))))))))))
def g_law_tariff : List PyData → List PyData → Option (PyData × List PyData) := runB 2 10 b_law_tariff
/-! ### _law_day -/
def b_law_day_w : SemS := (sPar 10 9 (sBin pAdd (sVar 10) (sVar 4)) (sBin pAdd (sVar 9) (sVar 5)))
def b_law_day : SemS := (sSeq (sUnp (gT 5 (tgCons (gN 2) (tgCons (gN 3) (tgCons (gN 4) (tgCons (gN 5) (tgCons (gN 6) tgNil)))))) (sVar 0)) (sSeq (sIf (sTst (sBin pLe (sVar 1) (sVar 2))) (sRet (sC (.int 0))) sSkip) (sSeq (sSet 7 (sL (sLc [8, 9] (iSeq (sVar 3)) (gT 2 (tgCons (gN 8) (tgCons (gN 9) tgNil))) (sTst (sBin pLe (sVar 1) (sVar 8))) (sVar 9)))) (sSeq (sIf (sTst (sBin pNe (sVar 7) (sL (sLst sNil)))) (sSet 9 (sBin pIdx (sVar 7) (sC (.int 0)))) (sSeq (sUnp (gT 2 (tgCons (gN 10) (tgCons (gN 9) tgNil))) (sIfE (sTst (sBin pNe (sVar 3) (sTup sNil))) (sBin pIdx (sVar 3) (sNeg (sC (.int 1)))) (sTup (sCons (sC (.int 0)) (sCons (sC (.int 0)) sNil))))) (sWhile 100000 (sTst (sBin pLt (sVar 10) (sVar 1))) b_law_day_w))) (sRet (sIfE (sOrT (sTst (sBin pIsN (sVar 6) (sC .none))) (sTst (sBin pLe (sVar 9) (sVar 6)))) (sVar 9) (sVar 6)))))))
def g_law_day : List PyData → Option PyData := runD 2 11 b_law_day
/-! ### _law_price -/
def b_law_price : SemS := (sSeq (sIf (sTst (sBin pEq (sVar 1) (sC (.int 0)))) (sRet (sC (.int 0))) sSkip) (sSeq (sSet 2 (sIfE (sTst (sBin pGt (sBin pMod (sVar 1) (sC (.int 96))) (sC (.int 0)))) (sBin pMod (sVar 1) (sC (.int 96))) (sC (.int 96)))) (sRet (sBin pAdd (sBin pMul (sBin pFdiv (sBin pSub (sVar 1) (sVar 2)) (sC (.int 96))) (sCall g_law_day (sCons (sVar 0) (sCons (sC (.int 96)) sNil)))) (sCall g_law_day (sCons (sVar 0) (sCons (sVar 2) sNil)))))))
def g_law_price : List PyData → Option PyData := runD 2 3 b_law_price
/-! ### _law_prices -/
def b_law_prices : SemS := (sRetF (sLc [1] (iRange2 (sC (.int 1)) (sC (.int 97))) (gN 1) tYesS (sCall g_law_day (sCons (sVar 0) (sCons (sVar 1) sNil)))))
def g_law_prices : List PyData → Option PyData := runD 1 2 b_law_prices
/-! ### law -/
def b_law_l4 : SemS := (sIf (sTst (sBin pNe (sCall g_price (sCons (sVar 2) (sCons (sVar 4) sNil))) (sCall g_law_price (sCons (sVar 2) (sCons (sVar 4) sNil))))) (sRet (sC (.bool false))) sSkip)
def b_law_l6 : SemS := (sIf (sOrT (sTst (sBin pEq (sVar 6) (sC (.int 95)))) (sTst (sBin pNe (sBin pIdx (sVar 3) (sBin pAdd (sVar 6) (sC (.int 1)))) (sVar 7)))) (sApp 5 (sTup (sCons (sBin pAdd (sVar 6) (sC (.int 1))) (sCons (sVar 7) sNil)))) sSkip)
def b_law_l1 : SemS := (sSeq (sSet 2 (sCallB g_law_tariff 1 (sCons (sBin pIdx (sL (sLst (sCons (sC (.int 6)) (sCons (sC (.int 900)) sNil)))) (sCallB g_law_take 1 (sCons (sC (.int 2)) sNil))) sNil))) (sSeq (sSet 3 (sCall g_law_prices (sCons (sVar 2) sNil))) (sSeq (sFor (iRange1 (sC (.int 290))) (gN 4) b_law_l4) (sSeq (sSetF 5 (sLst sNil)) (sSeq (sFor (iEnumS (sVar 3)) (gT 2 (tgCons (gN 6) (tgCons (gN 7) tgNil))) b_law_l6) (sSeq (sSetF 8 (sCallF g_levels (sCons (sVar 2) sNil))) (sSeq (sFrz 5) (sSeq (sIf (sBorT 8 (sOrT (sTst (sBin pNe (sVar 8) (sVar 5))) (sNotT (sTst (sIsi dLst (sVar 8)))))) (sRet (sC (.bool false))) sSkip) (sSeq (sApp 8 (sC (.int 0))) (sIf (sTst (sBin pNe (sL (sCallF g_levels (sCons (sVar 2) sNil))) (sVar 5))) (sRet (sC (.bool false))) sSkip))))))))))
def b_law : SemS := (sSeq (sForB (sCallFF g_law_bags (sCons (sVar 0) (sCons (sC (.int 10)) sNil))) 1 b_law_l1) (sSeq (sSet 2 (sTup (sCons (sC (.int 1)) (sCons (sTup (sCons (sTup (sCons (sC (.int 4)) (sCons (sC (.int 300)) sNil))) (sCons (sTup (sCons (sC (.int 8)) (sCons (sC (.int 500)) sNil))) sNil))) (sCons (sC (.int 4)) (sCons (sC (.int 100)) (sCons (sC (.int 900)) sNil))))))) (sSeq (sIf (sTst (sBin pNe (sL (sCallF g_levels (sCons (sVar 2) sNil))) (sL (sLst (sCons (sTup (sCons (sC (.int 1)) (sCons (sC (.int 0)) sNil))) (sCons (sTup (sCons (sC (.int 4)) (sCons (sC (.int 300)) sNil))) (sCons (sTup (sCons (sC (.int 8)) (sCons (sC (.int 500)) sNil))) (sCons (sTup (sCons (sC (.int 12)) (sCons (sC (.int 600)) sNil))) (sCons (sTup (sCons (sC (.int 16)) (sCons (sC (.int 700)) sNil))) (sCons (sTup (sCons (sC (.int 20)) (sCons (sC (.int 800)) sNil))) (sCons (sTup (sCons (sC (.int 96)) (sCons (sC (.int 900)) sNil))) sNil))))))))))) (sRet (sC (.bool false))) sSkip) (sSeq (sIf (sOrT (sTst (sBin pNe (sCall g_price (sCons (sVar 2) (sCons (sC (.int 97)) sNil))) (sC (.int 900)))) (sOrT (sTst (sBin pNe (sCall g_price (sCons (sVar 2) (sCons (sC (.int 98)) sNil))) (sC (.int 1200)))) (sTst (sBin pNe (sCall g_price (sCons (sVar 2) (sCons (sC (.int 0)) sNil))) (sC (.int 0)))))) (sRet (sC (.bool false))) sSkip) (sSeq (sIf (sTst (sBin pNe (sCall g_price (sCons (sVar 2) (sCons (sC (.int 96)) sNil))) (sC (.int 900)))) (sRet (sC (.bool false))) sSkip) (sRet (sAndV (sBin pEq (sCall g_price (sCons (sTup (sCons (sC (.int 3)) (sCons (sTup (sCons (sTup (sCons (sC (.int 2)) (sCons (sC (.int 5)) sNil))) sNil)) (sCons (sC (.int 4)) (sCons (sC (.int 1)) (sCons (sC .none) sNil)))))) (sCons (sC (.int 3)) sNil))) (sC (.int 0))) (sBin pEq (sCall g_price (sCons (sTup (sCons (sC (.int 0)) (sCons (sTup (sCons (sTup (sCons (sC (.int 4)) (sCons (sC (.int 9)) sNil))) sNil)) (sCons (sC (.int 96)) (sCons (sC (.int 7)) (sCons (sC (.int 5)) sNil)))))) (sCons (sC (.int 1)) sNil))) (sC (.int 5))))))))))
def g_law : List PyData → Option PyData := runD 1 9 b_law
end Lw

namespace Lay
open PySem PySem.Spec PyProof.Rows L2
theorem bind_ite {α β : Type} {c : Prop} [Decidable c] (a b : Option α) (f : α → Option β) : (if c then a else b).bind f = if c then a.bind f else b.bind f := by split <;> rfl
theorem map_ite {α β : Type} {c : Prop} [Decidable c] (a b : Option α) (f : α → β) : (if c then a else b).map f = if c then a.map f else b.map f := by split <;> rfl

/-! ## loops, comprehensions, as plain lists -/
theorem lcL_pure {vs : List Nat} {g : SemG} {c : SemT} {s : Sem1} {ρ0 : Rho} (k : PyData → Bool) (f : PyData → PyData) : ∀ (ds : List PyData),
    (∀ d ∈ ds, ∃ ρ1, g d ρ0 = some ρ1 ∧ c ρ1 = some (k d, ρ1) ∧ (k d = true → s ρ1 = some (f d, ρ1)) ∧ wipeR ρ1 vs = ρ0) → lcL vs g c s ds ρ0 = some ((ds.filter k).map f, ρ0)
  | [], _ => rfl
  | d :: ds, h => by
    obtain ⟨ρ1, h1, h2, h3, h4⟩ := h d List.mem_cons_self
    have ih := lcL_pure k f ds fun e he => h e (List.mem_cons_of_mem _ he)
    unfold lcL
    rw [h1]
    show (c ρ1).bind _ = _
    rw [h2]
    show (if k d = true then _ else _) = _
    cases hk : k d with
    | true =>
      rw [if_pos rfl, h3 hk]
      show (lcL vs g c s ds (wipeR ρ1 vs)).map _ = _
      rw [h4, ih, List.filter_cons_of_pos hk]
      rfl
    | false =>
      rw [if_neg Bool.false_ne_true]
      show lcL vs g c s ds (wipeR ρ1 vs) = _
      rw [h4, ih, List.filter_cons_of_neg (by rw [hk]; exact Bool.false_ne_true)]
/-- no test -/
theorem lcL_map {vs : List Nat} {g : SemG} {s : Sem1} {ρ0 : Rho} (f : PyData → PyData) (ds : List PyData)
    (h : ∀ d ∈ ds, ∃ ρ1, g d ρ0 = some ρ1 ∧ s ρ1 = some (f d, ρ1) ∧ wipeR ρ1 vs = ρ0) : lcL vs g tYesS s ds ρ0 = some (ds.map f, ρ0) := by
  rw [lcL_pure (fun _ => true) f ds fun d hd => ?_]
  · rw [List.filter_eq_self.mpr fun _ _ => rfl]
  · obtain ⟨ρ1, h1, h2, h3⟩ := h d hd
    exact ⟨ρ1, h1, rfl, fun _ => h2, h3⟩
theorem forL_nx {g : SemG} {b : SemS} (I : Nat → Rho → Prop) : ∀ (ds : List PyData) (n : Nat) (ρ : Rho), I n ρ →
    (∀ i d ρ, ds[i]? = some d → I (n + i) ρ → ∃ ρ1 ρ2, g d ρ = some ρ1 ∧ (b ρ1 = some (.nx ρ2) ∨ b ρ1 = some (.ct ρ2)) ∧ I (n + i + 1) ρ2) → ∃ ρ', forL g b ds ρ = some (.nx ρ') ∧ I (n + ds.length) ρ'
  | [], n, ρ, h0, _ => ⟨ρ, rfl, h0⟩
  | d :: ds, n, ρ, h0, hs => by
    obtain ⟨ρ1, ρ2, h1, h2, h3⟩ := hs 0 d ρ rfl h0
    obtain ⟨ρ', h4, h5⟩ := forL_nx I ds (n + 1) ρ2 h3 fun i e τ he hi => by
      have := hs (i + 1) e τ (by rw [List.getElem?_cons_succ]; exact he) (by rw [show n + (i + 1) = n + 1 + i by omega]; exact hi)
      rw [show n + (i + 1) + 1 = n + 1 + i + 1 by omega] at this
      exact this
    refine ⟨ρ', ?_, by rw [List.length_cons, show n + (ds.length + 1) = n + 1 + ds.length by omega]; exact h5⟩
    unfold forL
    rw [h1]
    show (b ρ1).bind _ = _
    rcases h2 with h2 | h2 <;> (rw [h2]; exact h4)
/-- the state behind each turn is given -/
theorem forL_to {g : SemG} {b : SemS} (R : Nat → Rho) (ds : List PyData) (h : ∀ i d, ds[i]? = some d → ∃ ρ1, g d (R i) = some ρ1 ∧ b ρ1 = some (.nx (R (i + 1)))) : forL g b ds (R 0) = some (.nx (R ds.length)) := by
  obtain ⟨ρ', h1, h2⟩ := forL_nx (g := g) (b := b) (fun i ρ => ρ = R i) ds 0 (R 0) rfl fun i d ρ hd hi => by
    obtain ⟨ρ1, h3, h4⟩ := h i d hd
    subst hi
    rw [Nat.zero_add]
    exact ⟨ρ1, _, h3, .inl h4, rfl⟩
  rw [h1, h2, Nat.zero_add]
theorem forBL_nx {i : Nat} {b : SemS} (I : Rho → Prop) (Bg : List PyData → Prop) : ∀ (ds : List (List PyData)) (ρ : Rho), I ρ → (∀ d ∈ ds, Bg d) → (∀ d ρ, Bg d → I ρ → ∃ ρ2, (b (ρ.set i (.own d)) = some (.nx ρ2)) ∧ I ρ2) → ∃ ρ', forBL i b ds ρ = some (.nx ρ') ∧ I ρ'
  | [], ρ, h0, _, _ => ⟨ρ, rfl, h0⟩
  | d :: ds, ρ, h0, hb, hs => by
    obtain ⟨ρ2, h1, h2⟩ := hs d ρ (hb d List.mem_cons_self) h0
    obtain ⟨ρ', h3, h4⟩ := forBL_nx I Bg ds ρ2 h2 (fun e he => hb e (List.mem_cons_of_mem _ he)) hs
    refine ⟨ρ', ?_, h4⟩
    unfold forBL
    rw [h1]
    exact h3
/-- a while that ends: state by state -/
theorem while_to {c : SemT} {b : SemS} (R : Nat → Rho) : ∀ (m n : Nat), m < n → (∀ i, i < m → ∃ ρ1, c (R i) = some (true, ρ1) ∧ b ρ1 = some (.nx (R (i + 1)))) → (∃ ρ1, c (R m) = some (false, ρ1) ∧ ρ1 = R m) → whileN c b n (R 0) = some (.nx (R m)) := by
  intro m n hmn hs he
  have go : ∀ (k j : Nat), j + k = m → ∀ n', k < n' → whileN c b n' (R j) = some (.nx (R m)) := by
    intro k
    induction k with
    | zero =>
      intro j hj n' hn
      cases n' with
      | zero => omega
      | succ n' =>
        obtain ⟨ρ1, h1, h2⟩ := he
        have ej : j = m := by omega
        subst ej
        unfold whileN
        rw [h1, h2]
        rfl
    | succ k ih =>
      intro j hj n' hn
      cases n' with
      | zero => omega
      | succ n' =>
        obtain ⟨ρ1, h1, h2⟩ := hs j (by omega)
        unfold whileN
        rw [h1]
        show (b ρ1).bind _ = _
        rw [h2]
        exact ih (j + 1) (by omega) n' (by omega)
  exact go m 0 (by omega) n hmn

/-! ## data -/
theorem pEq_int (i j : Int) : pEq (.int i) (.int j) = some (.bool (i == j)) := rfl
theorem pNe_int (i j : Int) : pNe (.int i) (.int j) = some (.bool (!(i == j))) := rfl
mutual
def noDicts : PyData → Bool
  | .list xs => noDictsAll xs
  | .tuple xs => noDictsAll xs
  | .dict _ => false
  | _ => true
def noDictsAll : List PyData → Bool
  | [] => true
  | x :: xs => noDicts x && noDictsAll xs
end
mutual
theorem eqv_refl : ∀ d : PyData, noDicts d = true → PyData.eqv d d = true
  | .none, _ => rfl
  | .bool b, _ => by simp [PyData.eqv]
  | .int i, _ => by simp [PyData.eqv]
  | .str s, _ => by simp [PyData.eqv]
  | .list xs, h => by
    show PyData.eqvAll xs xs = true
    exact eqvAll_refl xs h
  | .tuple xs, h => by
    show PyData.eqvAll xs xs = true
    exact eqvAll_refl xs h
  | .dict _, h => by cases h
theorem eqvAll_refl : ∀ xs : List PyData, noDictsAll xs = true → PyData.eqvAll xs xs = true
  | [], _ => rfl
  | x :: xs, h => by
    have h' : (noDicts x && noDictsAll xs) = true := h
    obtain ⟨h1, h2⟩ := Bool.and_eq_true_iff.mp h'
    show (PyData.eqv x x && PyData.eqvAll xs xs) = true
    rw [eqv_refl x h1, eqvAll_refl xs h2]
    rfl
end
/-- data that == is asked of: its depth, and no dict, no odd text -/
theorem shaped_list {ds : List PyData} (h : ∀ d ∈ ds, d.canLay0 = true) {n : Nat} (hn : n < 64) (hd : ∀ d ∈ ds, d.depth ≤ n) : SeqAt.shaped (.list ds) = true := by
  have h1 : ∀ xs : List PyData, (∀ d ∈ xs, d.canLay0 = true) → PyData.canLayAll0 xs = true := by
    intro xs
    induction xs with
    | nil => intro _; rfl
    | cons x xs ih =>
      intro hx
      show (x.canLay0 && PyData.canLayAll0 xs) = true
      rw [hx x List.mem_cons_self, ih fun d hd => hx d (List.mem_cons_of_mem _ hd)]
      rfl
  have h2 : ∀ xs : List PyData, (∀ d ∈ xs, d.depth ≤ n) → PyData.depthAll xs ≤ n := by
    intro xs
    induction xs with
    | nil => intro _; exact Nat.zero_le _
    | cons x xs ih =>
      intro hx
      show max x.depth (PyData.depthAll xs) ≤ n
      have a1 := hx x List.mem_cons_self
      have a2 := ih fun d hd => hx d (List.mem_cons_of_mem _ hd)
      omega
  unfold SeqAt.shaped
  have e1 : PyData.canLay0 (.list ds) = true := h1 ds h
  have e2 : PyData.depth (.list ds) = PyData.depthAll ds + 1 := rfl
  rw [e1, e2, Bool.true_and, decide_eq_true_eq]
  have := h2 ds hd
  omega
end Lay

namespace Lw
open PySem PySem.Spec PyProof.Rows L2 Lay
local macro_rules | `(tactic| walk_at "ev") => `(tactic| simp [bind_ite, map_ite, runD, runF, runB, entry, outD, outF, outB, sVar, sC, sBin, sTst, sChain, sAndT, sOrT, sNotT, sAndV, sOrV, sNotV, sIfE, sNeg, sNil, sCons, sTup, sLst, sL, sOwnIx, sNoP, sPart, sSlice, sCat, sCall, sCallF, sCallB, iSeq, iRange1, iRange2, iEnumS, iZipS, gN, tgNil, tgCons, gT, tYesS, sSkip, sSeq, sStuck, sFrz, sSet, sSetF, sUnp, sPar, sApp, sSetIx, sDrop, sRet, sRetF, sRetO, sIf, sIsi, sBorT, sBor, hideOwn, SV.isOwn, pLe, pLt, pGt, pGe, pAdd, pSub, pIdx, pLen, pIsN, pNotN, dInt, dBool, dTup, dLst, dStr, pMin2, pMax2, pEq_int, pNe_int, atI, ixN, sFor, sLc, wipeR])
local macro_rules | `(tactic| walk_at "evs") => `(tactic| simp [*, bind_ite, map_ite, runD, runF, runB, entry, outD, outF, outB, sVar, sC, sBin, sTst, sChain, sAndT, sOrT, sNotT, sAndV, sOrV, sNotV, sIfE, sNeg, sNil, sCons, sTup, sLst, sL, sOwnIx, sNoP, sPart, sSlice, sCat, sCall, sCallF, sCallB, iSeq, iRange1, iRange2, iEnumS, iZipS, gN, tgNil, tgCons, gT, tYesS, sSkip, sSeq, sStuck, sFrz, sSet, sSetF, sUnp, sPar, sApp, sSetIx, sDrop, sRet, sRetF, sRetO, sIf, sIsi, sBorT, sBor, hideOwn, SV.isOwn, pLe, pLt, pGt, pGe, pAdd, pSub, pIdx, pLen, pIsN, pNotN, dInt, dBool, dTup, dLst, dStr, pMin2, pMax2, pEq_int, pNe_int, sFor, sLc, wipeR])
def isInt (d : PyData) (lo hi : Int) : Bool := match d with
  | .int i => decide (lo ≤ i) && decide (i ≤ hi)
  | _ => false
theorem is_integer_eq (d : PyData) (lo hi : Int) : g_is_integer [d, .int lo, .int hi] = some (.bool (isInt d lo hi)) := by
  unfold g_is_integer b_is_integer isInt
  cases d <;> walk_at "ev"
  split <;> simp [*]
def isRow (d : PyData) : Bool := match d with
  | .tuple [a, b] => isInt a 1 95 && isInt b 0 1000000
  | _ => false
theorem is_row_eq (d : PyData) : g_is_row [d] = some (.bool (isRow d)) := by
  unfold g_is_row b_is_row
  cases d
  case tuple xs =>
    match xs with
    | [] => walk_at "ev"; rfl
    | [a] => walk_at "ev"; rfl
    | [a, b] =>
      walk_at "ev"
      simp [is_integer_eq, isRow, bind_ite, map_ite, outD]
      split <;> simp [*]
    | a :: b :: c :: r =>
      walk_at "ev"
      split
      · omega
      · rfl
  all_goals (walk_at "ev"; rfl)
theorem cut_from1 (xs : List PyData) : Lay.cutD xs (some 1) none = xs.tail := by
  rw [← List.drop_one]
  unfold Lay.cutD
  rw [show HT.sIx xs.length 0 (some 1) = min 1 xs.length from HT.sIx_nat xs.length 0 1, HT.sIx_none]
  cases xs with
  | nil => rfl
  | cons x r =>
    rw [show min 1 (x :: r).length = 1 by rw [List.length_cons]; omega]
    show (List.take ((x :: r).length - 1) r) = r
    rw [List.length_cons, Nat.add_sub_cancel, List.take_length]
theorem pAll_map {α : Type} (f : α → Bool) (xs : List α) : pAll [.list (xs.map fun d => .bool (f d))] = some (.bool (xs.all f)) := by
  have e : xs.map (fun d => PyData.bool (f d)) = (xs.map f).map PyData.bool := by rw [List.map_map]; rfl
  show (boolsOf _).map _ = _
  rw [e, boolsOf_map]
  simp
/-- one row and the next -/
def riseB (d : PyData) : Bool := match d with
  | .tuple [.tuple [.int a, .int b], .tuple [.int c, .int d]] => decide (a < c) && decide (b ≤ d)
  | _ => false
def areRows (d : PyData) : Bool := match d with
  | .tuple xs => decide (xs.length ≤ 4) && (xs.all isRow && (zipD xs (xs.tail)).all riseB)
  | _ => false
theorem isRow_shape {d : PyData} (h : isRow d = true) : ∃ a b : Int, d = .tuple [.int a, .int b] ∧ 1 ≤ a ∧ a ≤ 95 ∧ 0 ≤ b ∧ b ≤ 1000000 := by
  unfold isRow at h
  split at h
  · rename_i a b
    obtain ⟨h1, h2⟩ := Bool.and_eq_true_iff.mp h
    unfold isInt at h1 h2
    split at h1
    · split at h2
      · rename_i i _ j
        simp only [Bool.and_eq_true, decide_eq_true_eq] at h1 h2
        exact ⟨i, j, rfl, h1.1, h1.2, h2.1, h2.2⟩
      · cases h2
    · cases h1
  · cases h
theorem are_rows_eq (d : PyData) : g_are_rows [d] = some (.bool (areRows d)) := by
  unfold g_are_rows b_are_rows
  cases d
  case tuple xs =>
    have h1 : lcL [1] (gN 1) tYesS (sCall g_is_row (sCons (sVar 1) sNil)) xs [.val (.tuple xs), .no, .no, .no] = some (xs.map (fun d => .bool (isRow d)), [.val (.tuple xs), .no, .no, .no]) := lcL_map _ xs fun d hd => by
      refine ⟨[.val (.tuple xs), .val d, .no, .no], rfl, ?_, rfl⟩
      walk_at "ev"
      simp [is_row_eq]
    by_cases hl : xs.length ≤ 4
    · have hl2 : xs.length < 16777216 := by omega
      have hl3 : ¬ (4 : Int) < (xs.length : Int) := by omega
      by_cases ha : xs.all isRow = true
      · have h2 : lcL [2, 3] (gT 2 (tgCons (gN 2) (tgCons (gN 3) tgNil))) tYesS (sAndV (sBin pLt (sBin pIdx (sVar 2) (sC (.int 0))) (sBin pIdx (sVar 3) (sC (.int 0)))) (sBin pLe (sBin pIdx (sVar 2) (sC (.int 1))) (sBin pIdx (sVar 3) (sC (.int 1)))))
            (zipD xs (xs.tail)) [.val (.tuple xs), .no, .no, .no] = some ((zipD xs (xs.tail)).map (fun d => .bool (riseB d)), [.val (.tuple xs), .no, .no, .no]) := lcL_map _ _ fun d hd => by
          obtain ⟨i, hi, ei⟩ := List.mem_iff_getElem.mp hd
          obtain ⟨z, v, e1, e2, e3⟩ := zipD_get (List.getElem?_eq_getElem hi)
          rw [ei] at e3
          rw [← List.drop_one, List.getElem?_drop] at e2
          obtain ⟨a, b, ez, _⟩ := isRow_shape (List.all_eq_true.mp ha z (List.mem_of_getElem? e1))
          obtain ⟨c, d', ev, _⟩ := isRow_shape (List.all_eq_true.mp ha v (List.mem_of_getElem? e2))
          subst e3 ez ev
          refine ⟨[.val (.tuple xs), .no, .val (.tuple [.int a, .int b]), .val (.tuple [.int c, .int d'])], rfl, ?_, rfl⟩
          walk_at "ev"
          unfold riseB
          split <;> simp [*]
        have hz : (zipD xs (xs.tail)).length < 16777216 := by
          rw [zipD_len]
          omega
        walk_at "ev"
        simp [h1, hl2, hl3, pAll_map, ha, bind_ite, map_ite, pSlice, cut_from1, hz, h2, outD, areRows, hl]
      · have hf : xs.all isRow = false := by simpa using ha
        walk_at "ev"
        simp [h1, hl2, hl3, pAll_map, hf, bind_ite, map_ite, outD, areRows]
    · have hl3 : (4 : Int) < (xs.length : Int) := by omega
      walk_at "ev"
      simp [hl3, areRows, hl]
  all_goals (walk_at "ev"; rfl)
local macro_rules | `(tactic| walk_at "ev2") => `(tactic| simp [is_integer_eq, is_row_eq, are_rows_eq, bind_ite, map_ite, runD, runF, runB, entry, outD, outF, outB, sVar, sC, sBin, sTst, sChain, sAndT, sOrT, sNotT, sAndV, sOrV, sNotV, sIfE, sNeg, sNil, sCons, sTup, sLst, sL, sOwnIx, sNoP, sPart, sSlice, sCat, sCall, sCallF, sCallB, iSeq, iRange1, iRange2, iEnumS, iZipS, gN, tgNil, tgCons, gT, tYesS, sSkip, sSeq, sStuck, sFrz, sSet, sSetF, sUnp, sPar, sApp, sSetIx, sDrop, sRet, sRetF, sRetO, sIf, sIsi, sBorT, sBor, hideOwn, SV.isOwn, pLe, pLt, pGt, pGe, pAdd, pSub, pIdx, pLen, pIsN, pNotN, dInt, dBool, dTup, dLst, dStr, pMin2, pMax2, pEq_int, pNe_int, atI, ixN, sFor, sLc, wipeR])
def isTar (d : PyData) : Bool := match d with
  | .tuple [g, r, u, p, c] => isInt g 0 96 && (areRows r && (isInt u 1 96 && (isInt p 0 1000000 && (isNone c || isInt c 0 1000000))))
  | _ => false
theorem is_tariff_eq (d : PyData) : g_is_tariff [d] = some (.bool (isTar d)) := by
  unfold g_is_tariff b_is_tariff
  cases d
  case tuple xs =>
    match xs with
    | [] => walk_at "ev"; rfl
    | [_] => walk_at "ev"; rfl
    | [_, _] => walk_at "ev"; rfl
    | [_, _, _] => walk_at "ev"; rfl
    | [_, _, _, _] => walk_at "ev"; rfl
    | [g, r, u, p, c] =>
      walk_at "ev2"
      have e : isTar (.tuple [g, r, u, p, c]) = (isInt g 0 96 && (areRows r && (isInt u 1 96 && (isInt p 0 1000000 && (isNone c || isInt c 0 1000000))))) := rfl
      rw [e]
      generalize isInt g 0 96 = x1
      generalize areRows r = x2
      generalize isInt u 1 96 = x3
      generalize isInt p 0 1000000 = x4
      generalize isNone c = x5
      cases x1 <;> cases x2 <;> cases x3 <;> cases x4 <;> cases x5 <;> rfl
    | a :: b :: c :: d :: e :: f :: r =>
      walk_at "ev"
      exact ⟨by omega, rfl⟩
  all_goals (walk_at "ev"; rfl)
end Lw

namespace Lw
open PySem PySem.Spec PyProof.Rows L2 Lay
local macro_rules | `(tactic| walk_at "ev") => `(tactic| simp [bind_ite, map_ite, runD, runF, runB, entry, outD, outF, outB, sVar, sC, sBin, sTst, sChain, sAndT, sOrT, sNotT, sAndV, sOrV, sNotV, sIfE, sNeg, sNil, sCons, sTup, sLst, sL, sOwnIx, sNoP, sPart, sSlice, sCat, sCall, sCallF, sCallB, iSeq, iRange1, iRange2, iEnumS, iZipS, gN, tgNil, tgCons, gT, tYesS, sSkip, sSeq, sStuck, sFrz, sSet, sSetF, sUnp, sPar, sApp, sSetIx, sDrop, sRet, sRetF, sRetO, sIf, sIsi, sBorT, sBor, hideOwn, SV.isOwn, pLe, pLt, pGt, pGe, pAdd, pSub, pIdx, pLen, pIsN, pNotN, dInt, dBool, dTup, dLst, dStr, pMin2, pMax2, pEq_int, pNe_int, atI, ixN, sFor, sLc, wipeR])
local macro_rules | `(tactic| walk_at "evs") => `(tactic| simp [*, bind_ite, map_ite, runD, runF, runB, entry, outD, outF, outB, sVar, sC, sBin, sTst, sChain, sAndT, sOrT, sNotT, sAndV, sOrV, sNotV, sIfE, sNeg, sNil, sCons, sTup, sLst, sL, sOwnIx, sNoP, sPart, sSlice, sCat, sCall, sCallF, sCallB, iSeq, iRange1, iRange2, iEnumS, iZipS, gN, tgNil, tgCons, gT, tYesS, sSkip, sSeq, sStuck, sFrz, sSet, sSetF, sUnp, sPar, sApp, sSetIx, sDrop, sRet, sRetF, sRetO, sIf, sIsi, sBorT, sBor, hideOwn, SV.isOwn, pLe, pLt, pGt, pGe, pAdd, pSub, pIdx, pLen, pIsN, pNotN, dInt, dBool, dTup, dLst, dStr, pMin2, pMax2, pEq_int, pNe_int, sFor, sLc, wipeR])
/-! ## tariffs -/
structure Tariff where
  grace : Int
  rows : List (Int × Int)
  unit : Int
  up : Int
  cap : Option Int
def rowD (r : Int × Int) : PyData := .tuple [.int r.1, .int r.2]
def capD : Option Int → PyData
  | none => .none
  | some c => .int c
def Tariff.dat (t : Tariff) : PyData := .tuple [.int t.grace, .tuple (t.rows.map rowD), .int t.unit, .int t.up, capD t.cap]
/-- rows rise, from a last one -/
def risesR : Int × Int → List (Int × Int) → Prop
  | _, [] => True
  | a, b :: r => a.1 < b.1 ∧ a.2 ≤ b.2 ∧ risesR b r
structure Tariff.Ok (t : Tariff) : Prop where
  g0 : 0 ≤ t.grace
  g1 : t.grace ≤ 96
  len : t.rows.length ≤ 4
  rng : ∀ r ∈ t.rows, 1 ≤ r.1 ∧ r.1 ≤ 95 ∧ 0 ≤ r.2 ∧ r.2 ≤ 1000000
  rise : risesR (0, 0) t.rows
  u0 : 1 ≤ t.unit
  u1 : t.unit ≤ 96
  p0 : 0 ≤ t.up
  p1 : t.up ≤ 1000000
  cap : ∀ c, t.cap = some c → 0 ≤ c ∧ c ≤ 1000000
def capI (c : Option Int) (p : Int) : Int := match c with
  | none => p
  | some c => min c p
def lastR (a : Int × Int) (rows : List (Int × Int)) : Int × Int := rows.foldl (fun _ r => r) a
/-- the day price -/
def Tariff.day (t : Tariff) (n : Int) : Int := if n ≤ t.grace then 0 else capI t.cap (match t.rows.find? fun r => decide (n ≤ r.1) with
  | some r => r.2
  | none => (lastR (0, 0) t.rows).2 + t.up * ((n - (lastR (0, 0) t.rows).1 + t.unit - 1) / t.unit))
def Tariff.stay (t : Tariff) (n : Int) : Int := if n = 0 then 0 else (n - 1) / 96 * t.day 96 + t.day (n - (n - 1) / 96 * 96)
theorem cap_ev (c : Option Int) (i j : Nat) (p : Int) (ρ : Rho) (h1 : ρ[i]? = some (.val (capD c))) (h2 : ρ[j]? = some (.val (.int p))) :
    sIfE (sTst (sBin pIsN (sVar i) (sC .none))) (sVar j) (sCall pMin2 (sCons (sVar i) (sCons (sVar j) sNil))) ρ = some (.int (capI c p), ρ) := by
  cases c <;> simp [capD] at h1 <;> simp [sIfE, sTst, sBin, sVar, sC, sCall, sCons, sNil, h1, h2, pIsN, isNone, pMin2, capI]
theorem rows_none (n : Int) (a g r u p : SV) (c : Option Int) : ∀ (rows : List (Int × Int)) (s q : Int) (x y : SV), (rows.find? fun r => decide (n ≤ r.1)) = none →
    ∃ x' y', forL (gT 2 (tgCons (gN 9) (tgCons (gN 10) tgNil))) b_day_price_l9 (rows.map rowD) [a, .val (.int n), g, r, u, p, .val (capD c), .val (.int s), .val (.int q), x, y]
      = some (.nx [a, .val (.int n), g, r, u, p, .val (capD c), .val (.int (lastR (s, q) rows).1), .val (.int (lastR (s, q) rows).2), x', y'])
  | [], s, q, x, y, _ => ⟨x, y, rfl⟩
  | w :: rows, s, q, x, y, h => by
    rw [List.find?_cons] at h
    split at h
    · cases h
    · rename_i hn
      have hn' : ¬ n ≤ w.1 := by simpa using hn
      obtain ⟨x', y', ih⟩ := rows_none n a g r u p c rows w.1 w.2 (.val (.int w.1)) (.val (.int w.2)) h
      refine ⟨x', y', ?_⟩
      rw [List.map_cons]
      show (gT 2 _ (rowD w) _).bind _ = _
      have e : gT 2 (tgCons (gN 9) (tgCons (gN 10) tgNil)) (rowD w) [a, .val (.int n), g, r, u, p, .val (capD c), .val (.int s), .val (.int q), x, y] = some [a, .val (.int n), g, r, u, p, .val (capD c), .val (.int s), .val (.int q), .val (.int w.1), .val (.int w.2)] := rfl
      have e2 : b_day_price_l9 [a, .val (.int n), g, r, u, p, .val (capD c), .val (.int s), .val (.int q), .val (.int w.1), .val (.int w.2)] = some (.nx [a, .val (.int n), g, r, u, p, .val (capD c), .val (.int w.1), .val (.int w.2), .val (.int w.1), .val (.int w.2)]) := by
        unfold b_day_price_l9
        walk_at "ev"
        simp [hn', bind_ite, map_ite]
      rw [e]
      show (b_day_price_l9 _).bind _ = _
      rw [e2]
      exact ih
theorem rows_some (n : Int) (a g r u p : SV) (c : Option Int) : ∀ (rows : List (Int × Int)) (s q : Int) (x y : SV) (z : Int × Int), (rows.find? fun r => decide (n ≤ r.1)) = some z →
    ∃ ρ', forL (gT 2 (tgCons (gN 9) (tgCons (gN 10) tgNil))) b_day_price_l9 (rows.map rowD) [a, .val (.int n), g, r, u, p, .val (capD c), .val (.int s), .val (.int q), x, y] = some (.rt (.int (capI c z.2)) ρ')
  | [], s, q, x, y, z, h => by cases h
  | w :: rows, s, q, x, y, z, h => by
    rw [List.find?_cons] at h
    have e : gT 2 (tgCons (gN 9) (tgCons (gN 10) tgNil)) (rowD w) [a, .val (.int n), g, r, u, p, .val (capD c), .val (.int s), .val (.int q), x, y] = some [a, .val (.int n), g, r, u, p, .val (capD c), .val (.int s), .val (.int q), .val (.int w.1), .val (.int w.2)] := rfl
    rw [List.map_cons]
    split at h
    · rename_i hn
      have hn' : n ≤ w.1 := by simpa using hn
      have ez : w = z := Option.some.inj h
      subst ez
      refine ⟨[a, .val (.int n), g, r, u, p, .val (capD c), .val (.int s), .val (.int q), .val (.int w.1), .val (.int w.2)], ?_⟩
      show (gT 2 _ (rowD w) _).bind _ = _
      rw [e]
      show (b_day_price_l9 _).bind _ = _
      have e2 : b_day_price_l9 [a, .val (.int n), g, r, u, p, .val (capD c), .val (.int s), .val (.int q), .val (.int w.1), .val (.int w.2)] = some (.rt (.int (capI c w.2)) [a, .val (.int n), g, r, u, p, .val (capD c), .val (.int s), .val (.int q), .val (.int w.1), .val (.int w.2)]) := by
        unfold b_day_price_l9
        cases c <;> walk_at "ev" <;> simp [hn', capD, isNone, capI, bind_ite, map_ite]
      rw [e2]
      rfl
    · rename_i hn
      have hn' : ¬ n ≤ w.1 := by simpa using hn
      obtain ⟨ρ', ih⟩ := rows_some n a g r u p c rows w.1 w.2 (.val (.int w.1)) (.val (.int w.2)) z h
      refine ⟨ρ', ?_⟩
      show (gT 2 _ (rowD w) _).bind _ = _
      have e2 : b_day_price_l9 [a, .val (.int n), g, r, u, p, .val (capD c), .val (.int s), .val (.int q), .val (.int w.1), .val (.int w.2)] = some (.nx [a, .val (.int n), g, r, u, p, .val (capD c), .val (.int w.1), .val (.int w.2), .val (.int w.1), .val (.int w.2)]) := by
        unfold b_day_price_l9
        walk_at "ev"
        simp [hn', bind_ite, map_ite]
      rw [e]
      show (b_day_price_l9 _).bind _ = _
      rw [e2]
      exact ih
theorem day_price_eq (t : Tariff) (ht : t.Ok) (n : Int) : g_day_price [t.dat, .int n] = some (.int (t.day n)) := by
  obtain ⟨gr, rows, un, up, c⟩ := t
  unfold g_day_price b_day_price Tariff.dat Tariff.day
  have hu : 0 < un := by have := ht.u0; exact Int.lt_of_lt_of_le (by decide) this
  have hu2 : un < 1073741824 := by have := ht.u1; exact Int.lt_of_le_of_lt this (by decide)
  have hp1 : -18446744073709551616 < up := by have := ht.p0; exact Int.lt_of_lt_of_le (by decide) this
  have hp2 : up < 18446744073709551616 := by have := ht.p1; exact Int.lt_of_le_of_lt this (by decide)
  by_cases hg : n ≤ gr
  · walk_at "ev"
    simp [hg]
  · cases hf : (rows.find? fun r => decide (n ≤ r.1)) with
    | none =>
      obtain ⟨x', y', hl⟩ := rows_none n (.val (.tuple [.int gr, .tuple (rows.map rowD), .int un, .int up, capD c])) (.val (.int gr)) (.val (.tuple (rows.map rowD))) (.val (.int un)) (.val (.int up)) c rows 0 0 .no .no hf
      walk_at "ev"
      simp [hg, hl, hf, pMul, pFdiv, hu, hu2, hp1, hp2, bind_ite, map_ite]
      cases c <;> simp [capD, isNone, capI, outD]
    | some z =>
      obtain ⟨ρ', hl⟩ := rows_some n (.val (.tuple [.int gr, .tuple (rows.map rowD), .int un, .int up, capD c])) (.val (.int gr)) (.val (.tuple (rows.map rowD))) (.val (.int un)) (.val (.int up)) c rows 0 0 .no .no z hf
      walk_at "ev"
      simp [hg, hl, hf, outD]
/-! bounds -/
theorem find_rng {t : Tariff} (ht : t.Ok) {n : Int} {r : Int × Int} (h : (t.rows.find? fun r => decide (n ≤ r.1)) = some r) : 0 ≤ r.2 ∧ r.2 ≤ 1000000 := by
  have hm := List.mem_of_find?_eq_some h
  have := ht.rng r hm
  exact ⟨this.2.2.1, this.2.2.2⟩
theorem lastR_mem : ∀ (rows : List (Int × Int)) (a : Int × Int), lastR a rows = a ∨ lastR a rows ∈ rows
  | [], a => .inl rfl
  | r :: rows, a => by
    rcases lastR_mem rows r with h | h
    · right
      show lastR r rows ∈ r :: rows
      rw [h]
      exact List.mem_cons_self
    · exact .inr (List.mem_cons_of_mem _ h)
theorem last_rng {t : Tariff} (ht : t.Ok) : 0 ≤ (lastR (0, 0) t.rows).1 ∧ (lastR (0, 0) t.rows).1 ≤ 95 ∧ 0 ≤ (lastR (0, 0) t.rows).2 ∧ (lastR (0, 0) t.rows).2 ≤ 1000000 := by
  rcases lastR_mem t.rows (0, 0) with h | h
  · rw [h]
    decide
  · have := ht.rng _ h
    omega
theorem find_none_last {t : Tariff} {n : Int} (h : (t.rows.find? fun r => decide (n ≤ r.1)) = none) : n ≤ 0 ∨ (lastR (0, 0) t.rows).1 < n := by
  rcases lastR_mem t.rows (0, 0) with e | e
  · rw [e]
    by_cases c : n ≤ 0
    · exact .inl c
    · right
      show (0 : Int) < n
      omega
  · have := List.find?_eq_none.mp h _ e
    right
    simpa using this
theorem day_nonneg {t : Tariff} (ht : t.Ok) (n : Int) (hn : 1 ≤ n) : 0 ≤ t.day n := by
  have hc : ∀ p : Int, 0 ≤ p → 0 ≤ capI t.cap p := fun p hp => by
    unfold capI
    split
    · exact hp
    · rename_i c e
      have := ht.cap c e
      omega
  unfold Tariff.day
  split
  · exact Int.le_refl _
  · apply hc
    split
    · rename_i r e
      exact (find_rng ht e).1
    · rename_i e
      have h1 := last_rng ht
      have h2 := ht.p0
      have h3 := ht.u0
      have h4 : 0 ≤ (n - (lastR (0, 0) t.rows).1 + t.unit - 1) / t.unit := by
        apply Int.ediv_nonneg
        · rcases find_none_last e with h | h <;> omega
        · omega
      have h5 := Int.mul_nonneg h2 h4
      omega
theorem day_le {t : Tariff} (ht : t.Ok) (n : Int) (hn : 1 ≤ n) (hn2 : n ≤ 96) : t.day n ≤ 97000000 := by
  have hc : ∀ p : Int, p ≤ 97000000 → capI t.cap p ≤ 97000000 := fun p hp => by
    unfold capI
    split
    · exact hp
    · rename_i c e
      omega
  unfold Tariff.day
  split
  · decide
  · apply hc
    split
    · rename_i r e
      have := (find_rng ht e).2
      omega
    · rename_i e
      have h1 := last_rng ht
      have h2 := ht.p0
      have h2' := ht.p1
      have h3 := ht.u0
      have h4 : (n - (lastR (0, 0) t.rows).1 + t.unit - 1) / t.unit ≤ 96 := by
        have h6 : (n - (lastR (0, 0) t.rows).1 + t.unit - 1) / t.unit < 97 := by
          apply Int.ediv_lt_of_lt_mul (by omega)
          have : t.unit * 1 ≤ t.unit := by omega
          have h7 : 96 + t.unit - 1 < 97 * t.unit := by omega
          omega
        omega
      have h5 : t.up * ((n - (lastR (0, 0) t.rows).1 + t.unit - 1) / t.unit) ≤ 1000000 * 96 := by
        have h8 : t.up * ((n - (lastR (0, 0) t.rows).1 + t.unit - 1) / t.unit) ≤ t.up * 96 := Int.mul_le_mul_of_nonneg_left h4 h2
        have h9 : t.up * 96 ≤ 1000000 * 96 := Int.mul_le_mul_of_nonneg_right h2' (by decide)
        omega
      omega
theorem stay_price_eq (t : Tariff) (ht : t.Ok) (n : Int) (hn : 0 ≤ n) (hn2 : n ≤ 2000000000000000) : g_stay_price [t.dat, .int n] = some (.int (t.stay n)) := by
  unfold g_stay_price b_stay_price Tariff.stay
  have d96 := day_price_eq t ht 96
  have b1 := day_nonneg ht 96 (by decide)
  have b2 := day_le ht 96 (by decide) (by decide)
  have c1 : -18446744073709551616 < t.day 96 := by omega
  have c2 : t.day 96 < 18446744073709551616 := by omega
  by_cases h0 : n = 0
  · subst h0
    walk_at "ev"
  · have dr := day_price_eq t ht (n - (n - 1) / 96 * 96)
    walk_at "ev"
    simp [h0, pFdiv, pMul, d96, dr, c1, c2, bind_ite, map_ite, outD]
end Lw

namespace Lw
open PySem PySem.Spec PyProof.Rows L2 Lay
local macro_rules | `(tactic| walk_at "ev") => `(tactic| simp [bind_ite, map_ite, runD, runF, runB, entry, outD, outF, outB, sVar, sC, sBin, sTst, sChain, sAndT, sOrT, sNotT, sAndV, sOrV, sNotV, sIfE, sNeg, sNil, sCons, sTup, sLst, sL, sOwnIx, sNoP, sPart, sSlice, sCat, sCall, sCallF, sCallB, iSeq, iRange1, iRange2, iEnumS, iZipS, gN, tgNil, tgCons, gT, tYesS, sSkip, sSeq, sStuck, sFrz, sSet, sSetF, sUnp, sPar, sApp, sSetIx, sDrop, sRet, sRetF, sRetO, sIf, sIsi, sBorT, sBor, hideOwn, SV.isOwn, pLe, pLt, pGt, pGe, pAdd, pSub, pIdx, pLen, pIsN, pNotN, dInt, dBool, dTup, dLst, dStr, pMin2, pMax2, pEq_int, pNe_int, atI, ixN, sFor, sLc, wipeR])
local macro_rules | `(tactic| walk_at "evs") => `(tactic| simp [*, bind_ite, map_ite, runD, runF, runB, entry, outD, outF, outB, sVar, sC, sBin, sTst, sChain, sAndT, sOrT, sNotT, sAndV, sOrV, sNotV, sIfE, sNeg, sNil, sCons, sTup, sLst, sL, sOwnIx, sNoP, sPart, sSlice, sCat, sCall, sCallF, sCallB, iSeq, iRange1, iRange2, iEnumS, iZipS, gN, tgNil, tgCons, gT, tYesS, sSkip, sSeq, sStuck, sFrz, sSet, sSetF, sUnp, sPar, sApp, sSetIx, sDrop, sRet, sRetF, sRetO, sIf, sIsi, sBorT, sBor, hideOwn, SV.isOwn, pLe, pLt, pGt, pGe, pAdd, pSub, pIdx, pLen, pIsN, pNotN, dInt, dBool, dTup, dLst, dStr, pMin2, pMax2, pEq_int, pNe_int, sFor, sLc, wipeR])
/-! ## a tariff is one -/
theorem rises_get : ∀ {rows : List (Int × Int)} {a : Int × Int}, risesR a rows → ∀ {i : Nat} {x y : Int × Int}, rows[i]? = some x → rows[i + 1]? = some y → x.1 < y.1 ∧ x.2 ≤ y.2
  | [], _, _, _, _, _, h, _ => by simp at h
  | [_], _, _, 0, _, _, _, h => by simp at h
  | [_], _, _, _ + 1, _, _, h, _ => by simp at h
  | b :: c :: r, a, h, 0, x, y, h1, h2 => by
    cases h1
    cases h2
    exact ⟨h.2.2.1, h.2.2.2.1⟩
  | b :: c :: r, a, h, i + 1, x, y, h1, h2 => rises_get (rows := c :: r) (a := b) h.2.2 (i := i) h1 h2
theorem isRow_rowD {r : Int × Int} (h : 1 ≤ r.1 ∧ r.1 ≤ 95 ∧ 0 ≤ r.2 ∧ r.2 ≤ 1000000) : isRow (rowD r) = true := by
  unfold isRow rowD isInt
  simp [h]
theorem tar_ok {t : Tariff} (ht : t.Ok) : isTar t.dat = true := by
  have hr : areRows (.tuple (t.rows.map rowD)) = true := by
    unfold areRows
    rw [Bool.and_eq_true, Bool.and_eq_true]
    refine ⟨?_, ?_, ?_⟩
    · rw [List.length_map]
      exact decide_eq_true ht.len
    · rw [List.all_map]
      exact List.all_eq_true.mpr fun r hr => isRow_rowD (ht.rng r hr)
    · refine List.all_eq_true.mpr fun d hd => ?_
      obtain ⟨i, hi, ei⟩ := List.mem_iff_getElem.mp hd
      obtain ⟨z, v, e1, e2, e3⟩ := zipD_get (List.getElem?_eq_getElem hi)
      rw [ei] at e3
      rw [← List.drop_one, List.getElem?_drop, List.getElem?_map] at e2
      rw [List.getElem?_map] at e1
      obtain ⟨x, h1, h2⟩ := map_some e1
      obtain ⟨y, h3, h4⟩ := map_some e2
      rw [Nat.add_comm] at h3
      have := rises_get ht.rise h1 h3
      subst h2 h4 e3
      unfold riseB rowD
      simp [this]
  unfold Tariff.dat isTar
  simp only [hr, isInt]
  have a1 := ht.g0
  have a2 := ht.g1
  have a3 := ht.u0
  have a4 := ht.u1
  have a5 := ht.p0
  have a6 := ht.p1
  simp [a1, a2, a3, a4, a5, a6]
  cases hc : t.cap with
  | none => exact .inl rfl
  | some c =>
    have := ht.cap c hc
    right
    simp [capD, this]
theorem need_tariff_eq {t : Tariff} (ht : t.Ok) : g_need_tariff [t.dat] = some .none := by
  unfold g_need_tariff b_need_tariff
  have h := is_tariff_eq t.dat
  rw [tar_ok ht] at h
  walk_at "ev"
  simp [h, outD]
theorem need_length_eq {n : Int} (h0 : 0 ≤ n) (h1 : n ≤ 1000000000000000) : g_need_length [.int n] = some .none := by
  unfold g_need_length b_need_length
  have h := is_integer_eq (.int n) 0 1000000000000000
  have e : isInt (.int n) 0 1000000000000000 = true := by
    unfold isInt
    simp [h0, h1]
  rw [e] at h
  walk_at "ev"
  simp [h, outD]
theorem price_eq {t : Tariff} (ht : t.Ok) {n : Int} (h0 : 0 ≤ n) (h1 : n ≤ 1000000000000000) : g_price [t.dat, .int n] = some (.int (t.stay n)) := by
  unfold g_price b_price
  have a1 := need_tariff_eq ht
  have a2 := need_length_eq h0 h1
  have a3 := stay_price_eq t ht n h0 (by omega)
  walk_at "ev"
  simp [a1, a2, a3, outD]
/-! ## levels -/
/-- one more length -/
def lvStep (d : Int → Int) (acc : List (Int × Int)) (n : Int) : List (Int × Int) := match acc.getLast? with
  | some l => if l.2 = d n then acc.dropLast ++ [(n, d n)] else acc ++ [(n, d n)]
  | none => acc ++ [(n, d n)]
def lvl (d : Int → Int) : Nat → List (Int × Int)
  | 0 => []
  | k + 1 => lvStep d (lvl d k) ((k : Int) + 1)
theorem rowD_lay (r : Int × Int) : (rowD r).canLay0 = true ∧ (rowD r).depth ≤ 1 := ⟨rfl, Nat.le_refl 1⟩
theorem shaped_rows (l : List (Int × Int)) : SeqAt.shaped (.list (l.map rowD)) = true := shaped_list (n := 1) (fun d hd => by
  obtain ⟨r, _, e⟩ := List.mem_map.mp hd
  rw [← e]
  exact (rowD_lay r).1) (by decide) fun d hd => by
  obtain ⟨r, _, e⟩ := List.mem_map.mp hd
  rw [← e]
  exact (rowD_lay r).2
theorem lvl_len (d : Int → Int) : ∀ k, (lvl d k).length ≤ k
  | 0 => Nat.le_refl _
  | k + 1 => by
    have ih := lvl_len d k
    show (lvStep d (lvl d k) _).length ≤ k + 1
    unfold lvStep
    split
    · split
      · rw [List.length_append, List.length_dropLast]
        show _ + 1 ≤ _
        omega
      · rw [List.length_append]
        show _ + 1 ≤ _
        omega
    · rw [List.length_append]
      show _ + 1 ≤ _
      omega
theorem pNe_nil (l : List (Int × Int)) : pNe (.list (l.map rowD)) (.list []) = some (.bool (!l.isEmpty)) := by
  unfold pNe
  rw [if_pos ⟨shaped_rows l, by decide⟩]
  cases l <;> rfl
theorem level_turn {t : Tariff} (ht : t.Ok) (k : Nat) (hk : k < 96) (y : SV) : b_level_list_l2 [.val t.dat, .own ((lvl t.day k).map rowD), .val (.int ((k : Int) + 1)), y] =
    some (.nx [.val t.dat, .own ((lvl t.day (k + 1)).map rowD), .val (.int ((k : Int) + 1)), .val (.int (t.day ((k : Int) + 1)))]) := by
  have hd := day_price_eq t ht ((k : Int) + 1)
  have hlen := lvl_len t.day k
  unfold b_level_list_l2
  rcases List.eq_nil_or_concat (lvl t.day k) with h0 | ⟨l, r, hl⟩
  · have e : lvl t.day (k + 1) = [((k : Int) + 1, t.day ((k : Int) + 1))] := by
      show lvStep t.day (lvl t.day k) _ = _
      rw [h0]
      rfl
    rw [e, h0]
    have hn : pNe (.list []) (.list []) = some (.bool false) := pNe_nil []
    have q10 : rowD ((k : Int) + 1, t.day ((k : Int) + 1)) = .tuple [.int ((k : Int) + 1), .int (t.day ((k : Int) + 1))] := rfl
    clear h0 e
    walk_at "evs"
  · have hl' : lvl t.day k = l ++ [r] := by rw [hl, List.concat_eq_append]
    have e : lvl t.day (k + 1) = if r.2 = t.day ((k : Int) + 1) then l ++ [((k : Int) + 1, t.day ((k : Int) + 1))] else l ++ [r] ++ [((k : Int) + 1, t.day ((k : Int) + 1))] := by
      show lvStep t.day (lvl t.day k) _ = _
      rw [hl']
      unfold lvStep
      rw [List.getLast?_append]
      simp
    have q1 := pNe_nil (l ++ [r])
    have q2 : atI ((l ++ [r]).map rowD) (-1) = some (.tuple [.int r.1, .int r.2]) := by
      rw [List.map_append]
      exact atI_last _ _
    have q3 : ixN ((l ++ [r]).map rowD).length (-1) = some l.length := by
      unfold ixN
      rw [List.length_map, List.length_append]
      simp
      omega
    have q4 : ∀ x, ((l ++ [r]).map rowD).set l.length x = l.map rowD ++ [x] := fun x => by
      rw [List.map_append, List.set_append_right _ _ (by rw [List.length_map]; exact Nat.le_refl _), List.length_map, Nat.sub_self]
      rfl
    have q5 : ((l ++ [r]).map rowD).length < 16777216 := by
      rw [List.length_map, ← hl']
      omega
    have q6 : (!(l ++ [r]).isEmpty) = true := by cases l <;> rfl
    have q7 : (l ++ [r]).map rowD ++ [rowD ((k : Int) + 1, t.day ((k : Int) + 1))] = (l ++ [r] ++ [((k : Int) + 1, t.day ((k : Int) + 1))]).map rowD := by
      rw [List.map_append (l₁ := l ++ [r])]
      rfl
    have q8 : l.map rowD ++ [rowD ((k : Int) + 1, t.day ((k : Int) + 1))] = (l ++ [((k : Int) + 1, t.day ((k : Int) + 1))]).map rowD := by
      rw [List.map_append]
      rfl
    have q9 : atI [PyData.int r.1, PyData.int r.2] 1 = some (.int r.2) := rfl
    rw [e, hl']
    rw [q6] at q1
    have q10 : sTup (sCons (sVar 2) (sCons (sVar 3) sNil)) [SV.val t.dat, SV.own ((l ++ [r]).map rowD), SV.val (.int ((k : Int) + 1)), SV.val (.int (t.day ((k : Int) + 1)))] = some (rowD ((k : Int) + 1, t.day ((k : Int) + 1)), [SV.val t.dat, SV.own ((l ++ [r]).map rowD), SV.val (.int ((k : Int) + 1)), SV.val (.int (t.day ((k : Int) + 1)))]) := rfl
    generalize (l ++ [r]).map rowD = L at *
    by_cases hc : r.2 = t.day ((k : Int) + 1)
    · have q11 : (r.2 == t.day ((k : Int) + 1)) = true := by rw [hc]; exact beq_self_eq_true _
      rw [if_pos hc, ← q8]
      have q4' := q4 (rowD ((k : Int) + 1, t.day ((k : Int) + 1)))
      have q12 : rowD ((k : Int) + 1, t.day ((k : Int) + 1)) = .tuple [.int ((k : Int) + 1), .int (t.day ((k : Int) + 1))] := rfl
      rw [q12] at q4' ⊢
      clear q4 q6 q7 q8 q12 q10 hc hl hl' e
      walk_at "evs"
    · have q11 : (r.2 == t.day ((k : Int) + 1)) = false := by simpa using hc
      rw [if_neg hc, ← q7]
      have q12 : rowD ((k : Int) + 1, t.day ((k : Int) + 1)) = .tuple [.int ((k : Int) + 1), .int (t.day ((k : Int) + 1))] := rfl
      rw [q12]
      clear q4 q6 q7 q8 q12 q10 hc hl hl' e
      walk_at "evs"
def lvR (t : Tariff) : Nat → Rho
  | 0 => [.val t.dat, .own [], .no, .no]
  | k + 1 => [.val t.dat, .own ((lvl t.day (k + 1)).map rowD), .val (.int ((k : Int) + 1)), .val (.int (t.day ((k : Int) + 1)))]
theorem lvR_turn {t : Tariff} (ht : t.Ok) (k : Nat) (hk : k < 96) : ∃ ρ1, gN 2 (.int (1 + (k : Int))) (lvR t k) = some ρ1 ∧ b_level_list_l2 ρ1 = some (.nx (lvR t (k + 1))) := by
  have e : (1 : Int) + (k : Int) = (k : Int) + 1 := Int.add_comm _ _
  rw [e]
  cases k with
  | zero => exact ⟨_, rfl, level_turn ht 0 (by decide) .no⟩
  | succ k => exact ⟨_, rfl, level_turn ht (k + 1) hk _⟩
theorem rangeD_len (i : Int) (n : Nat) : (rangeD i n).length = n := by
  unfold rangeD
  rw [List.length_map, List.length_range]
theorem level_list_eq {t : Tariff} (ht : t.Ok) : g_level_list [t.dat] = some ((lvl t.day 96).map rowD) := by
  unfold g_level_list b_level_list
  have h := forL_to (g := gN 2) (b := b_level_list_l2) (lvR t) (rangeD 1 96) fun i d hd => by
    obtain ⟨h1, h2⟩ := rangeD_get hd
    subst h2
    exact lvR_turn ht i h1
  rw [rangeD_len] at h
  have h0 : lvR t 0 = [.val t.dat, .own [], .no, .no] := rfl
  have h1 : lvR t 96 = [.val t.dat, .own ((lvl t.day 96).map rowD), .val (.int 96), .val (.int (t.day 96))] := rfl
  rw [h0, h1] at h
  generalize (lvl t.day 96).map rowD = L at *
  walk_at "evs"
theorem levels_eq {t : Tariff} (ht : t.Ok) : g_levels [t.dat] = some ((lvl t.day 96).map rowD) := by
  unfold g_levels b_levels
  have h := level_list_eq ht
  have h2 := need_tariff_eq ht
  generalize (lvl t.day 96).map rowD = L at *
  walk_at "evs"
end Lw

namespace Lw
open PySem PySem.Spec PyProof.Rows L2 Lay
local macro_rules | `(tactic| walk_at "ev") => `(tactic| simp [bind_ite, map_ite, runD, runF, runB, entry, outD, outF, outB, sVar, sC, sBin, sTst, sChain, sAndT, sOrT, sNotT, sAndV, sOrV, sNotV, sIfE, sNeg, sNil, sCons, sTup, sLst, sL, sOwnIx, sNoP, sPart, sSlice, sCat, sCall, sCallF, sCallB, iSeq, iRange1, iRange2, iEnumS, iZipS, gN, tgNil, tgCons, gT, tYesS, sSkip, sSeq, sStuck, sFrz, sSet, sSetF, sUnp, sPar, sApp, sSetIx, sDrop, sRet, sRetF, sRetO, sIf, sIsi, sBorT, sBor, hideOwn, SV.isOwn, pLe, pLt, pGt, pGe, pAdd, pSub, pIdx, pLen, pIsN, pNotN, dInt, dBool, dTup, dLst, dStr, pMin2, pMax2, pEq_int, pNe_int, atI, ixN, sFor, sLc, wipeR])
local macro_rules | `(tactic| walk_at "evs") => `(tactic| simp [*, bind_ite, map_ite, runD, runF, runB, entry, outD, outF, outB, sVar, sC, sBin, sTst, sChain, sAndT, sOrT, sNotT, sAndV, sOrV, sNotV, sIfE, sNeg, sNil, sCons, sTup, sLst, sL, sOwnIx, sNoP, sPart, sSlice, sCat, sCall, sCallF, sCallB, iSeq, iRange1, iRange2, iEnumS, iZipS, gN, tgNil, tgCons, gT, tYesS, sSkip, sSeq, sStuck, sFrz, sSet, sSetF, sUnp, sPar, sApp, sSetIx, sDrop, sRet, sRetF, sRetO, sIf, sIsi, sBorT, sBor, hideOwn, SV.isOwn, pLe, pLt, pGt, pGe, pAdd, pSub, pIdx, pLen, pIsN, pNotN, dInt, dBool, dTup, dLst, dStr, pMin2, pMax2, pEq_int, pNe_int, sFor, sLc, wipeR])
/-! ## bags -/
def IsBag (bs : List PyData) : Prop := ∃ (L : List Int) (k : Int), bs = [.list (L.map .int), .int k] ∧ L.length = 400 ∧ ∀ z ∈ L, 0 ≤ z ∧ z < 1000
theorem atI_int {L : List Int} {i : Int} (h0 : 0 ≤ i) (h1 : i < L.length) : ∃ z, z ∈ L ∧ atI (L.map PyData.int) i = some (.int z) := by
  have hl : i.toNat < L.length := by omega
  refine ⟨L[i.toNat], List.getElem_mem hl, ?_⟩
  unfold atI ixN
  rw [List.length_map, if_pos h0, if_pos h1]
  show (L.map PyData.int)[i.toNat]? = _
  rw [List.getElem?_map, List.getElem?_eq_getElem hl]
  rfl
theorem take_eq {bs : List PyData} (hb : IsBag bs) {n : Int} (hn : 0 < n) : ∃ z bs', g_law_take bs [.int n] = some (.int z, bs') ∧ 0 ≤ z ∧ z < n ∧ IsBag bs' := by
  obtain ⟨L, k, rfl, hl, hL⟩ := hb
  have m0 : 0 ≤ (k + 1) % 400 := Int.emod_nonneg _ (by decide)
  have m1 : (k + 1) % 400 < 400 := Int.emod_lt_of_pos _ (by decide)
  obtain ⟨z, hz, e⟩ := atI_int (L := L) m0 (by rw [hl]; exact m1)
  refine ⟨z % n, [.list (L.map .int), .int (k + 1)], ?_, Int.emod_nonneg _ (by omega), Int.emod_lt_of_pos _ hn, L, k + 1, rfl, hl, hL⟩
  have a0 : ∀ x y : PyData, atI [x, y] 0 = some x := fun _ _ => rfl
  have a1 : ∀ x y : PyData, atI [x, y] 1 = some y := fun _ _ => rfl
  have a2 : ixN 2 1 = some 1 := rfl
  have a3 : (L.map PyData.int).length = 400 := by rw [List.length_map, hl]
  unfold g_law_take b_law_take
  generalize L.map PyData.int = D at *
  simp [*, runB, entry, sSeq, sSetIx, sBin, sOwnIx, sC, pAdd, sRet, sCall, sCons, sNil, pLen, pMod, pIdx, outB, sVar]
/-- a draw where a slot holds the bag -/
theorem takeS {i : Nat} {ρ : Rho} {bs : List PyData} (h : ρ[i]? = some (.own bs)) (hb : IsBag bs) {s : Sem1} {n : Int} (hs : s ρ = some (.int n, ρ)) (hn : 0 < n) :
    ∃ z bs', sCallB g_law_take i (sCons s sNil) ρ = some (.int z, ρ.set i (.own bs')) ∧ 0 ≤ z ∧ z < n ∧ IsBag bs' := by
  obtain ⟨z, bs', h1, h2, h3, h4⟩ := take_eq hb hn
  refine ⟨z, bs', ?_, h2, h3, h4⟩
  simp [sCallB, sCons, sNil, h, hs, h1]
/-- with a given state behind the amount -/
theorem takeS2 {i : Nat} {ρ ρ1 : Rho} {bs bs0 : List PyData} (h0 : ρ[i]? = some (.own bs0)) (h : ρ1[i]? = some (.own bs)) (hb : IsBag bs) {s : Sem1} {n : Int} (hs : s ρ = some (.int n, ρ1)) (hn : 0 < n) :
    ∃ z bs', sCallB g_law_take i (sCons s sNil) ρ = some (.int z, ρ1.set i (.own bs')) ∧ 0 ≤ z ∧ z < n ∧ IsBag bs' := by
  obtain ⟨z, bs', h1, h2, h3, h4⟩ := take_eq hb hn
  refine ⟨z, bs', ?_, h2, h3, h4⟩
  simp [sCallB, sCons, sNil, h, h0, hs, h1]
/-- one of a list's values, chosen by a draw -/
theorem atI_in {ds : List PyData} {z : Int} (h0 : 0 ≤ z) (h1 : z < ds.length) : ∃ d, d ∈ ds ∧ atI ds z = some d := by
  have hl : z.toNat < ds.length := by omega
  refine ⟨ds[z.toNat], List.getElem_mem hl, ?_⟩
  unfold atI ixN
  rw [if_pos h0, if_pos h1]
  exact List.getElem?_eq_getElem hl
theorem pickS {i : Nat} {ρ ρ1 : Rho} {bs : List PyData} {ds : List PyData} {sl : Sem1} (hsl : sl ρ = some (.list ds, ρ1)) (h : ρ1[i]? = some (.own bs)) (hb : IsBag bs) (hn : ds ≠ []) {s : Sem1} (hs : s ρ1 = some (.int ds.length, ρ1)) :
    ∃ d bs', sBin pIdx sl (sCallB g_law_take i (sCons s sNil)) ρ = some (d, ρ1.set i (.own bs')) ∧ d ∈ ds ∧ IsBag bs' := by
  have hp : 0 < ds.length := List.length_pos_iff.mpr hn
  obtain ⟨z, bs', h1, h2, h3, h4⟩ := takeS h hb hs (by omega)
  obtain ⟨d, h5, h6⟩ := atI_in h2 h3
  refine ⟨d, bs', ?_, h5, h4⟩
  unfold sBin
  rw [hsl]
  show (sCallB g_law_take i (sCons s sNil) ρ1).bind _ = _
  rw [h1]
  show ((pIdx (.list ds) (.int z)).map _) = _
  show ((atI ds z).map _) = _
  rw [h6]
  rfl
/-! ## the draws -/
theorem cell_at_eq (ns : List Int) (k : Nat) : ∃ z, g_law_cell_at [.list (ns.map .int), .int (k : Int)] = some (.int z) := by
  unfold g_law_cell_at b_law_cell_at
  by_cases h : k < ns.length
  · obtain ⟨z, hz, e⟩ := atI_int (L := ns) (i := (k : Int)) (by omega) (by omega)
    refine ⟨z, ?_⟩
    have h' : (k : Int) < ((ns.map PyData.int).length : Int) := by rw [List.length_map]; omega
    generalize ns.map PyData.int = D at *
    simp [runD, entry, sSeq, sIf, sTst, sBin, sVar, sCall, sCons, sNil, sRet, pLen, pLt, pIdx, h', e, outD]
  · refine ⟨0, ?_⟩
    have h' : ¬ (k : Int) < ((ns.map PyData.int).length : Int) := by rw [List.length_map]; omega
    generalize ns.map PyData.int = D at *
    simp [runD, entry, sSeq, sIf, sTst, sBin, sVar, sC, sCall, sCons, sNil, sRet, sSkip, pLen, pLt, h', outD]
/-- the state of the draws -/
def DrawI (a : SV) (n : Nat) (ρ : Rho) : Prop := ∃ (L : List Int) (r s : Int) (y : SV), ρ = [a, .val (.int 400), .val (.int 1000), .own (L.map .int), .val (.int r), .val (.int s), y] ∧ L.length = n - 3 ∧ (∀ z ∈ L, 0 ≤ z ∧ z < 1000) ∧ 0 ≤ s ∧ s < 2305843009213693951
theorem draw_turn (a : SV) (n : Nat) (hn : n < 403) (ρ : Rho) (h : DrawI a n ρ) : ∃ ρ1 ρ2, gN 6 (.int (0 + (n : Int))) ρ = some ρ1 ∧ b_law_draws_l6 ρ1 = some (.nx ρ2) ∧ DrawI a (n + 1) ρ2 := by
  obtain ⟨L, r, s, y, rfl, hl, hL, s0, s1⟩ := h
  have c1 : -18446744073709551616 < s := by omega
  have c2 : s < 18446744073709551616 := by omega
  have t0 := Int.emod_nonneg (s * s + 48271 * s + (n : Int) + 1) (show (2305843009213693951 : Int) ≠ 0 by decide)
  have t1 := Int.emod_lt_of_pos (s * s + 48271 * s + (n : Int) + 1) (show (0 : Int) < 2305843009213693951 by decide)
  have hl2 : (L.map PyData.int).length < 16777216 := by rw [List.length_map]; omega
  generalize hS : (s * s + 48271 * s + (n : Int) + 1) % 2305843009213693951 = S at *
  refine ⟨[a, .val (.int 400), .val (.int 1000), .own (L.map .int), .val (.int r), .val (.int s), .val (.int (n : Int))], ?_⟩
  have ap : ∀ z : Int, L.map PyData.int ++ [.int z] = (L ++ [z]).map PyData.int := fun z => by rw [List.map_append]; rfl
  have ok : ∀ z : Int, (0 ≤ z ∧ z < 1000) → ∀ x ∈ L ++ [z], 0 ≤ x ∧ x < 1000 := fun z hz x hx => by
    rcases List.mem_append.mp hx with h | h
    · exact hL x h
    · rw [List.mem_singleton.mp h]
      exact hz
  have md : ∀ q : Int, 0 ≤ q % 1000 ∧ q % 1000 < 1000 := fun q => ⟨Int.emod_nonneg _ (by decide), Int.emod_lt_of_pos _ (by decide)⟩
  have e0 : gN 6 (.int (0 + (n : Int))) [a, .val (.int 400), .val (.int 1000), .own (L.map .int), .val (.int r), .val (.int s), y] = some [a, .val (.int 400), .val (.int 1000), .own (L.map .int), .val (.int r), .val (.int s), .val (.int (n : Int))] := by
    rw [Int.zero_add]
    rfl
  rw [e0]
  by_cases h2 : (2 : Int) < (n : Int)
  · have hn2 : 2 < n := by omega
    by_cases hr : 0 < r
    · refine ⟨[a, .val (.int 400), .val (.int 1000), .own ((L ++ [r % 1000]).map .int), .val (.int (r / 1000)), .val (.int S), .val (.int (n : Int))], rfl, ?_, L ++ [r % 1000], _, S, _, rfl, ?_, ok _ (md _), t0, t1⟩
      · rw [← ap]
        generalize L.map PyData.int = D at *
        unfold b_law_draws_l6
        simp [sSeq, sSet, sBin, sVar, sC, pAdd, pMul, pMod, pFdiv, c1, c2, hS, sIf, sTst, sAndT, pGt, h2, hn2, hr, sApp, hl2]
      · rw [List.length_append]
        show _ + 1 = _
        omega
    · refine ⟨[a, .val (.int 400), .val (.int 1000), .own ((L ++ [S / 4096 % 1000]).map .int), .val (.int r), .val (.int S), .val (.int (n : Int))], rfl, ?_, L ++ [S / 4096 % 1000], _, S, _, rfl, ?_, ok _ (md _), t0, t1⟩
      · rw [← ap]
        generalize L.map PyData.int = D at *
        unfold b_law_draws_l6
        simp [sSeq, sSet, sBin, sVar, sC, pAdd, pMul, pMod, pFdiv, c1, c2, hS, sIf, sTst, sAndT, pGt, h2, hn2, hr, sApp, hl2]
      · rw [List.length_append]
        show _ + 1 = _
        omega
  · have hn2 : ¬ 2 < n := by omega
    refine ⟨[a, .val (.int 400), .val (.int 1000), .own (L.map .int), .val (.int r), .val (.int S), .val (.int (n : Int))], rfl, ?_, L, _, S, _, rfl, ?_, hL, t0, t1⟩
    · generalize L.map PyData.int = D at *
      unfold b_law_draws_l6
      simp [sSeq, sSet, sBin, sVar, sC, pAdd, pMul, pMod, c1, c2, hS, sIf, sTst, sAndT, pGt, h2, hn2, sSkip]
    · omega
theorem draws_eq (c : Int) : ∃ L : List Int, g_law_draws [.int c, .int 400, .int 1000] = some (.list (L.map .int)) ∧ L.length = 400 ∧ ∀ z ∈ L, 0 ≤ z ∧ z < 1000 := by
  have t0 := Int.emod_nonneg c (show (2305843009213693951 : Int) ≠ 0 by decide)
  have t1 := Int.emod_lt_of_pos c (show (0 : Int) < 2305843009213693951 by decide)
  obtain ⟨r, hr⟩ : ∃ r : Int, r = c * (if 1000000000000000000 ≤ c then 1 else 0) := ⟨_, rfl⟩
  obtain ⟨ρ', h1, L, r', s', y', rfl, hl, hL, _⟩ := forL_nx (g := gN 6) (b := b_law_draws_l6) (DrawI (.val (.int c))) (rangeD 0 403) 0
    [.val (.int c), .val (.int 400), .val (.int 1000), .own [], .val (.int r), .val (.int (c % 2305843009213693951)), .no]
    ⟨[], _, _, _, rfl, rfl, (fun z h => absurd h (List.not_mem_nil)), t0, t1⟩ fun i d ρ hd hi => by
      obtain ⟨h1, h2⟩ := rangeD_get hd
      subst h2
      rw [Nat.zero_add] at hi
      obtain ⟨ρ1, ρ2, e1, e2, e3⟩ := draw_turn _ i h1 ρ hi
      exact ⟨ρ1, ρ2, e1, .inl e2, by rw [Nat.zero_add]; exact e3⟩
  rw [rangeD_len] at hl
  refine ⟨L, ?_, hl, hL⟩
  unfold g_law_draws b_law_draws
  generalize L.map PyData.int = D at *
  by_cases hc : (1000000000000000000 : Int) ≤ c
  · rw [if_pos hc, Int.mul_one] at hr
    subst hr
    simp [runD, entry, sSeq, sSetF, sLst, sNil, sSet, sBin, sVar, sC, sCall, sCons, pInt, pGe, pPow, pMul, pMod, pAdd, iRange1, sFor, hc, h1, sRetO, outD, *]
  · rw [if_neg hc, Int.mul_zero] at hr
    subst hr
    simp [runD, entry, sSeq, sSetF, sLst, sNil, sSet, sBin, sVar, sC, sCall, sCons, pInt, pGe, pPow, pMul, pMod, pAdd, iRange1, sFor, hc, h1, sRetO, outD, *]
theorem bag_eq (ns : List Int) (k : Nat) : ∃ bs, g_law_bag [.list (ns.map .int), .int (k : Int)] = some bs ∧ IsBag bs := by
  obtain ⟨c, h1⟩ := cell_at_eq ns k
  obtain ⟨L, h2, hl, hL⟩ := draws_eq c
  refine ⟨[.list (L.map .int), .int 0], ?_, L, 0, rfl, hl, hL⟩
  unfold g_law_bag b_law_bag
  generalize L.map PyData.int = D at *
  generalize ns.map PyData.int = N at *
  simp [runF, entry, sRetF, sLst, sCons, sNil, sCall, sVar, sC, h1, h2, outF]
theorem bags_eq (ns : List Int) (hl : ns.length ≤ 63) (m : Int) (hm0 : 0 ≤ m) (hm : m ≤ 63) : ∃ bss, g_law_bags [.list (ns.map .int), .int m] = some bss ∧ ∀ bs ∈ bss, IsBag bs := by
  have key : ∀ (ds : List PyData), (∀ d ∈ ds, ∃ k : Nat, d = .int (k : Int)) → ∀ ρ : Rho, (∃ y, ρ = [.val (.list (ns.map .int)), .val (.int m), y]) →
      ∃ bss ρ', lcLL [2] (gN 2) (sCallF g_law_bag (sCons (sVar 0) (sCons (sVar 2) sNil))) ds ρ = some (bss, ρ') ∧ ∀ bs ∈ bss, IsBag bs := by
    intro ds
    induction ds with
    | nil => exact fun _ ρ _ => ⟨[], ρ, rfl, fun _ h => by cases h⟩
    | cons d ds ih =>
      intro h ρ hρ
      obtain ⟨y, rfl⟩ := hρ
      obtain ⟨k, rfl⟩ := h _ List.mem_cons_self
      obtain ⟨bs, h1, h2⟩ := bag_eq ns k
      obtain ⟨bss, ρ', h3, h4⟩ := ih (fun e he => h e (List.mem_cons_of_mem _ he)) [.val (.list (ns.map .int)), .val (.int m), .no] ⟨_, rfl⟩
      refine ⟨bs :: bss, ρ', ?_, fun b hb => ?_⟩
      · unfold lcLL
        generalize ns.map PyData.int = N at *
        simp [gN, sCallF, sCons, sNil, sVar, h1, wipeR, h3]
      · rcases List.mem_cons.mp hb with e | e
        · rw [e]
          exact h2
        · exact h4 b e
  obtain ⟨M, hM, hM2⟩ : ∃ M : Int, M = max 1 (min m ((ns.map PyData.int).length : Int)) ∧ M ≤ 63 := ⟨_, rfl, by omega⟩
  obtain ⟨bss, ρ', h1, h2⟩ := key (rangeD 0 M.toNat) (fun d hd => by
    obtain ⟨i, hi⟩ := List.mem_iff_getElem?.mp hd
    obtain ⟨h1, h2⟩ := rangeD_get hi
    exact ⟨i, by rw [h2, Int.zero_add]⟩) [.val (.list (ns.map .int)), .val (.int m), .no] ⟨_, rfl⟩
  refine ⟨bss, ?_, h2⟩
  have c1 : -4611686018427387904 ≤ M := by omega
  have c2 : M < 4611686018427387904 := by omega
  have c3 : (rangeD 0 M.toNat).length < 16777216 := by rw [rangeD_len]; omega
  unfold g_law_bags b_law_bags
  generalize ns.map PyData.int = N at *
  simp [runFF, entry, sLcF, iRange1, sCall, sCons, sNil, sVar, sC, pMax2, pMin2, pLen, ← hM, c1, c2, c3, wipeR, h1]
end Lw

namespace Lw
open PySem PySem.Spec PyProof.Rows L2 Lay
local macro_rules | `(tactic| walk_at "ev") => `(tactic| simp [bind_ite, map_ite, runD, runF, runB, entry, outD, outF, outB, sVar, sC, sBin, sTst, sChain, sAndT, sOrT, sNotT, sAndV, sOrV, sNotV, sIfE, sNeg, sNil, sCons, sTup, sLst, sL, sOwnIx, sNoP, sPart, sSlice, sCat, sCall, sCallF, sCallB, iSeq, iRange1, iRange2, iEnumS, iZipS, gN, tgNil, tgCons, gT, tYesS, sSkip, sSeq, sStuck, sFrz, sSet, sSetF, sUnp, sPar, sApp, sSetIx, sDrop, sRet, sRetF, sRetO, sIf, sIsi, sBorT, sBor, hideOwn, SV.isOwn, pLe, pLt, pGt, pGe, pAdd, pSub, pIdx, pLen, pIsN, pNotN, dInt, dBool, dTup, dLst, dStr, pMin2, pMax2, pEq_int, pNe_int, atI, ixN, sFor, sLc, wipeR])
local macro_rules | `(tactic| walk_at "evs") => `(tactic| simp [*, bind_ite, map_ite, runD, runF, runB, entry, outD, outF, outB, sVar, sC, sBin, sTst, sChain, sAndT, sOrT, sNotT, sAndV, sOrV, sNotV, sIfE, sNeg, sNil, sCons, sTup, sLst, sL, sOwnIx, sNoP, sPart, sSlice, sCat, sCall, sCallF, sCallB, iSeq, iRange1, iRange2, iEnumS, iZipS, gN, tgNil, tgCons, gT, tYesS, sSkip, sSeq, sStuck, sFrz, sSet, sSetF, sUnp, sPar, sApp, sSetIx, sDrop, sRet, sRetF, sRetO, sIf, sIsi, sBorT, sBor, hideOwn, SV.isOwn, pLe, pLt, pGt, pGe, pAdd, pSub, pIdx, pLen, pIsN, pNotN, dInt, dBool, dTup, dLst, dStr, pMin2, pMax2, pEq_int, pNe_int, sFor, sLc, wipeR])
/-! ## days -/
theorem filter_head {rows : List (Int × Int)} (p : Int × Int → Bool) : (rows.filter p).head? = rows.find? p := by
  rw [List.head?_filter]
theorem fits_eq (n : Int) (a b g r u p c f x y : SV) (rows : List (Int × Int)) : lcL [8, 9] (gT 2 (tgCons (gN 8) (tgCons (gN 9) tgNil))) (sTst (sBin pLe (sVar 1) (sVar 8))) (sVar 9) (rows.map rowD) [a, .val (.int n), g, r, u, p, c, f, .no, .no, y]
    = some ((rows.filter fun r => decide (n ≤ r.1)).map fun r => .int r.2, [a, .val (.int n), g, r, u, p, c, f, .no, .no, y]) := by
  induction rows with
  | nil => rfl
  | cons w rows ih =>
    rw [List.map_cons]
    unfold lcL
    have q1 : gT 2 (tgCons (gN 8) (tgCons (gN 9) tgNil)) (rowD w) [a, .val (.int n), g, r, u, p, c, f, .no, .no, y] = some [a, SV.val (.int n), g, r, u, p, c, f, SV.val (.int w.1), SV.val (.int w.2), y] := rfl
    have q2 : sTst (sBin pLe (sVar 1) (sVar 8)) [a, SV.val (.int n), g, r, u, p, c, f, SV.val (.int w.1), SV.val (.int w.2), y] = some (decide (n ≤ w.1), [a, SV.val (.int n), g, r, u, p, c, f, SV.val (.int w.1), SV.val (.int w.2), y]) := rfl
    rw [q1, Option.bind_some, q2, Option.bind_some]
    show (if decide (n ≤ w.1) = true then _ else _) = _
    by_cases h : n ≤ w.1
    · rw [if_pos (decide_eq_true h), List.filter_cons_of_pos (p := fun r : Int × Int => decide (n ≤ r.1)) (decide_eq_true h)]
      show (Option.map _ (lcL _ _ _ _ _ [a, .val (.int n), g, r, u, p, c, f, .no, .no, y])) = _
      rw [ih]
      rfl
    · rw [if_neg (by simpa using h), List.filter_cons_of_neg (p := fun r : Int × Int => decide (n ≤ r.1)) (by simpa using h)]
      exact ih
theorem pNe_ints (l : List Int) (hl : l.length ≤ 100000) : pNe (.list (l.map .int)) (.list []) = some (.bool (!l.isEmpty)) := by
  unfold pNe
  rw [if_pos ⟨shaped_list (n := 0) (fun d hd => by
    obtain ⟨r, _, e⟩ := List.mem_map.mp hd
    rw [← e]
    rfl) (by decide) fun d hd => by
    obtain ⟨r, _, e⟩ := List.mem_map.mp hd
    rw [← e]
    exact Nat.le_refl 0, by decide⟩]
  cases l <;> rfl
theorem pNe_trows (l : List (Int × Int)) : pNe (.tuple (l.map rowD)) (.tuple []) = some (.bool (!l.isEmpty)) := by
  have h := shaped_rows l
  unfold pNe
  rw [if_pos ⟨h, by decide⟩]
  cases l <;> rfl
/-- the state of the climb -/
def climbR (a : SV) (n : Int) (g r : SV) (u p : Int) (c f x : SV) (s q : Int) (i : Nat) : Rho := [a, .val (.int n), g, r, .val (.int u), .val (.int p), c, f, x, .val (.int (q + i * p)), .val (.int (s + i * u))]
theorem climb_eq (a : SV) (n : Int) (g r : SV) (u p : Int) (c f x : SV) (s q : Int) (hu : 1 ≤ u) (hs : 0 ≤ s) (hn : n ≤ 96) : whileN (sTst (sBin pLt (sVar 10) (sVar 1))) b_law_day_w 100000 (climbR a n g r u p c f x s q 0) =
    some (.nx (climbR a n g r u p c f x s q ((n - s + u - 1) / u).toNat)) := by
  obtain ⟨m, hm⟩ : ∃ m : Nat, m = ((n - s + u - 1) / u).toNat := ⟨_, rfl⟩
  have e1 : ∀ i : Nat, (s + i * u < n) ↔ i < m := fun i => by
    have h0 : (i : Int) < (n - s + u - 1) / u ↔ ((i : Int) + 1) * u ≤ n - s + u - 1 := by
      rw [Int.lt_iff_add_one_le, Int.le_ediv_iff_mul_le (by omega)]
    have h1 : i < m ↔ (i : Int) < (n - s + u - 1) / u := by omega
    rw [h1, h0, Int.add_mul, Int.one_mul]
    generalize (i : Int) * u = w
    omega
  have hmm : m < 100000 := by
    have : ¬ s + (m : Int) * u < n := fun h => Nat.lt_irrefl _ ((e1 m).mp h)
    rcases Nat.lt_or_ge m 100000 with h | h
    · exact h
    · have h2 := (e1 (m - 1)).mpr (by omega)
      have h3 : ((m - 1 : Nat) : Int) * 1 ≤ ((m - 1 : Nat) : Int) * u := Int.mul_le_mul_of_nonneg_left hu (by omega)
      omega
  rw [← hm]
  refine while_to (climbR a n g r u p c f x s q) m 100000 hmm (fun i hi => ?_) ?_
  · have h := (e1 i).mpr hi
    refine ⟨climbR a n g r u p c f x s q i, ?_, ?_⟩
    · unfold climbR
      simp [sTst, sBin, sVar, pLt, h]
    · unfold climbR b_law_day_w
      simp only [Int.natCast_add, Int.add_mul]
      simp [sPar, sBin, sVar, pAdd, Int.add_assoc]
  · have h : ¬ s + (m : Int) * u < n := fun h => Nat.lt_irrefl _ ((e1 m).mp h)
    refine ⟨climbR a n g r u p c f x s q m, ?_, rfl⟩
    unfold climbR
    simp [sTst, sBin, sVar, pLt, h]
theorem last_ix (rows : List (Int × Int)) (h : rows ≠ []) (z : Int × Int) : atI (rows.map rowD) (-1) = some (.tuple [.int (lastR z rows).1, .int (lastR z rows).2]) := by
  rcases List.eq_nil_or_concat rows with h0 | ⟨l, r, hl⟩
  · exact absurd h0 h
  · rw [hl, List.concat_eq_append, List.map_append]
    have : lastR z (l ++ [r]) = r := by
      unfold lastR
      rw [List.foldl_append]
      rfl
    rw [this]
    exact atI_last _ _
theorem capD_ev (c : Option Int) (p : Int) {ρ : Rho} (h1 : ρ[6]? = some (.val (capD c))) (h2 : ρ[9]? = some (.val (.int p))) :
    sIfE (sOrT (sTst (sBin pIsN (sVar 6) (sC .none))) (sTst (sBin pLe (sVar 9) (sVar 6)))) (sVar 9) (sVar 6) ρ = some (.int (capI c p), ρ) := by
  cases c with
  | none =>
    simp [capD] at h1
    simp [sIfE, sOrT, sTst, sBin, sVar, sC, h1, h2, pIsN, isNone, capI]
  | some c =>
    simp [capD] at h1
    by_cases h : p ≤ c
    · simp [sIfE, sOrT, sTst, sBin, sVar, sC, h1, h2, pIsN, isNone, capI, pLe, h, Int.min_eq_right h]
    · simp [sIfE, sOrT, sTst, sBin, sVar, sC, h1, h2, pIsN, isNone, capI, pLe, h, Int.min_eq_left (by omega : c ≤ p)]
theorem law_day_eq (t : Tariff) (ht : t.Ok) (n : Int) (h0 : 1 ≤ n) (hn : n ≤ 96) : g_law_day [t.dat, .int n] = some (.int (t.day n)) := by
  have hz := last_rng ht
  have hu := ht.u0
  have hlen := ht.len
  unfold Tariff.day
  obtain ⟨gr, rows, un, up, c⟩ := t
  simp only at *
  unfold g_law_day b_law_day Tariff.dat
  by_cases hg : n ≤ gr
  · walk_at "ev"
    simp [hg]
  · have hf := fits_eq n (.val (.tuple [.int gr, .tuple (rows.map rowD), .int un, .int up, capD c])) .no (.val (.int gr)) (.val (.tuple (rows.map rowD))) (.val (.int un)) (.val (.int up)) (.val (capD c)) .no .no .no rows
    have hfl : (rows.filter fun r => decide (n ≤ r.1)).length ≤ 4 := Nat.le_trans (List.length_filter_le _ _) hlen
    have hh : (rows.filter fun r => decide (n ≤ r.1)).head? = rows.find? fun r => decide (n ≤ r.1) := filter_head _
    have hr4 : (rows.map rowD).length < 16777216 := by rw [List.length_map]; omega
    cases hfi : rows.filter fun r => decide (n ≤ r.1) with
    | cons w rest =>
      rw [hfi] at hf hh
      have hfd : (rows.find? fun r => decide (n ≤ r.1)) = some w := hh.symm
      have hne : pNe (.list (PyData.int w.2 :: rest.map fun r => .int r.2)) (.list []) = some (.bool true) := by
        have := pNe_ints (w.2 :: rest.map (·.2)) (by rw [List.length_cons, List.length_map]; rw [hfi, List.length_cons] at hfl; omega)
        rw [List.map_cons, List.map_map] at this
        exact this
      have hce := capD_ev c w.2 (ρ := [.val (.tuple [.int gr, .tuple (rows.map rowD), .int un, .int up, capD c]), .val (.int n), .val (.int gr), .val (.tuple (rows.map rowD)), .val (.int un), .val (.int up), .val (capD c), .val (.list (PyData.int w.2 :: rest.map fun r => .int r.2)), .no, .val (.int w.2), .no]) rfl rfl
      rw [hfd]
      generalize sIfE (sOrT (sTst (sBin pIsN (sVar 6) (sC .none))) (sTst (sBin pLe (sVar 9) (sVar 6)))) (sVar 9) (sVar 6) = CE at *
      rw [List.map_cons] at hf
      generalize rest.map (fun r => PyData.int r.2) = D at *
      have ha0 : ∀ x, atI (PyData.int x :: D) 0 = some (.int x) := fun x => by
        unfold atI ixN
        rw [if_pos (by decide), if_pos (by rw [List.length_cons]; omega)]
        rfl
      walk_at "evs"
      omega
    | nil =>
      rw [hfi] at hf hh
      have hfd : (rows.find? fun r => decide (n ≤ r.1)) = none := hh.symm
      rw [hfd]
      have hnil : pNe (.list []) (.list []) = some (.bool false) := pNe_ints [] (by decide)
      have hl4 : rows.length < 16777216 := by omega
      obtain ⟨la, lb, hlab⟩ : ∃ la lb, lastR (0, 0) rows = (la, lb) := ⟨_, _, rfl⟩
      rw [hlab] at hz ⊢
      simp only at hz ⊢
      have hcl := climb_eq (.val (.tuple [.int gr, .tuple (rows.map rowD), .int un, .int up, capD c])) n (.val (.int gr)) (.val (.tuple (rows.map rowD))) un up (.val (capD c)) (.val (.list [])) .no la lb hu hz.1 hn
      have hm : ((((n - la + un - 1) / un).toNat : Nat) : Int) = (n - la + un - 1) / un := by
        apply Int.toNat_of_nonneg
        apply Int.ediv_nonneg
        · rcases find_none_last (t := ⟨gr, rows, un, up, c⟩) hfd with h | h
          · omega
          · rw [hlab] at h
            simp only at h
            omega
        · omega
      unfold climbR at hcl
      rw [hm] at hcl
      simp only [Int.natCast_zero, Int.zero_mul, Int.add_zero] at hcl
      rw [Int.mul_comm up]
      generalize (n - la + un - 1) / un = m at *
      have hce := capD_ev c (lb + m * up) (ρ := [.val (.tuple [.int gr, .tuple (rows.map rowD), .int un, .int up, capD c]), .val (.int n), .val (.int gr), .val (.tuple (rows.map rowD)), .val (.int un), .val (.int up), .val (capD c), .val (.list []), .no, .val (.int (lb + m * up)), .val (.int (la + m * un))]) rfl rfl
      generalize sIfE (sOrT (sTst (sBin pIsN (sVar 6) (sC .none))) (sTst (sBin pLe (sVar 9) (sVar 6)))) (sVar 9) (sVar 6) = CE at *
      have htn := pNe_trows rows
      rw [List.map_nil] at hf
      by_cases h0 : rows = []
      · have e : la = 0 ∧ lb = 0 := by
          rw [h0] at hlab
          cases hlab
          exact ⟨rfl, rfl⟩
        obtain ⟨rfl, rfl⟩ := e
        rw [Int.zero_add] at hce ⊢
        rw [Int.zero_add, Int.zero_add] at hcl
        rw [Int.zero_add] at hce
        have hem : rows.isEmpty = true := by rw [h0]; rfl
        rw [hem] at htn
        clear h0 hem
        generalize rows.map rowD = R at *
        walk_at "evs"
        simp [sWhile, *, outD]
      · have hli := last_ix rows h0 (0, 0)
        rw [hlab] at hli
        have hem : rows.isEmpty = false := by
          cases rows with
          | nil => exact absurd rfl h0
          | cons _ _ => rfl
        rw [hem] at htn
        generalize rows.map rowD = R at *
        walk_at "evs"
        simp [sWhile, *, outD]
/-! ## prices -/
theorem law_price_eq (t : Tariff) (ht : t.Ok) (n : Int) (h0 : 0 ≤ n) : g_law_price [t.dat, .int n] = some (.int (t.stay n)) := by
  unfold g_law_price b_law_price Tariff.stay
  by_cases hz : n = 0
  · subst hz
    walk_at "ev"
  · have d96 := law_day_eq t ht 96 (by decide) (by decide)
    have b1 := day_nonneg ht 96 (by decide)
    have b2 := day_le ht 96 (by decide) (by decide)
    have c1 : -18446744073709551616 < t.day 96 := by omega
    have c2 : t.day 96 < 18446744073709551616 := by omega
    by_cases hm : 0 < n % 96
    · have e1 : (n - n % 96) / 96 = (n - 1) / 96 := by omega
      have e2 : n - (n - 1) / 96 * 96 = n % 96 := by omega
      have dr := law_day_eq t ht (n % 96) (by omega) (by omega)
      rw [e2]
      walk_at "ev"
      simp [hz, hm, pMod, pFdiv, pMul, d96, dr, c1, c2, e1, bind_ite, map_ite, outD]
    · have e1 : (n - 96) / 96 = (n - 1) / 96 := by omega
      have e2 : n - (n - 1) / 96 * 96 = 96 := by omega
      rw [e2]
      walk_at "ev"
      simp [hz, hm, pMod, pFdiv, pMul, d96, c1, c2, e1, bind_ite, map_ite, outD]
theorem law_prices_eq (t : Tariff) (ht : t.Ok) : g_law_prices [t.dat] = some (.list ((List.range 96).map fun i : Nat => .int (t.day ((i : Int) + 1)))) := by
  have h := lcL_map (vs := [1]) (g := gN 1) (s := sCall g_law_day (sCons (sVar 0) (sCons (sVar 1) sNil))) (ρ0 := [.val t.dat, .no]) (fun d => match d with | .int i => .int (t.day i) | d => d) (rangeD 1 96) fun d hd => by
    obtain ⟨i, hi⟩ := List.mem_iff_getElem?.mp hd
    obtain ⟨h1, h2⟩ := rangeD_get hi
    subst h2
    refine ⟨[.val t.dat, .val (.int (1 + (i : Int)))], rfl, ?_, rfl⟩
    have := law_day_eq t ht (1 + (i : Int)) (by omega) (by omega)
    simp [sCall, sCons, sNil, sVar, this]
  have e : (rangeD 1 96).map (fun d => match d with | .int i => .int (t.day i) | d => d) = (List.range 96).map fun i : Nat => PyData.int (t.day ((i : Int) + 1)) := by
    unfold rangeD
    rw [List.map_map]
    refine List.map_congr_left fun i _ => ?_
    show PyData.int (t.day (1 + (i : Int))) = _
    rw [Int.add_comm]
  rw [e] at h
  unfold g_law_prices b_law_prices
  generalize (List.range 96).map (fun i : Nat => PyData.int (t.day ((i : Int) + 1))) = D at *
  have hr : (rangeD 1 96).length < 16777216 := by rw [rangeD_len]; decide
  generalize hR : rangeD 1 96 = R at *
  simp [runD, entry, sRetF, sLc, iRange2, sC, wipeR, hR, hr, h, outD]
end Lw

namespace Lw
open PySem PySem.Spec PyProof.Rows L2 Lay
local macro_rules | `(tactic| walk_at "ev") => `(tactic| simp [bind_ite, map_ite, runD, runF, runB, entry, outD, outF, outB, sVar, sC, sBin, sTst, sChain, sAndT, sOrT, sNotT, sAndV, sOrV, sNotV, sIfE, sNeg, sNil, sCons, sTup, sLst, sL, sOwnIx, sNoP, sPart, sSlice, sCat, sCall, sCallF, sCallB, iSeq, iRange1, iRange2, iEnumS, iZipS, gN, tgNil, tgCons, gT, tYesS, sSkip, sSeq, sStuck, sFrz, sSet, sSetF, sUnp, sPar, sApp, sSetIx, sDrop, sRet, sRetF, sRetO, sIf, sIsi, sBorT, sBor, hideOwn, SV.isOwn, pLe, pLt, pGt, pGe, pAdd, pSub, pIdx, pLen, pIsN, pNotN, dInt, dBool, dTup, dLst, dStr, pMin2, pMax2, pEq_int, pNe_int, atI, ixN, sFor, sLc, wipeR])
local macro_rules | `(tactic| walk_at "evs") => `(tactic| simp [*, bind_ite, map_ite, runD, runF, runB, entry, outD, outF, outB, sVar, sC, sBin, sTst, sChain, sAndT, sOrT, sNotT, sAndV, sOrV, sNotV, sIfE, sNeg, sNil, sCons, sTup, sLst, sL, sOwnIx, sNoP, sPart, sSlice, sCat, sCall, sCallF, sCallB, iSeq, iRange1, iRange2, iEnumS, iZipS, gN, tgNil, tgCons, gT, tYesS, sSkip, sSeq, sStuck, sFrz, sSet, sSetF, sUnp, sPar, sApp, sSetIx, sDrop, sRet, sRetF, sRetO, sIf, sIsi, sBorT, sBor, hideOwn, SV.isOwn, pLe, pLt, pGt, pGe, pAdd, pSub, pIdx, pLen, pIsN, pNotN, dInt, dBool, dTup, dLst, dStr, pMin2, pMax2, pEq_int, pNe_int, sFor, sLc, wipeR])
/-! ## a law's tariff -/
theorem lcL_inv {vs : List Nat} {g : SemG} {s : Sem1} (I : Rho → Prop) (P : PyData → Prop) : ∀ (ds : List PyData) (ρ : Rho), I ρ → (∀ d ∈ ds, ∀ ρ, I ρ → ∃ ρ1 x ρ2, g d ρ = some ρ1 ∧ s ρ1 = some (x, ρ2) ∧ P x ∧ I (wipeR ρ2 vs)) →
    ∃ xs ρ', lcL vs g tYesS s ds ρ = some (xs, ρ') ∧ I ρ' ∧ (∀ x ∈ xs, P x) ∧ xs.length = ds.length
  | [], ρ, h0, _ => ⟨[], ρ, rfl, h0, fun _ h => absurd h List.not_mem_nil, rfl⟩
  | d :: ds, ρ, h0, h => by
    obtain ⟨ρ1, x, ρ2, h1, h2, h3, h4⟩ := h d List.mem_cons_self ρ h0
    obtain ⟨xs, ρ', h5, h6, h7, h8⟩ := lcL_inv I P ds _ h4 fun e he => h e (List.mem_cons_of_mem _ he)
    refine ⟨x :: xs, ρ', ?_, h6, fun y hy => ?_, by rw [List.length_cons, List.length_cons, h8]⟩
    · unfold lcL tYesS
      rw [h1]
      show (s ρ1).bind _ = _
      rw [h2]
      show (lcL vs g tYesS s ds (wipeR ρ2 vs)).map _ = _
      rw [h5]
      rfl
    · rcases List.mem_cons.mp hy with e | e
      · rw [e]
        exact h3
      · exact h7 y e
theorem ints_of : ∀ {ds : List PyData} {P : Int → Prop}, (∀ d ∈ ds, ∃ z : Int, d = .int z ∧ P z) → ∃ zs : List Int, ds = zs.map .int ∧ zs.length = ds.length ∧ ∀ z ∈ zs, P z
  | [], _, _ => ⟨[], rfl, rfl, fun _ h => absurd h List.not_mem_nil⟩
  | d :: ds, P, h => by
    obtain ⟨z, rfl, hz⟩ := h d List.mem_cons_self
    obtain ⟨zs, rfl, h1, h2⟩ := ints_of fun e he => h e (List.mem_cons_of_mem _ he)
    refine ⟨z :: zs, rfl, by rw [List.length_cons, List.length_cons, h1], fun y hy => ?_⟩
    rcases List.mem_cons.mp hy with e | e
    · rw [e]
      exact hz
    · exact h2 y e
theorem intsOf_ints : ∀ zs : List Int, intsOf (zs.map .int) = some zs
  | [] => rfl
  | z :: zs => by
    show (intsOf (zs.map .int)).map _ = _
    rw [intsOf_ints zs]
    rfl
/-- a rising list of numbers -/
def upI : Int → List Int → Prop
  | _, [] => True
  | a, b :: r => a < b ∧ upI b r
theorem risesR_snoc : ∀ {rows : List (Int × Int)} {z : Int × Int} {u p : Int}, risesR z rows → (lastR z rows).1 < u → (lastR z rows).2 ≤ p → risesR z (rows ++ [(u, p)])
  | [], z, u, p, _, h1, h2 => ⟨h1, h2, trivial⟩
  | r :: rows, z, u, p, h, h1, h2 => ⟨h.1, h.2.1, risesR_snoc h.2.2 h1 h2⟩
theorem lastR_snoc (rows : List (Int × Int)) (z r : Int × Int) : lastR z (rows ++ [r]) = r := by
  unfold lastR
  rw [List.foldl_append]
  rfl
/-- rows under way -/
structure RowsOk (w : Int) (rows : List (Int × Int)) (a p : Int) : Prop where
  last : lastR (0, 0) rows = (a, p)
  rise : risesR (0, 0) rows
  rng : ∀ r ∈ rows, 1 ≤ r.1 ∧ r.1 ≤ 95 ∧ 0 ≤ r.2 ∧ r.2 ≤ w * rows.length
  p0 : 0 ≤ p
  p1 : p ≤ w * rows.length
  a0 : 0 ≤ a
theorem RowsOk.snoc {w : Int} {rows : List (Int × Int)} {a p u q : Int} (h : RowsOk w rows a p) (hw : 1 ≤ w) (h1 : a < u) (h2 : u ≤ 95) (h3 : p ≤ q) (h4 : q ≤ p + w) : RowsOk w (rows ++ [(u, q)]) u q := by
  have hl : w * ((rows ++ [(u, q)]).length : Int) = w * rows.length + w := by
    rw [List.length_append, Int.natCast_add, Int.mul_add]
    show _ + w * 1 = _
    rw [Int.mul_one]
  have p0 := h.p0
  have p1 := h.p1
  have a0 := h.a0
  refine ⟨lastR_snoc _ _ _, risesR_snoc h.rise (by rw [h.last]; exact h1) (by rw [h.last]; exact h3), fun r hr => ?_, by omega, by omega, by omega⟩
  rw [hl]
  rcases List.mem_append.mp hr with e | e
  · have := h.rng r e
    omega
  · rw [List.mem_singleton.mp e]
    show 1 ≤ u ∧ u ≤ 95 ∧ 0 ≤ q ∧ q ≤ _
    omega
/-- what the bag's slot and the width are -/
theorem tariff_turn {bs : List PyData} (hb : IsBag bs) {w : Int} (hw : 1 ≤ w) (x3 x4 : SV) (rows : List (Int × Int)) (p u : Int) (y7 y8 y9 : SV) (hr : rows.length ≤ 900) :
    ∃ bs' q, IsBag bs' ∧ p ≤ q ∧ q ≤ p + w ∧ b_law_tariff_l6 [.own bs, .val (.int w), x3, x4, .val (.tuple (rows.map rowD)), .val (.int p), .val (.int u), y7, y8, y9] =
      some (.nx [.own bs', .val (.int w), x3, x4, .val (.tuple ((rows ++ [(u, q)]).map rowD)), .val (.int q), .val (.int u), y7, y8, y9]) := by
  obtain ⟨z, b1, h1, z0, z1, hb1⟩ := take_eq hb (n := w) (by omega)
  obtain ⟨k, b2, h2, k0, k1, hb2⟩ := take_eq hb1 (n := 3) (by decide)
  have ha := atI_in (ds := [.int 0, .int z, .int (w / 2)]) k0 k1
  obtain ⟨d, hd, hk⟩ := ha
  have hd' : ∃ m : Int, d = .int m ∧ 0 ≤ m ∧ m ≤ w := by
    simp only [List.mem_cons, List.not_mem_nil, or_false] at hd
    rcases hd with e | e | e
    · exact ⟨0, e, by omega, by omega⟩
    · exact ⟨z, e, by omega, by omega⟩
    · exact ⟨w / 2, e, by omega, by omega⟩
  obtain ⟨m, rfl, m0, m1⟩ := hd'
  refine ⟨b2, p + m, hb2, by omega, by omega, ?_⟩
  have e : (rows ++ [(u, p + m)]).map rowD = rows.map rowD ++ [.tuple [.int u, .int (p + m)]] := by rw [List.map_append]; rfl
  rw [e]
  have hl : (rows.map rowD).length ≤ 900 := by rw [List.length_map]; exact hr
  generalize rows.map rowD = R at *
  clear e hd
  unfold b_law_tariff_l6
  simp [sSeq, sSet, sBin, sVar, sC, sL, sLst, sCons, sNil, sCallB, sTup, pFdiv, pIdx, pAdd, h1, h2, hk, hl, *]
  omega
theorem tariff_rows {w : Int} (hw : 1 ≤ w) (x2 x3 y7 y8 y9 : SV) : ∀ (us : List Int) (bs : List PyData) (rows : List (Int × Int)) (a p : Int) (x6 : SV), IsBag bs → RowsOk w rows a p → us.Pairwise (· < ·) → (∀ u ∈ us, a < u ∧ u ≤ 95) → rows.length + us.length ≤ 4 →
    ∃ bs' rows' a' p' x6', IsBag bs' ∧ RowsOk w rows' a' p' ∧ rows'.length ≤ 4 ∧ forL (gN 6) b_law_tariff_l6 (us.map .int) [.own bs, .val (.int w), x2, x3, .val (.tuple (rows.map rowD)), .val (.int p), x6, y7, y8, y9] =
      some (.nx [.own bs', .val (.int w), x2, x3, .val (.tuple (rows'.map rowD)), .val (.int p'), x6', y7, y8, y9])
  | [], bs, rows, a, p, x6, hb, hr, _, _, hl => ⟨bs, rows, a, p, x6, hb, hr, by simpa using hl, rfl⟩
  | u :: us, bs, rows, a, p, x6, hb, hr, hp, hu, hl => by
    rw [List.length_cons] at hl
    obtain ⟨b1, q, hb1, q0, q1, e1⟩ := tariff_turn hb hw x2 x3 rows p u y7 y8 y9 (by omega)
    obtain ⟨hp1, hp2⟩ := List.pairwise_cons.mp hp
    have hu1 := hu u List.mem_cons_self
    obtain ⟨b2, rows', a', p', x6', h1, h2, h3, h4⟩ := tariff_rows hw x2 x3 y7 y8 y9 us b1 (rows ++ [(u, q)]) u q (.val (.int u)) hb1 (hr.snoc hw hu1.1 hu1.2 q0 q1) hp2 (fun v hv => ⟨hp1 v hv, (hu v (List.mem_cons_of_mem _ hv)).2⟩) (by rw [List.length_append]; show _ + 1 + _ ≤ 4; omega)
    refine ⟨b2, rows', a', p', x6', h1, h2, h3, ?_⟩
    rw [List.map_cons]
    unfold forL
    show (b_law_tariff_l6 [.own bs, .val (.int w), x2, x3, .val (.tuple (rows.map rowD)), .val (.int p), .val (.int u), y7, y8, y9]).bind _ = _
    rw [e1]
    exact h4
/-- bounds of a law's tariff -/
structure Tariff.Small (t : Tariff) (w : Int) : Prop where
  rows : ∀ r ∈ t.rows, r.2 ≤ 4 * w
  up : t.up ≤ w
  cap : ∀ c, t.cap = some c → c ≤ 7 * w
theorem sdd_length (zs : List Int) : (sdd zs).length ≤ zs.length := by
  have ins : ∀ (k : Int) (xs : List Int), (insD k xs).length ≤ xs.length + 1 := by
    intro k xs
    induction xs with
    | nil => exact Nat.le_refl _
    | cons x xs ih =>
      unfold insD
      split
      · exact Nat.le_refl _
      · split
        · exact Nat.le_succ _
        · exact Nat.succ_le_succ ih
  induction zs with
  | nil => exact Nat.le_refl _
  | cons z zs ih => exact Nat.le_trans (ins z (sdd zs)) (Nat.succ_le_succ ih)
theorem untils_eq {bs : List PyData} (hb : IsBag bs) (w : Int) : ∃ (bs' : List PyData) (us : List Int), IsBag bs' ∧ us.Pairwise (· < ·) ∧ (∀ u ∈ us, 0 < u ∧ u ≤ 95) ∧ us.length ≤ 4 ∧
    sSortSet (sL (sLc [3] (iRange1 (sCallB g_law_take 0 (sCons (sC (.int 5)) sNil))) (gN 3) tYesS (sBin pAdd (sC (.int 1)) (sCallB g_law_take 0 (sCons (sBin pIdx (sL (sLst (sCons (sC (.int 8)) (sCons (sC (.int 95)) sNil)))) (sCallB g_law_take 0 (sCons (sC (.int 2)) sNil))) sNil)))))
      [.own bs, .val (.int w), .no, .no, .no, .no, .no, .no, .no, .no] = some (us.map .int, [.own bs', .val (.int w), .no, .no, .no, .no, .no, .no, .no, .no]) := by
  obtain ⟨k, b1, h1, k0, k1, hb1⟩ := take_eq hb (n := 5) (by decide)
  obtain ⟨xs, ρ', e1, ⟨b2, hb2, rfl⟩, hxs, hlen⟩ := lcL_inv (vs := [3]) (g := gN 3) (s := sBin pAdd (sC (.int 1)) (sCallB g_law_take 0 (sCons (sBin pIdx (sL (sLst (sCons (sC (.int 8)) (sCons (sC (.int 95)) sNil)))) (sCallB g_law_take 0 (sCons (sC (.int 2)) sNil))) sNil)))
    (fun ρ => ∃ b, IsBag b ∧ ρ = [.own b, .val (.int w), .no, .no, .no, .no, .no, .no, .no, .no]) (fun d => ∃ z : Int, d = .int z ∧ (0 < z ∧ z ≤ 95)) (rangeD 0 k.toNat) [.own b1, .val (.int w), .no, .no, .no, .no, .no, .no, .no, .no] ⟨b1, hb1, rfl⟩ fun d hd ρ hρ => by
      obtain ⟨b, hb, rfl⟩ := hρ
      obtain ⟨j, b3, h2, j0, j1, hb3⟩ := take_eq hb (n := 2) (by decide)
      obtain ⟨m, hm, e2⟩ := atI_in (ds := [.int 8, .int 95]) j0 j1
      have hm' : ∃ i : Int, m = .int i ∧ 0 < i ∧ i ≤ 95 := by
        simp only [List.mem_cons, List.not_mem_nil, or_false] at hm
        rcases hm with e | e
        · exact ⟨8, e, by decide, by decide⟩
        · exact ⟨95, e, by decide, by decide⟩
      obtain ⟨i, rfl, i0, i1⟩ := hm'
      obtain ⟨z, b4, h3, z0, z1, hb4⟩ := take_eq hb3 i0
      refine ⟨_, .int (1 + z), [.own b4, .val (.int w), .no, .val d, .no, .no, .no, .no, .no, .no], rfl, ?_, ⟨1 + z, rfl, by omega, by omega⟩, b4, hb4, rfl⟩
      simp [sBin, sC, sL, sLst, sCons, sNil, sCallB, pIdx, pAdd, h2, e2, h3]
  obtain ⟨zs, rfl, hl, hz⟩ := ints_of hxs
  rw [rangeD_len] at hlen
  have hzl : zs.length ≤ 4 := by omega
  have hsl := sdd_length zs
  refine ⟨b2, sdd zs, hb2, rise_sdd zs, fun u hu => hz u (mem_sdd.mp hu), by omega, ?_⟩
  have c1 : -4611686018427387904 ≤ k := by omega
  have c2 : k < 4611686018427387904 := by omega
  have c3 : (rangeD 0 k.toNat).length < 16777216 := by rw [rangeD_len]; omega
  have hi := intsOf_ints zs
  have c4 : zs.length ≤ 4000 ∧ (sdd zs).length < 64 := by omega
  generalize hS : (sBin pAdd (sC (.int 1)) (sCallB g_law_take 0 (sCons (sBin pIdx (sL (sLst (sCons (sC (.int 8)) (sCons (sC (.int 95)) sNil)))) (sCallB g_law_take 0 (sCons (sC (.int 2)) sNil))) sNil))) = S at *
  generalize zs.map PyData.int = Z at *
  clear hS hxs
  simp [sSortSet, sL, sLc, iRange1, sCallB, sCons, sNil, sC, h1, c1, c2, c3, wipeR, e1, hi, c4]
theorem law_tariff_eq {bs : List PyData} (hb : IsBag bs) {w : Int} (hw : 1 ≤ w) (hw2 : w ≤ 1000) : ∃ (t : Tariff) (bs' : List PyData), t.Ok ∧ t.Small w ∧ IsBag bs' ∧ g_law_tariff bs [.int w] = some (t.dat, bs') := by
  obtain ⟨b1, us, hb1, hus, hub, hul, e1⟩ := untils_eq hb w
  obtain ⟨b2, rows, a, p, x6, hb2, hr, hrl, e2⟩ := tariff_rows hw (.val (.list (us.map .int))) .no .no .no .no us b1 [] 0 0 .no hb1 ⟨rfl, trivial, fun _ h => absurd h List.not_mem_nil, by omega, by simp, by omega⟩ hus hub (by simpa using hul)
  have hp0 := hr.p0
  have hp1 : p ≤ 4 * w := by
    have h1 := hr.p1
    have h2 : w * (rows.length : Int) ≤ w * 4 := Int.mul_le_mul_of_nonneg_left (by omega) (by omega)
    omega
  obtain ⟨g1, b3, h3, g10, g11, hb3⟩ := take_eq hb2 (n := 5) (by decide)
  obtain ⟨g2, b4, h4, g20, g21, hb4⟩ := take_eq hb3 (n := 97) (by decide)
  obtain ⟨k1, b5, h5, k10, k11, hb5⟩ := take_eq hb4 (n := 5) (by decide)
  obtain ⟨gd, hgd, i1⟩ := atI_in (ds := [.int 0, .int 0, .int 0, .int g1, .int g2]) k10 k11
  obtain ⟨gr, rfl, gr0, gr1⟩ : ∃ i : Int, gd = .int i ∧ 0 ≤ i ∧ i ≤ 96 := by
    simp only [List.mem_cons, List.not_mem_nil, or_false] at hgd
    rcases hgd with e | e | e | e | e
    · exact ⟨0, e, by decide, by decide⟩
    · exact ⟨0, e, by decide, by decide⟩
    · exact ⟨0, e, by decide, by decide⟩
    · exact ⟨g1, e, by omega, by omega⟩
    · exact ⟨g2, e, by omega, by omega⟩
  obtain ⟨k2, b6, h6, k20, k21, hb6⟩ := take_eq hb5 (n := 2) (by decide)
  obtain ⟨ud, hud, i2⟩ := atI_in (ds := [.int 4, .int 96]) k20 k21
  obtain ⟨ui, rfl, ui0, ui1⟩ : ∃ i : Int, ud = .int i ∧ 0 < i ∧ i ≤ 96 := by
    simp only [List.mem_cons, List.not_mem_nil, or_false] at hud
    rcases hud with e | e
    · exact ⟨4, e, by decide, by decide⟩
    · exact ⟨96, e, by decide, by decide⟩
  obtain ⟨un, b7, h7, un0, un1, hb7⟩ := take_eq hb6 ui0
  obtain ⟨c1, b8, h8, c10, c11, hb8⟩ := take_eq hb7 (n := 3 * w) (by omega)
  obtain ⟨c2, b9, h9, c20, c21, hb9⟩ := take_eq hb8 (n := 4 * w + 1) (by omega)
  obtain ⟨k3, b10, h10, k30, k31, hb10⟩ := take_eq hb9 (n := 3) (by decide)
  obtain ⟨cd, hcd, i3⟩ := atI_in (ds := [.none, .int (p + c1), .int c2]) k30 k31
  obtain ⟨cp, rfl, cp0⟩ : ∃ i : Option Int, cd = capD i ∧ ∀ c, i = some c → 0 ≤ c ∧ c ≤ 7 * w := by
    simp only [List.mem_cons, List.not_mem_nil, or_false] at hcd
    rcases hcd with e | e | e
    · exact ⟨none, e, fun _ h => by cases h⟩
    · exact ⟨some (p + c1), e, fun _ h => by cases h; omega⟩
    · exact ⟨some c2, e, fun _ h => by cases h; omega⟩
  obtain ⟨m1, b11, h11, m10, m11, hb11⟩ := take_eq hb10 (n := w) (by omega)
  obtain ⟨m2, b12, h12, m20, m21, hb12⟩ := take_eq hb11 (n := w) (by omega)
  obtain ⟨k4, b13, h13, k40, k41, hb13⟩ := take_eq hb12 (n := 3) (by decide)
  obtain ⟨md, hmd, i4⟩ := atI_in (ds := [.int 0, .int m1, .int (1 + m2)]) k40 k41
  obtain ⟨mo, rfl, mo0, mo1⟩ : ∃ i : Int, md = .int i ∧ 0 ≤ i ∧ i ≤ w := by
    simp only [List.mem_cons, List.not_mem_nil, or_false] at hmd
    rcases hmd with e | e | e
    · exact ⟨0, e, by omega, by omega⟩
    · exact ⟨m1, e, by omega, by omega⟩
    · exact ⟨1 + m2, e, by omega, by omega⟩
  have hrw : ∀ r ∈ rows, r.2 ≤ 4 * w := fun r h => by
    have h1 := (hr.rng r h).2.2.2
    have h2 : w * (rows.length : Int) ≤ w * 4 := Int.mul_le_mul_of_nonneg_left (by omega) (by omega)
    omega
  refine ⟨⟨gr, rows, 1 + un, mo, cp⟩, b13, ⟨gr0, gr1, hrl, fun r h => ?_, hr.rise, by show 1 ≤ 1 + un; omega, by show 1 + un ≤ 96; omega, mo0, by show mo ≤ 1000000; omega, fun c h => ?_⟩, ⟨hrw, mo1, fun c h => (cp0 c h).2⟩, hb13, ?_⟩
  · have := hr.rng r h
    have := hrw r h
    omega
  · have := cp0 c h
    omega
  · unfold g_law_tariff b_law_tariff Tariff.dat
    have hul2 : (us.map PyData.int).length < 16777216 := by rw [List.length_map]; omega
    rw [List.map_nil] at e2
    generalize (sSortSet _) = S at *
    generalize us.map PyData.int = U at *
    generalize rows.map rowD = R at *
    simp [runB, entry, sSeq, sSet, sL, e1, sUnp, gT, tgCons, tgNil, gN, sTup, sCons, sNil, sC, sFor, iSeq, sVar, e2, sBin, sLst, sCallB, pIdx, pAdd, pMul, h3, h4, h5, i1, h6, i2, h7, h8, h9, h10, i3, h11, h12, h13, i4, sRet, outB, hul2]
end Lw

namespace Lw
open PySem PySem.Spec PyProof.Rows L2 Lay
local macro_rules | `(tactic| walk_at "ev") => `(tactic| simp [bind_ite, map_ite, runD, runF, runB, entry, outD, outF, outB, sVar, sC, sBin, sTst, sChain, sAndT, sOrT, sNotT, sAndV, sOrV, sNotV, sIfE, sNeg, sNil, sCons, sTup, sLst, sL, sOwnIx, sNoP, sPart, sSlice, sCat, sCall, sCallF, sCallB, iSeq, iRange1, iRange2, iEnumS, iZipS, gN, tgNil, tgCons, gT, tYesS, sSkip, sSeq, sStuck, sFrz, sSet, sSetF, sUnp, sPar, sApp, sSetIx, sDrop, sRet, sRetF, sRetO, sIf, sIsi, sBorT, sBor, hideOwn, SV.isOwn, pLe, pLt, pGt, pGe, pAdd, pSub, pIdx, pLen, pIsN, pNotN, dInt, dBool, dTup, dLst, dStr, pMin2, pMax2, pEq_int, pNe_int, atI, ixN, sFor, sLc, wipeR])
local macro_rules | `(tactic| walk_at "evs") => `(tactic| simp [*, bind_ite, map_ite, runD, runF, runB, entry, outD, outF, outB, sVar, sC, sBin, sTst, sChain, sAndT, sOrT, sNotT, sAndV, sOrV, sNotV, sIfE, sNeg, sNil, sCons, sTup, sLst, sL, sOwnIx, sNoP, sPart, sSlice, sCat, sCall, sCallF, sCallB, iSeq, iRange1, iRange2, iEnumS, iZipS, gN, tgNil, tgCons, gT, tYesS, sSkip, sSeq, sStuck, sFrz, sSet, sSetF, sUnp, sPar, sApp, sSetIx, sDrop, sRet, sRetF, sRetO, sIf, sIsi, sBorT, sBor, hideOwn, SV.isOwn, pLe, pLt, pGt, pGe, pAdd, pSub, pIdx, pLen, pIsN, pNotN, dInt, dBool, dTup, dLst, dStr, pMin2, pMax2, pEq_int, pNe_int, sFor, sLc, wipeR])
/-! ## the levels, counted from the changes -/
def preL (d : Int → Int) : Nat → List (Int × Int)
  | 0 => []
  | k + 1 => if d ((k : Int) + 2) = d ((k : Int) + 1) then preL d k else preL d k ++ [((k : Int) + 1, d ((k : Int) + 1))]
theorem lvl_pre (d : Int → Int) : ∀ k : Nat, lvl d (k + 1) = preL d k ++ [((k : Int) + 1, d ((k : Int) + 1))]
  | 0 => rfl
  | k + 1 => by
    show lvStep d (lvl d (k + 1)) _ = _
    rw [lvl_pre d k]
    have e : ((k + 1 : Nat) : Int) + 1 = (k : Int) + 2 := by omega
    rw [e]
    unfold lvStep
    rw [List.getLast?_append]
    show (if d ((k : Int) + 1) = d ((k : Int) + 2) then _ else _) = (if d ((k : Int) + 2) = d ((k : Int) + 1) then _ else _) ++ _
    by_cases h : d ((k : Int) + 2) = d ((k : Int) + 1)
    · rw [if_pos h, if_pos h.symm, List.dropLast_concat]
    · rw [if_neg h, if_neg fun h2 => h h2.symm]
theorem preL_len (d : Int → Int) : ∀ k, (preL d k).length ≤ k
  | 0 => Nat.le_refl _
  | k + 1 => by
    have ih := preL_len d k
    unfold preL
    split
    · omega
    · rw [List.length_append]
      show _ + 1 ≤ _
      omega
theorem atI_range {f : Nat → PyData} {n k : Nat} (h : k < n) : atI ((List.range n).map f) (k : Int) = some (f k) := by
  unfold atI ixN
  rw [List.length_map, List.length_range, if_pos (by omega), if_pos (by omega)]
  show ((List.range n).map f)[((k : Nat) : Int).toNat]? = _
  rw [Int.toNat_natCast, List.getElem?_map, List.getElem?_range h]
  rfl
theorem eqv_rows : ∀ l : List (Int × Int), PyData.eqv (.list (l.map rowD)) (.list (l.map rowD)) = true := fun l => eqv_refl _ (by
  show noDictsAll (l.map rowD) = true
  induction l with
  | nil => rfl
  | cons r l ih => exact ih)
theorem pNe_rows (l : List (Int × Int)) : pNe (.list (l.map rowD)) (.list (l.map rowD)) = some (.bool false) := by
  unfold pNe
  rw [if_pos ⟨shaped_rows l, shaped_rows l⟩, eqv_rows]
  rfl
def duesD (t : Tariff) : List PyData := (List.range 96).map fun i : Nat => .int (t.day ((i : Int) + 1))
def dueR (t : Tariff) (a b x4 : SV) (L : List (Int × Int)) (x6 x7 x8 : SV) : Rho := [a, b, .val t.dat, .val (.list (duesD t)), x4, .own (L.map rowD), x6, x7, x8]
theorem due_turn (t : Tariff) (a b x4 x8 x6 x7 : SV) (k : Nat) (hk : k < 96) : ∃ y6 y7, b_law_l6 (dueR t a b x4 (preL t.day k) (.val (.int (k : Int))) (.val (.int (t.day ((k : Int) + 1)))) x8) =
    some (.nx (dueR t a b x4 (if k = 95 then lvl t.day 96 else preL t.day (k + 1)) y6 y7 x8)) := by
  refine ⟨.val (.int (k : Int)), .val (.int (t.day ((k : Int) + 1))), ?_⟩
  have hlen : ((preL t.day k).map rowD).length < 16777216 := by
    rw [List.length_map]
    have := preL_len t.day k
    omega
  have ap : ∀ q : Int × Int, (preL t.day k).map rowD ++ [.tuple [.int q.1, .int q.2]] = (preL t.day k ++ [q]).map rowD := fun q => by rw [List.map_append]; rfl
  unfold b_law_l6 dueR
  by_cases h95 : k = 95
  · subst h95
    have e : lvl t.day 96 = preL t.day 95 ++ [(96, t.day 96)] := lvl_pre t.day 95
    rw [if_pos rfl, e, ← ap]
    generalize (preL t.day 95).map rowD = D at *
    walk_at "evs"
  · have h95' : ¬ ((k : Int) = 95) := by omega
    have hat : atI (duesD t) ((k : Int) + 1) = some (.int (t.day ((k : Int) + 2))) := by
      have h := atI_range (f := fun i : Nat => PyData.int (t.day ((i : Int) + 1))) (n := 96) (k := k + 1) (by omega)
      have e2 : ((k + 1 : Nat) : Int) = (k : Int) + 1 := by omega
      have e3 : (k : Int) + 1 + 1 = (k : Int) + 2 := by omega
      rw [e2, e3] at h
      exact h
    rw [if_neg h95]
    have e4 : preL t.day (k + 1) = if t.day ((k : Int) + 2) = t.day ((k : Int) + 1) then preL t.day k else preL t.day k ++ [((k : Int) + 1, t.day ((k : Int) + 1))] := rfl
    rw [e4]
    generalize duesD t = R at *
    by_cases hc : t.day ((k : Int) + 2) = t.day ((k : Int) + 1)
    · rw [if_pos hc]
      generalize (preL t.day k).map rowD = D at *
      clear e4
      walk_at "evs"
    · rw [if_neg hc, ← ap]
      generalize (preL t.day k).map rowD = D at *
      clear e4
      walk_at "evs"
theorem scan_eq (t : Tariff) (ht : t.Ok) (a b x4 r x5 x6 x7 x8 : SV) : ∃ y4, forL (gN 4) b_law_l4 (rangeD 0 290) [a, b, .val t.dat, r, x4, x5, x6, x7, x8] = some (.nx [a, b, .val t.dat, r, y4, x5, x6, x7, x8]) := by
  obtain ⟨ρ', h1, y, rfl⟩ := forL_nx (g := gN 4) (b := b_law_l4) (fun _ ρ => ∃ y, ρ = [a, b, .val t.dat, r, y, x5, x6, x7, x8]) (rangeD 0 290) 0 [a, b, .val t.dat, r, x4, x5, x6, x7, x8] ⟨x4, rfl⟩ fun i d ρ hd hi => by
    obtain ⟨y, rfl⟩ := hi
    obtain ⟨h1, h2⟩ := rangeD_get hd
    subst h2
    refine ⟨[a, b, .val t.dat, r, .val (.int (0 + (i : Int))), x5, x6, x7, x8], _, rfl, .inl ?_, .val (.int (0 + (i : Int))), rfl⟩
    have p1 := price_eq ht (n := 0 + (i : Int)) (by omega) (by omega)
    have p2 := law_price_eq t ht (0 + (i : Int)) (by omega)
    generalize (0 : Int) + (i : Int) = n at *
    unfold b_law_l4
    walk_at "evs"
  exact ⟨y, h1⟩
theorem enumD_days {f : Nat → PyData} {n i : Nat} {d : PyData} (h : (enumD ((List.range n).map f))[i]? = some d) : i < n ∧ d = .tuple [.int (i : Int), f i] := by
  obtain ⟨z, h1, h2⟩ := enumD_get h
  rw [List.getElem?_map] at h1
  obtain ⟨j, h3, h4⟩ := map_some h1
  obtain ⟨h5, h6⟩ := List.getElem?_eq_some_iff.mp h3
  rw [List.getElem_range] at h6
  rw [List.length_range] at h5
  subst h6 h4
  exact ⟨h5, h2⟩
theorem dues_eq (t : Tariff) (a b x4 x6 x7 x8 : SV) : ∃ y6 y7, forL (gT 2 (tgCons (gN 6) (tgCons (gN 7) tgNil))) b_law_l6 (enumD (duesD t)) (dueR t a b x4 [] x6 x7 x8) = some (.nx (dueR t a b x4 (lvl t.day 96) y6 y7 x8)) := by
  obtain ⟨ρ', h1, y6, y7, rfl⟩ := forL_nx (g := gT 2 (tgCons (gN 6) (tgCons (gN 7) tgNil))) (b := b_law_l6) (fun k ρ => ∃ y6 y7, ρ = dueR t a b x4 (if k = 96 then lvl t.day 96 else preL t.day k) y6 y7 x8) (enumD (duesD t)) 0 (dueR t a b x4 [] x6 x7 x8) ⟨x6, x7, rfl⟩ fun i d ρ hd hi => by
    obtain ⟨y6, y7, rfl⟩ := hi
    obtain ⟨h1, h2⟩ := enumD_days hd
    subst h2
    rw [Nat.zero_add, if_neg (by omega)]
    obtain ⟨z6, z7, h3⟩ := due_turn t a b x4 x8 y6 y7 i h1
    refine ⟨_, _, rfl, .inl h3, z6, z7, ?_⟩
    have : (i + 1 = 96) ↔ i = 95 := by omega
    simp only [this]
  have e : 0 + (enumD (duesD t)).length = 96 := by
    rw [enumD_len]
    unfold duesD
    rw [List.length_map, List.length_range]
  rw [e, if_pos rfl] at h1
  exact ⟨y6, y7, h1⟩
theorem pick_width {bs : List PyData} (hb : IsBag bs) (v w : Int) (a : SV) (ρ : Rho) : ∃ n bs', (n = v ∨ n = w) ∧ IsBag bs' ∧
    sBin pIdx (sL (sLst (sCons (sC (.int v)) (sCons (sC (.int w)) sNil)))) (sCallB g_law_take 1 (sCons (sC (.int 2)) sNil)) (a :: .own bs :: ρ) = some (.int n, a :: .own bs' :: ρ) := by
  obtain ⟨j, b3, h2, j0, j1, hb3⟩ := take_eq hb (n := 2) (by decide)
  obtain ⟨m, hm, e2⟩ := atI_in (ds := [.int v, .int w]) j0 j1
  obtain ⟨n, rfl, hn⟩ : ∃ n : Int, m = .int n ∧ (n = v ∨ n = w) := by
    simp only [List.mem_cons, List.not_mem_nil, or_false] at hm
    rcases hm with e | e
    · exact ⟨v, e, .inl rfl⟩
    · exact ⟨w, e, .inr rfl⟩
  refine ⟨n, b3, hn, hb3, ?_⟩
  simp [sBin, sC, sL, sLst, sCons, sNil, sCallB, pIdx, h2, e2]
theorem law_turn {bs : List PyData} (hb : IsBag bs) (a x2 x3 x4 x5 x6 x7 x8 : SV) : ∃ ρ2, b_law_l1 [a, .own bs, x2, x3, x4, x5, x6, x7, x8] = some (.nx ρ2) ∧ ∃ y1 y2 y3 y4 y5 y6 y7 y8, ρ2 = [a, y1, y2, y3, y4, y5, y6, y7, y8] := by
  obtain ⟨w, b1, hw, hb1, e1⟩ := pick_width hb 6 900 a [x2, x3, x4, x5, x6, x7, x8]
  obtain ⟨t, b2, ht, _, hb2, e2⟩ := law_tariff_eq hb1 (w := w) (by omega) (by omega)
  have e3 := law_prices_eq t ht
  obtain ⟨y4, e4⟩ := scan_eq t ht a (.own b2) x4 (.val (.list (duesD t))) x5 x6 x7 x8
  obtain ⟨y6, y7, e5⟩ := dues_eq t a (.own b2) y4 x6 x7 x8
  have e6 := levels_eq ht
  have e7 := pNe_rows (lvl t.day 96)
  have e8 : (duesD t).length < 16777216 := by unfold duesD; rw [List.length_map, List.length_range]; decide
  have e9 : ((lvl t.day 96).map rowD).length < 16777216 := by
    rw [List.length_map]
    have := lvl_len t.day 96
    omega
  unfold dueR at e5
  rw [List.map_nil] at e5
  show ∃ ρ2, _ ∧ _
  have e10 : g_law_prices [t.dat] = some (.list (duesD t)) := e3
  clear e3
  generalize duesD t = R at *
  generalize (lvl t.day 96).map rowD = D at *
  generalize hS : sBin pIdx (sL (sLst (sCons (sC (.int 6)) (sCons (sC (.int 900)) sNil)))) (sCallB g_law_take 1 (sCons (sC (.int 2)) sNil)) = S at *
  refine ⟨[a, .own b2, .val t.dat, .val (.list R), y4, .val (.list D), y6, y7, .own (D ++ [.int 0])], ?_, _, _, _, _, _, _, _, _, rfl⟩
  unfold b_law_l1
  rw [hS]
  clear hS
  simp [sSeq, sSet, sSetF, sCallB, sCons, sNil, e1, e2, e10, sCall, sCallF, sVar, sC, sFor, iRange1, e4, sL, sLst, iEnumS, e5, e6, sFrz, sIf, sBorT, sOrT, sTst, sNotT, sBin, e7, sIsi, dLst, hideOwn, SV.isOwn, sSkip, sApp, e8, e9]
end Lw

namespace Lw
open PySem PySem.Spec PyProof.Rows L2 Lay
local macro_rules | `(tactic| walk_at "ev") => `(tactic| simp [bind_ite, map_ite, runD, runF, runB, entry, outD, outF, outB, sVar, sC, sBin, sTst, sChain, sAndT, sOrT, sNotT, sAndV, sOrV, sNotV, sIfE, sNeg, sNil, sCons, sTup, sLst, sL, sOwnIx, sNoP, sPart, sSlice, sCat, sCall, sCallF, sCallB, iSeq, iRange1, iRange2, iEnumS, iZipS, gN, tgNil, tgCons, gT, tYesS, sSkip, sSeq, sStuck, sFrz, sSet, sSetF, sUnp, sPar, sApp, sSetIx, sDrop, sRet, sRetF, sRetO, sIf, sIsi, sBorT, sBor, hideOwn, SV.isOwn, pLe, pLt, pGt, pGe, pAdd, pSub, pIdx, pLen, pIsN, pNotN, dInt, dBool, dTup, dLst, dStr, pMin2, pMax2, pEq_int, pNe_int, atI, ixN, sFor, sLc, wipeR])
local macro_rules | `(tactic| walk_at "evs") => `(tactic| simp [*, bind_ite, map_ite, runD, runF, runB, entry, outD, outF, outB, sVar, sC, sBin, sTst, sChain, sAndT, sOrT, sNotT, sAndV, sOrV, sNotV, sIfE, sNeg, sNil, sCons, sTup, sLst, sL, sOwnIx, sNoP, sPart, sSlice, sCat, sCall, sCallF, sCallB, iSeq, iRange1, iRange2, iEnumS, iZipS, gN, tgNil, tgCons, gT, tYesS, sSkip, sSeq, sStuck, sFrz, sSet, sSetF, sUnp, sPar, sApp, sSetIx, sDrop, sRet, sRetF, sRetO, sIf, sIsi, sBorT, sBor, hideOwn, SV.isOwn, pLe, pLt, pGt, pGe, pAdd, pSub, pIdx, pLen, pIsN, pNotN, dInt, dBool, dTup, dLst, dStr, pMin2, pMax2, pEq_int, pNe_int, sFor, sLc, wipeR])
def tEx : Tariff := ⟨1, [(4, 300), (8, 500)], 4, 100, some 900⟩
def tEx2 : Tariff := ⟨3, [(2, 5)], 4, 1, none⟩
def tEx3 : Tariff := ⟨0, [(4, 9)], 96, 7, some 5⟩
theorem tEx_ok : tEx.Ok := ⟨by decide, by decide, by decide, by decide, by unfold tEx risesR risesR risesR; decide, by decide, by decide, by decide, by decide, fun c h => by cases h; decide⟩
theorem tEx2_ok : tEx2.Ok := ⟨by decide, by decide, by decide, by decide, by unfold tEx2 risesR risesR; decide, by decide, by decide, by decide, by decide, fun c h => by cases h⟩
theorem tEx3_ok : tEx3.Ok := ⟨by decide, by decide, by decide, by decide, by unfold tEx3 risesR risesR; decide, by decide, by decide, by decide, by decide, fun c h => by cases h; decide⟩
theorem law_true (ns : List Int) (hl : ns.length ≤ 63) (hb : ∀ z ∈ ns, Builtin.Int.intBits z ≤ 1048576) : g_law [.list (ns.map .int)] = some (.bool true) := by
  obtain ⟨bss, e1, hbs⟩ := bags_eq ns hl 10 (by decide) (by decide)
  obtain ⟨ρ', e2, y1, y2, y3, y4, y5, y6, y7, y8, rfl⟩ := forBL_nx (i := 1) (b := b_law_l1) (fun ρ => ∃ y1 y2 y3 y4 y5 y6 y7 y8, ρ = [.val (.list (ns.map .int)), y1, y2, y3, y4, y5, y6, y7, y8]) IsBag bss
    [.val (.list (ns.map .int)), .no, .no, .no, .no, .no, .no, .no, .no] ⟨_, _, _, _, _, _, _, _, rfl⟩ hbs fun d ρ hd hρ => by
      obtain ⟨y1, y2, y3, y4, y5, y6, y7, y8, rfl⟩ := hρ
      exact law_turn hd _ y2 y3 y4 y5 y6 y7 y8
  have l1 := levels_eq tEx_ok
  have l2 : lvl tEx.day 96 = [(1, 0), (4, 300), (8, 500), (12, 600), (16, 700), (20, 800), (96, 900)] := by decide +kernel
  have l3 := pNe_rows (lvl tEx.day 96)
  rw [l2] at l1 l3
  have p1 := price_eq tEx_ok (n := 97) (by decide) (by decide)
  have p2 := price_eq tEx_ok (n := 98) (by decide) (by decide)
  have p3 := price_eq tEx_ok (n := 0) (by decide) (by decide)
  have p4 := price_eq tEx_ok (n := 96) (by decide) (by decide)
  have p5 := price_eq tEx2_ok (n := 3) (by decide) (by decide)
  have p6 := price_eq tEx3_ok (n := 1) (by decide) (by decide)
  have q1 : tEx.stay 97 = 900 := by decide +kernel
  have q2 : tEx.stay 98 = 1200 := by decide +kernel
  have q3 : tEx.stay 0 = 0 := by decide +kernel
  have q4 : tEx.stay 96 = 900 := by decide +kernel
  have q5 : tEx2.stay 3 = 0 := by decide +kernel
  have q6 : tEx3.stay 1 = 5 := by decide +kernel
  rw [q1] at p1
  rw [q2] at p2
  rw [q3] at p3
  rw [q4] at p4
  rw [q5] at p5
  rw [q6] at p6
  have d1 : tEx.dat = .tuple [.int 1, .tuple [.tuple [.int 4, .int 300], .tuple [.int 8, .int 500]], .int 4, .int 100, .int 900] := rfl
  have d2 : tEx2.dat = .tuple [.int 3, .tuple [.tuple [.int 2, .int 5]], .int 4, .int 1, .none] := rfl
  have d3 : tEx3.dat = .tuple [.int 0, .tuple [.tuple [.int 4, .int 9]], .int 96, .int 7, .int 5] := rfl
  rw [d1] at p1 p2 p3 p4 l1
  rw [d2] at p5
  rw [d3] at p6
  simp only [List.map_cons, List.map_nil, rowD] at l1 l3
  unfold g_law b_law
  generalize ns.map PyData.int = N at *
  simp [runD, entry, sSeq, sForB, sCallFF, sVar, sCons, sNil, sC, e1, e2, sSet, sTup, sIf, sTst, sOrT, sBin, sL, sCallF, sLst, sCall, l1, l3, p1, p2, p3, p4, p5, p6, pNe_int, pEq_int, sSkip, sRet, sAndV, outD]
end Lw

namespace Lw
open PySem PySem.Spec PyProof.Rows L2 Lay
def topS (i : Nat) : Stmt := PySem.Challenge.pw_staytariffs_k02_prices_of_stays.main.body.getD i (.Pass ⟨0, 0, 0, 0⟩)
abbrev s_is_integer : Stmt := topS 8
abbrev N_is_integer : List Str := ["value", "low", "high"]
abbrev s_is_row : Stmt := topS 9
abbrev N_is_row : List Str := ["value"]
abbrev s_are_rows : Stmt := topS 10
abbrev N_are_rows : List Str := ["value", "row", "one", "other"]
abbrev s_is_tariff : Stmt := topS 11
abbrev N_is_tariff : List Str := ["value", "grace", "rows", "unit", "unit_price", "cap"]
abbrev s_need_tariff : Stmt := topS 12
abbrev N_need_tariff : List Str := ["value"]
abbrev s_need_length : Stmt := topS 13
abbrev N_need_length : List Str := ["value"]
abbrev s_day_price : Stmt := topS 14
abbrev N_day_price : List Str := ["tariff", "length", "grace", "rows", "unit", "unit_price", "cap", "start", "paid", "until", "row_price"]
abbrev s_stay_price : Stmt := topS 15
abbrev N_stay_price : List Str := ["tariff", "length", "days"]
abbrev s_price : Stmt := topS 16
abbrev N_price : List Str := ["tariff", "length"]
abbrev s_level_list : Stmt := topS 17
abbrev N_level_list : List Str := ["tariff", "found", "length", "here"]
abbrev s_levels : Stmt := topS 18
abbrev N_levels : List Str := ["tariff"]
abbrev s_law_cell_at : Stmt := topS 20
abbrev N_law_cell_at : List Str := ["_law_script", "_law_k"]
abbrev s_law_draws : Stmt := topS 21
abbrev N_law_draws : List Str := ["_law_cell", "_law_many", "_law_size", "_law_found", "_law_rest", "_law_stirred", "_law_k"]
abbrev s_law_bag : Stmt := topS 22
abbrev N_law_bag : List Str := ["_law_script", "_law_k"]
abbrev s_law_bags : Stmt := topS 23
abbrev N_law_bags : List Str := ["_law_script", "_law_limit", "_law_k"]
abbrev s_law_take : Stmt := topS 24
abbrev N_law_take : List Str := ["_law_bag_here", "_law_many"]
abbrev s_law_tariff : Stmt := topS 25
abbrev N_law_tariff : List Str := ["_law_bag_here", "_law_wide", "_law_untils", "_law_turn", "_law_rows", "_law_paid", "_law_until", "_law_grace", "_law_unit", "_law_cap"]
abbrev s_law_day : Stmt := topS 26
abbrev N_law_day : List Str := ["_law_tariff_here", "_law_length", "_law_grace", "_law_rows", "_law_unit", "_law_more", "_law_cap", "_law_fits", "_law_until", "_law_paid", "_law_place"]
abbrev s_law_price : Stmt := topS 27
abbrev N_law_price : List Str := ["_law_tariff_here", "_law_length", "_law_rest"]
abbrev s_law_prices : Stmt := topS 28
abbrev N_law_prices : List Str := ["_law_tariff_here", "_law_length"]
abbrev s_law : Stmt := topS 29
abbrev N_law : List Str := ["_law_script", "_law_bag_here", "_law_tariff_here", "_law_rows", "_law_length", "_law_due", "_law_place", "_law_paid", "_law_found"]
structure Txt (K : PySem.W.Frag) (mg : Str → Option Value) : Prop where
  f_is_integer : Fact K mg "is_integer" s_is_integer ["value", "low", "high"]
  f_is_row : Fact K mg "is_row" s_is_row ["value"]
  f_are_rows : Fact K mg "are_rows" s_are_rows ["value"]
  f_is_tariff : Fact K mg "is_tariff" s_is_tariff ["value"]
  f_need_tariff : Fact K mg "need_tariff" s_need_tariff ["value"]
  f_need_length : Fact K mg "need_length" s_need_length ["value"]
  f_day_price : Fact K mg "day_price" s_day_price ["tariff", "length"]
  f_stay_price : Fact K mg "stay_price" s_stay_price ["tariff", "length"]
  f_price : Fact K mg "price" s_price ["tariff", "length"]
  f_level_list : Fact K mg "level_list" s_level_list ["tariff"]
  f_levels : Fact K mg "levels" s_levels ["tariff"]
  f_law_cell_at : Fact K mg "_law_cell_at" s_law_cell_at ["_law_script", "_law_k"]
  f_law_draws : Fact K mg "_law_draws" s_law_draws ["_law_cell", "_law_many", "_law_size"]
  f_law_bag : Fact K mg "_law_bag" s_law_bag ["_law_script", "_law_k"]
  f_law_bags : Fact K mg "_law_bags" s_law_bags ["_law_script", "_law_limit"]
  f_law_take : Fact K mg "_law_take" s_law_take ["_law_bag_here", "_law_many"]
  f_law_tariff : Fact K mg "_law_tariff" s_law_tariff ["_law_bag_here", "_law_wide"]
  f_law_day : Fact K mg "_law_day" s_law_day ["_law_tariff_here", "_law_length"]
  f_law_price : Fact K mg "_law_price" s_law_price ["_law_tariff_here", "_law_length"]
  f_law_prices : Fact K mg "_law_prices" s_law_prices ["_law_tariff_here"]
  f_law : Fact K mg "law" s_law ["_law_script"]
  c_DAY : ∃ t, mg "DAY" = some (.int 96 t)
  c_MAX_LENGTH : ∃ t, mg "MAX_LENGTH" = some (.int 1000000000000000 t)
  c_MAX_PRICE : ∃ t, mg "MAX_PRICE" = some (.int 1000000 t)
  n_all : mg "all" = none
  n_bool : mg "bool" = none
  n_enumerate : mg "enumerate" = none
  n_int : mg "int" = none
  n_isinstance : mg "isinstance" = none
  n_len : mg "len" = none
  n_list : mg "list" = none
  n_max : mg "max" = none
  n_min : mg "min" = none
  n_range : mg "range" = none
  n_set : mg "set" = none
  n_sorted : mg "sorted" = none
  n_tuple : mg "tuple" = none
  n_zip : mg "zip" = none
section
variable {P : Program} {w : World} {K : PySem.W.Frag} {mg : Str → Option Value} {base : Heap}
theorem sc_is_integer : FnScope N_is_integer ["value", "low", "high"] (defScope s_is_integer) := ⟨rfl, rfl, rfl, by decide +kernel, rfl, by decide +kernel, by decide +kernel⟩
theorem ok_is_integer (T : Txt K mg) : DefOk P w K mg base 1 "is_integer" ["value", "low", "high"] (spD K g_is_integer) := def_D (N := N_is_integer) (b := b_is_integer) T.f_is_integer sc_is_integer (by decide) fun f cdv A outer s H E hr =>
  (jss_one (js_ret (je_and (je_isi isi_int (je_var 0) rfl T.n_isinstance rfl T.n_int (by decide +kernel)) (je_and (je_not (je_isi isi_bool (je_var 0) rfl T.n_isinstance rfl T.n_bool (by decide +kernel))) (je_one (je_chain op_le rb_le op_le rb_le (je_var 1) (je_var 0) (je_var 2)))))))
theorem sc_is_row : FnScope N_is_row ["value"] (defScope s_is_row) := ⟨rfl, rfl, rfl, by decide +kernel, rfl, by decide +kernel, by decide +kernel⟩
theorem ok_is_row (T : Txt K mg) : DefOk P w K mg base 2 "is_row" ["value"] (spD K g_is_row) := def_D (N := N_is_row) (b := b_is_row) T.f_is_row sc_is_row (by decide) fun f cdv A outer s H E hr =>
  (jss_cons (js_if (jt_bool (jw_or (jt_not (jt_val (je_isi isi_tup (je_var 0) rfl T.n_isinstance rfl T.n_tuple (by decide +kernel)))) (jw_or1 (jt_cmp (op_neD hr.units) rb_ne (nomark _) (je_callB call_len_seq rc_len rfl T.n_len (by decide +kernel) (ja_cons (je_var 0) ja_nil)) je_int)))) (jss_one (js_ret je_bl)) jss_nil) (jss_one (js_ret (je_and (je_call (ok_is_integer T) (hr.mono (by decide)) rfl (ja_cons (je_ix (je_var 0) je_int) (ja_cons je_int (ja_cons (je_bin op_sub rb_sub (je_gintE rfl T.c_DAY) je_int) ja_nil)))) (je_one (je_call (ok_is_integer T) (hr.mono (by decide)) rfl (ja_cons (je_ix (je_var 0) je_int) (ja_cons je_int (ja_cons (je_gintE rfl T.c_MAX_PRICE) ja_nil)))))))))
theorem sc_are_rows : FnScope N_are_rows ["value"] (defScope s_are_rows) := ⟨rfl, rfl, rfl, by decide +kernel, rfl, by decide +kernel, by decide +kernel⟩
theorem ok_are_rows (T : Txt K mg) : DefOk P w K mg base 3 "are_rows" ["value"] (spD K g_are_rows) := def_D (N := N_are_rows) (b := b_are_rows) T.f_are_rows sc_are_rows (by decide) fun f cdv A outer s H E hr =>
  (jss_cons (js_if (jt_bool (jw_or (jt_not (jt_val (je_isi isi_tup (je_var 0) rfl T.n_isinstance rfl T.n_tuple (by decide +kernel)))) (jw_or (jt_cmp op_gt rb_gt (nomark _) (je_callB call_len_seq rc_len rfl T.n_len (by decide +kernel) (ja_cons (je_var 0) ja_nil)) je_int) (jw_or1 (jt_not (jt_val (je_callB (cr_all rfl) rc_all rfl T.n_all (by decide +kernel) (ja_cons (je_l (jf_lc (own := [("row", 1)]) rfl sc_are_rows.nd (ji_seq (je_var 0)) (blkOk_by (N := N_are_rows) (sc := defScope s_are_rows) (by decide +kernel)) (fun _ _ _ _ _ => (jg_name 1 sc_are_rows.nd (by decide))) (fun _ _ _ _ _ => jts_nil) (fun _ _ _ _ _ => (je_call (ok_is_row T) (hr.mono (by decide)) rfl (ja_cons (je_var 1) ja_nil))))) ja_nil)))))))) (jss_one (js_ret je_bl)) jss_nil) (jss_one (js_ret (je_callB (cr_all rfl) rc_all rfl T.n_all (by decide +kernel) (ja_cons (je_l (jf_lc (own := [("one", 2), ("other", 3)]) rfl sc_are_rows.nd (ji_zip (je_var 0) (je_slice (je_var 0) (jo_some je_int) jo_none) rfl T.n_zip) (blkOk_by (N := N_are_rows) (sc := defScope s_are_rows) (by decide +kernel)) (fun _ _ _ _ _ => (jg_tup rfl (jgs_cons (jg_name 2 sc_are_rows.nd (by decide)) (jgs_cons (jg_name 3 sc_are_rows.nd (by decide)) jgs_nil)))) (fun _ _ _ _ _ => jts_nil) (fun _ _ _ _ _ => (je_and (je_cmp op_lt rb_lt (nomark _) (je_ix (je_var 2) je_int) (je_ix (je_var 3) je_int)) (je_one (je_cmp op_le rb_le (nomark _) (je_ix (je_var 2) je_int) (je_ix (je_var 3) je_int))))))) ja_nil)))))
theorem sc_is_tariff : FnScope N_is_tariff ["value"] (defScope s_is_tariff) := ⟨rfl, rfl, rfl, by decide +kernel, rfl, by decide +kernel, by decide +kernel⟩
theorem ok_is_tariff (T : Txt K mg) : DefOk P w K mg base 4 "is_tariff" ["value"] (spD K g_is_tariff) := def_D (N := N_is_tariff) (b := b_is_tariff) T.f_is_tariff sc_is_tariff (by decide) fun f cdv A outer s H E hr =>
  (jss_cons (js_if (jt_bool (jw_or (jt_not (jt_val (je_isi isi_tup (je_var 0) rfl T.n_isinstance rfl T.n_tuple (by decide +kernel)))) (jw_or1 (jt_cmp (op_neD hr.units) rb_ne (nomark _) (je_callB call_len_seq rc_len rfl T.n_len (by decide +kernel) (ja_cons (je_var 0) ja_nil)) je_int)))) (jss_one (js_ret je_bl)) jss_nil) (jss_cons (js_unp (vs := [1, 2, 3, 4, 5]) (by decide) (jg_tup rfl (jgs_cons (jg_name 1 sc_is_tariff.nd (by decide)) (jgs_cons (jg_name 2 sc_is_tariff.nd (by decide)) (jgs_cons (jg_name 3 sc_is_tariff.nd (by decide)) (jgs_cons (jg_name 4 sc_is_tariff.nd (by decide)) (jgs_cons (jg_name 5 sc_is_tariff.nd (by decide)) jgs_nil)))))) (je_var 0)) (jss_cons (js_if (jt_bool (jw_or (jt_not (jt_val (je_call (ok_is_integer T) (hr.mono (by decide)) rfl (ja_cons (je_var 1) (ja_cons je_int (ja_cons (je_gintE rfl T.c_DAY) ja_nil)))))) (jw_or (jt_not (jt_val (je_call (ok_are_rows T) (hr.mono (by decide)) rfl (ja_cons (je_var 2) ja_nil)))) (jw_or1 (jt_not (jt_val (je_call (ok_is_integer T) (hr.mono (by decide)) rfl (ja_cons (je_var 3) (ja_cons je_int (ja_cons (je_gintE rfl T.c_DAY) ja_nil)))))))))) (jss_one (js_ret je_bl)) jss_nil) (jss_one (js_ret (je_and (je_call (ok_is_integer T) (hr.mono (by decide)) rfl (ja_cons (je_var 4) (ja_cons je_int (ja_cons (je_gintE rfl T.c_MAX_PRICE) ja_nil)))) (je_one (je_or (je_cmp op_is2 rb_is (nomark _) (je_var 5) je_non) (je_one (je_call (ok_is_integer T) (hr.mono (by decide)) rfl (ja_cons (je_var 5) (ja_cons je_int (ja_cons (je_gintE rfl T.c_MAX_PRICE) ja_nil)))))))))))))
theorem sc_need_tariff : FnScope N_need_tariff ["value"] (defScope s_need_tariff) := ⟨rfl, rfl, rfl, by decide +kernel, rfl, by decide +kernel, by decide +kernel⟩
theorem ok_need_tariff (T : Txt K mg) : DefOk P w K mg base 5 "need_tariff" ["value"] (spD K g_need_tariff) := def_D (N := N_need_tariff) (b := b_need_tariff) T.f_need_tariff sc_need_tariff (by decide) fun f cdv A outer s H E hr =>
  (jss_one (js_if (jt_not (jt_val (je_call (ok_is_tariff T) (hr.mono (by decide)) rfl (ja_cons (je_var 0) ja_nil)))) (jss_one js_never) jss_nil))
theorem sc_need_length : FnScope N_need_length ["value"] (defScope s_need_length) := ⟨rfl, rfl, rfl, by decide +kernel, rfl, by decide +kernel, by decide +kernel⟩
theorem ok_need_length (T : Txt K mg) : DefOk P w K mg base 2 "need_length" ["value"] (spD K g_need_length) := def_D (N := N_need_length) (b := b_need_length) T.f_need_length sc_need_length (by decide) fun f cdv A outer s H E hr =>
  (jss_one (js_if (jt_not (jt_val (je_call (ok_is_integer T) (hr.mono (by decide)) rfl (ja_cons (je_var 0) (ja_cons je_int (ja_cons (je_gintE rfl T.c_MAX_LENGTH) ja_nil)))))) (jss_one js_never) jss_nil))
theorem sc_day_price : FnScope N_day_price ["tariff", "length"] (defScope s_day_price) := ⟨rfl, rfl, rfl, by decide +kernel, rfl, by decide +kernel, by decide +kernel⟩
theorem ok_day_price (T : Txt K mg) : DefOk P w K mg base 1 "day_price" ["tariff", "length"] (spD K g_day_price) := def_D (N := N_day_price) (b := b_day_price) T.f_day_price sc_day_price (by decide) fun f cdv A outer s H E hr =>
  (jss_cons (js_unp (vs := [2, 3, 4, 5, 6]) (by decide) (jg_tup rfl (jgs_cons (jg_name 2 sc_day_price.nd (by decide)) (jgs_cons (jg_name 3 sc_day_price.nd (by decide)) (jgs_cons (jg_name 4 sc_day_price.nd (by decide)) (jgs_cons (jg_name 5 sc_day_price.nd (by decide)) (jgs_cons (jg_name 6 sc_day_price.nd (by decide)) jgs_nil)))))) (je_var 0)) (jss_cons (js_if (jt_cmp op_le rb_le (nomark _) (je_var 1) (je_var 2)) (jss_one (js_ret je_int)) jss_nil) (jss_cons (js_unp (vs := [7, 8]) (by decide) (jg_tup rfl (jgs_cons (jg_name 7 sc_day_price.nd (by decide)) (jgs_cons (jg_name 8 sc_day_price.nd (by decide)) jgs_nil))) (je_tup (ja_cons je_int (ja_cons je_int ja_nil)))) (jss_cons (js_for (vs := [9, 10]) (by decide) (ji_seq (je_var 3)) (jg_tup rfl (jgs_cons (jg_name 9 sc_day_price.nd (by decide)) (jgs_cons (jg_name 10 sc_day_price.nd (by decide)) jgs_nil))) (jss_cons (js_if (jt_cmp op_le rb_le (nomark _) (je_var 1) (je_var 9)) (jss_one (js_ret (je_if (jt_cmp op_is2 rb_is (nomark _) (je_var 6) je_non) (je_var 10) (je_callB (call_min2 rfl) rc_min2 rfl T.n_min (by decide +kernel) (ja_cons (je_var 6) (ja_cons (je_var 10) ja_nil)))))) jss_nil) (jss_one (js_par 7 8 rfl sc_day_price.nd (je_var 9) (je_var 10)))) rfl) (jss_cons (js_set 8 sc_day_price.nd (je_bin op_add3 rb_add (je_var 8) (je_bin op_mul2 rb_mul (je_var 5) (je_bin op_fdiv rb_fdiv (je_bin op_sub rb_sub (je_bin op_add3 rb_add (je_bin op_sub rb_sub (je_var 1) (je_var 7)) (je_var 4)) je_int) (je_var 4))))) (jss_one (js_ret (je_if (jt_cmp op_is2 rb_is (nomark _) (je_var 6) je_non) (je_var 8) (je_callB (call_min2 rfl) rc_min2 rfl T.n_min (by decide +kernel) (ja_cons (je_var 6) (ja_cons (je_var 8) ja_nil)))))))))))
theorem sc_stay_price : FnScope N_stay_price ["tariff", "length"] (defScope s_stay_price) := ⟨rfl, rfl, rfl, by decide +kernel, rfl, by decide +kernel, by decide +kernel⟩
theorem ok_stay_price (T : Txt K mg) : DefOk P w K mg base 2 "stay_price" ["tariff", "length"] (spD K g_stay_price) := def_D (N := N_stay_price) (b := b_stay_price) T.f_stay_price sc_stay_price (by decide) fun f cdv A outer s H E hr =>
  (jss_cons (js_if (jt_cmp (op_eqD hr.units) rb_eq (nomark _) (je_var 1) je_int) (jss_one (js_ret je_int)) jss_nil) (jss_cons (js_set 2 sc_stay_price.nd (je_bin op_fdiv rb_fdiv (je_bin op_sub rb_sub (je_var 1) je_int) (je_gintE rfl T.c_DAY))) (jss_one (js_ret (je_bin op_add3 rb_add (je_bin op_mul2 rb_mul (je_var 2) (je_call (ok_day_price T) (hr.mono (by decide)) rfl (ja_cons (je_var 0) (ja_cons (je_gintE rfl T.c_DAY) ja_nil)))) (je_call (ok_day_price T) (hr.mono (by decide)) rfl (ja_cons (je_var 0) (ja_cons (je_bin op_sub rb_sub (je_var 1) (je_bin op_mul2 rb_mul (je_var 2) (je_gintE rfl T.c_DAY))) ja_nil))))))))
theorem sc_price : FnScope N_price ["tariff", "length"] (defScope s_price) := ⟨rfl, rfl, rfl, by decide +kernel, rfl, by decide +kernel, by decide +kernel⟩
theorem ok_price (T : Txt K mg) : DefOk P w K mg base 6 "price" ["tariff", "length"] (spD K g_price) := def_D (N := N_price) (b := b_price) T.f_price sc_price (by decide) fun f cdv A outer s H E hr =>
  (jss_cons (js_expr (je_call (ok_need_tariff T) (hr.mono (by decide)) rfl (ja_cons (je_var 0) ja_nil))) (jss_cons (js_expr (je_call (ok_need_length T) (hr.mono (by decide)) rfl (ja_cons (je_var 1) ja_nil))) (jss_one (js_ret (je_call (ok_stay_price T) (hr.mono (by decide)) rfl (ja_cons (je_var 0) (ja_cons (je_var 1) ja_nil)))))))
theorem sc_level_list : FnScope N_level_list ["tariff"] (defScope s_level_list) := ⟨rfl, rfl, rfl, by decide +kernel, rfl, by decide +kernel, by decide +kernel⟩
theorem ok_level_list (T : Txt K mg) : DefOk P w K mg base 2 "level_list" ["tariff"] (spF K g_level_list) := def_F (N := N_level_list) (b := b_level_list) T.f_level_list sc_level_list (by decide) fun f cdv A outer s H E hr =>
  (jss_cons (js_setF 1 sc_level_list.nd (jf_lst ja_nil)) (jss_cons (js_for (vs := [2]) (by decide) (ji_range2 je_int (je_bin op_add3 rb_add (je_gintE rfl T.c_DAY) je_int) rfl T.n_range) (jg_name 2 sc_level_list.nd (by decide)) (jss_cons (js_set 3 sc_level_list.nd (je_call (ok_day_price T) (hr.mono (by decide)) rfl (ja_cons (je_var 0) (ja_cons (je_var 2) ja_nil)))) (jss_one (js_if (jt_bor 1 (jt_bool (jw_and (jt_cmp (op_neD hr.units) rb_ne (nomark _) (je_var 1) (je_l (jf_lst ja_nil))) (jw_and1 (jt_cmp (op_eqD hr.units) rb_eq (nomark _) (je_ix (je_ix (je_var 1) (je_neg je_int)) je_int) (je_var 3)))))) (jss_one (js_setIx 1 (je_tup (ja_cons (je_var 2) (ja_cons (je_var 3) ja_nil))) (je_neg je_int))) (jss_one (js_app 1 (je_tup (ja_cons (je_var 2) (ja_cons (je_var 3) ja_nil)))))))) rfl) (jss_one (js_retO 1))))
theorem sc_levels : FnScope N_levels ["tariff"] (defScope s_levels) := ⟨rfl, rfl, rfl, by decide +kernel, rfl, by decide +kernel, by decide +kernel⟩
theorem ok_levels (T : Txt K mg) : DefOk P w K mg base 6 "levels" ["tariff"] (spF K g_levels) := def_F (N := N_levels) (b := b_levels) T.f_levels sc_levels (by decide) fun f cdv A outer s H E hr =>
  (jss_cons (js_expr (je_call (ok_need_tariff T) (hr.mono (by decide)) rfl (ja_cons (je_var 0) ja_nil))) (jss_one (js_retF (jf_call (ok_level_list T) (hr.mono (by decide)) rfl (ja_cons (je_var 0) ja_nil)))))
theorem sc_law_cell_at : FnScope N_law_cell_at ["_law_script", "_law_k"] (defScope s_law_cell_at) := ⟨rfl, rfl, rfl, by decide +kernel, rfl, by decide +kernel, by decide +kernel⟩
theorem ok_law_cell_at (T : Txt K mg) : DefOk P w K mg base 1 "_law_cell_at" ["_law_script", "_law_k"] (spD K g_law_cell_at) := def_D (N := N_law_cell_at) (b := b_law_cell_at) T.f_law_cell_at sc_law_cell_at (by decide) fun f cdv A outer s H E hr =>
  (jss_cons (js_if (jt_cmp op_lt rb_lt (nomark _) (je_var 1) (je_callB call_len_seq rc_len rfl T.n_len (by decide +kernel) (ja_cons (je_var 0) ja_nil))) (jss_one (js_ret (je_ix (je_var 0) (je_var 1)))) jss_nil) (jss_one (js_ret je_int)))
theorem sc_law_draws : FnScope N_law_draws ["_law_cell", "_law_many", "_law_size"] (defScope s_law_draws) := ⟨rfl, rfl, rfl, by decide +kernel, rfl, by decide +kernel, by decide +kernel⟩
theorem ok_law_draws (T : Txt K mg) : DefOk P w K mg base 1 "_law_draws" ["_law_cell", "_law_many", "_law_size"] (spD K g_law_draws) := def_D (N := N_law_draws) (b := b_law_draws) T.f_law_draws sc_law_draws (by decide) fun f cdv A outer s H E hr =>
  (jss_cons (js_setF 3 sc_law_draws.nd (jf_lst ja_nil)) (jss_cons (js_set 4 sc_law_draws.nd (je_bin op_mul2 rb_mul (je_var 0) (je_callTy call_int1 rc_int rfl T.n_int (by decide +kernel) (ja_cons (je_cmp op_ge rb_ge (nomark _) (je_var 0) (je_bin op_pow rb_pow je_int je_int)) ja_nil)))) (jss_cons (js_set 5 sc_law_draws.nd (je_bin op_mod rb_mod (je_var 0) je_int)) (jss_cons (js_for (vs := [6]) (by decide) (ji_range1 (je_bin op_add3 rb_add (je_var 1) je_int) rfl T.n_range) (jg_name 6 sc_law_draws.nd (by decide)) (jss_cons (js_set 5 sc_law_draws.nd (je_bin op_mod rb_mod (je_bin op_add3 rb_add (je_bin op_add3 rb_add (je_bin op_add3 rb_add (je_bin op_mul2 rb_mul (je_var 5) (je_var 5)) (je_bin op_mul2 rb_mul je_int (je_var 5))) (je_var 6)) je_int) je_int)) (jss_one (js_if (jt_bool (jw_and (jt_cmp op_gt rb_gt (nomark _) (je_var 6) je_int) (jw_and1 (jt_cmp op_gt rb_gt (nomark _) (je_var 4) je_int)))) (jss_cons (js_app 3 (je_bin op_mod rb_mod (je_var 4) (je_var 2))) (jss_one (js_set 4 sc_law_draws.nd (je_bin op_fdiv rb_fdiv (je_var 4) (je_var 2))))) (jss_one (js_if (jt_cmp op_gt rb_gt (nomark _) (je_var 6) je_int) (jss_one (js_app 3 (je_bin op_mod rb_mod (je_bin op_fdiv rb_fdiv (je_var 5) je_int) (je_var 2)))) jss_nil))))) rfl) (jss_one (js_retO 3))))))
theorem sc_law_bag : FnScope N_law_bag ["_law_script", "_law_k"] (defScope s_law_bag) := ⟨rfl, rfl, rfl, by decide +kernel, rfl, by decide +kernel, by decide +kernel⟩
theorem ok_law_bag (T : Txt K mg) : DefOk P w K mg base 2 "_law_bag" ["_law_script", "_law_k"] (spF K g_law_bag) := def_F (N := N_law_bag) (b := b_law_bag) T.f_law_bag sc_law_bag (by decide) fun f cdv A outer s H E hr =>
  (jss_one (js_retF (jf_lst (ja_cons (je_call (ok_law_draws T) (hr.mono (by decide)) rfl (ja_cons (je_call (ok_law_cell_at T) (hr.mono (by decide)) rfl (ja_cons (je_var 0) (ja_cons (je_var 1) ja_nil))) (ja_cons je_int (ja_cons je_int ja_nil)))) (ja_cons je_int ja_nil)))))
theorem sc_law_bags : FnScope N_law_bags ["_law_script", "_law_limit"] (defScope s_law_bags) := ⟨rfl, rfl, rfl, by decide +kernel, rfl, by decide +kernel, by decide +kernel⟩
theorem ok_law_bags (T : Txt K mg) : DefOk P w K mg base 3 "_law_bags" ["_law_script", "_law_limit"] (spFF K g_law_bags) := def_FF (N := N_law_bags) (s := b_law_bags) T.f_law_bags sc_law_bags (by decide) rfl fun f cdv A outer s H E hr =>
  (jff_lc (own := [("_law_k", 2)]) rfl sc_law_bags.nd (ji_range1 (je_callB (call_max2 rfl) rc_max2 rfl T.n_max (by decide +kernel) (ja_cons je_int (ja_cons (je_callB (call_min2 rfl) rc_min2 rfl T.n_min (by decide +kernel) (ja_cons (je_var 1) (ja_cons (je_callB call_len_seq rc_len rfl T.n_len (by decide +kernel) (ja_cons (je_var 0) ja_nil)) ja_nil))) ja_nil))) rfl T.n_range) (blkOk_by (N := N_law_bags) (sc := defScope s_law_bags) (by decide +kernel)) (fun _ _ _ _ _ => (jg_name 2 sc_law_bags.nd (by decide))) (fun _ _ _ _ _ => (jf_call (ok_law_bag T) (hr.mono (by decide)) rfl (ja_cons (je_var 0) (ja_cons (je_var 2) ja_nil)))))
theorem sc_law_take : FnScope N_law_take ["_law_bag_here", "_law_many"] (defScope s_law_take) := ⟨rfl, rfl, rfl, by decide +kernel, rfl, by decide +kernel, by decide +kernel⟩
theorem ok_law_take (T : Txt K mg) : DefOk P w K mg base 1 "_law_take" ["_law_bag_here", "_law_many"] (spB K g_law_take) := def_B (N := N_law_take) (b := b_law_take) T.f_law_take sc_law_take (by decide) fun f cdv A outer s H E hr =>
  (jss_cons (js_setIx 0 (je_bin op_add3 rb_add (je_ownIx 0 je_int) je_int) je_int) (jss_one (js_ret (je_bin op_mod rb_mod (je_ix (je_ownIx 0 je_int) (je_bin op_mod rb_mod (je_ownIx 0 je_int) (je_callB call_len_seq rc_len rfl T.n_len (by decide +kernel) (ja_cons (je_ownIx 0 je_int) ja_nil)))) (je_var 1)))))
theorem sc_law_tariff : FnScope N_law_tariff ["_law_bag_here", "_law_wide"] (defScope s_law_tariff) := ⟨rfl, rfl, rfl, by decide +kernel, rfl, by decide +kernel, by decide +kernel⟩
theorem ok_law_tariff (T : Txt K mg) : DefOk P w K mg base 2 "_law_tariff" ["_law_bag_here", "_law_wide"] (spB K g_law_tariff) := def_B (N := N_law_tariff) (b := b_law_tariff) T.f_law_tariff sc_law_tariff (by decide) fun f cdv A outer s H E hr =>
  (jss_cons (js_set 2 sc_law_tariff.nd (je_l (jf_sortSet rfl (je_l (jf_lc (own := [("_law_turn", 3)]) rfl sc_law_tariff.nd (ji_range1 (je_callBag 0 (ok_law_take T) (hr.mono (by decide)) rfl (ja_cons je_int ja_nil)) rfl T.n_range) (blkOk_by (N := N_law_tariff) (sc := defScope s_law_tariff) (by decide +kernel)) (fun _ _ _ _ _ => (jg_name 3 sc_law_tariff.nd (by decide))) (fun _ _ _ _ _ => jts_nil) (fun _ _ _ _ _ => (je_bin op_add3 rb_add je_int (je_callBag 0 (ok_law_take T) (hr.mono (by decide)) rfl (ja_cons (je_ix (je_l (jf_lst (ja_cons je_int (ja_cons je_int ja_nil)))) (je_callBag 0 (ok_law_take T) (hr.mono (by decide)) rfl (ja_cons je_int ja_nil))) ja_nil)))))) rfl T.n_sorted rfl T.n_set))) (jss_cons (js_unp (vs := [4, 5]) (by decide) (jg_tup rfl (jgs_cons (jg_name 4 sc_law_tariff.nd (by decide)) (jgs_cons (jg_name 5 sc_law_tariff.nd (by decide)) jgs_nil))) (je_tup (ja_cons (je_tup ja_nil) (ja_cons je_int ja_nil)))) (jss_cons (js_for (vs := [6]) (by decide) (ji_seq (je_var 2)) (jg_name 6 sc_law_tariff.nd (by decide)) (jss_cons (js_set 5 sc_law_tariff.nd (je_bin op_add3 rb_add (je_var 5) (je_ix (je_l (jf_lst (ja_cons je_int (ja_cons (je_callBag 0 (ok_law_take T) (hr.mono (by decide)) rfl (ja_cons (je_var 1) ja_nil)) (ja_cons (je_bin op_fdiv rb_fdiv (je_var 1) je_int) ja_nil))))) (je_callBag 0 (ok_law_take T) (hr.mono (by decide)) rfl (ja_cons je_int ja_nil))))) (jss_one (js_set 4 sc_law_tariff.nd (je_bin op_add3 rb_add (je_var 4) (je_tup (ja_cons (je_tup (ja_cons (je_var 6) (ja_cons (je_var 5) ja_nil))) ja_nil)))))) rfl) (jss_cons (js_set 7 sc_law_tariff.nd (je_ix (je_l (jf_lst (ja_cons je_int (ja_cons je_int (ja_cons je_int (ja_cons (je_callBag 0 (ok_law_take T) (hr.mono (by decide)) rfl (ja_cons je_int ja_nil)) (ja_cons (je_callBag 0 (ok_law_take T) (hr.mono (by decide)) rfl (ja_cons je_int ja_nil)) ja_nil))))))) (je_callBag 0 (ok_law_take T) (hr.mono (by decide)) rfl (ja_cons je_int ja_nil)))) (jss_cons (js_set 8 sc_law_tariff.nd (je_bin op_add3 rb_add je_int (je_callBag 0 (ok_law_take T) (hr.mono (by decide)) rfl (ja_cons (je_ix (je_l (jf_lst (ja_cons je_int (ja_cons je_int ja_nil)))) (je_callBag 0 (ok_law_take T) (hr.mono (by decide)) rfl (ja_cons je_int ja_nil))) ja_nil)))) (jss_cons (js_set 9 sc_law_tariff.nd (je_ix (je_l (jf_lst (ja_cons je_non (ja_cons (je_bin op_add3 rb_add (je_var 5) (je_callBag 0 (ok_law_take T) (hr.mono (by decide)) rfl (ja_cons (je_bin op_mul2 rb_mul je_int (je_var 1)) ja_nil))) (ja_cons (je_callBag 0 (ok_law_take T) (hr.mono (by decide)) rfl (ja_cons (je_bin op_add3 rb_add (je_bin op_mul2 rb_mul je_int (je_var 1)) je_int) ja_nil)) ja_nil))))) (je_callBag 0 (ok_law_take T) (hr.mono (by decide)) rfl (ja_cons je_int ja_nil)))) (jss_one (js_ret (je_tup (ja_cons (je_var 7) (ja_cons (je_var 4) (ja_cons (je_var 8) (ja_cons (je_ix (je_l (jf_lst (ja_cons je_int (ja_cons (je_callBag 0 (ok_law_take T) (hr.mono (by decide)) rfl (ja_cons (je_var 1) ja_nil)) (ja_cons (je_bin op_add3 rb_add je_int (je_callBag 0 (ok_law_take T) (hr.mono (by decide)) rfl (ja_cons (je_var 1) ja_nil))) ja_nil))))) (je_callBag 0 (ok_law_take T) (hr.mono (by decide)) rfl (ja_cons je_int ja_nil))) (ja_cons (je_var 9) ja_nil))))))))))))))
theorem sc_law_day : FnScope N_law_day ["_law_tariff_here", "_law_length"] (defScope s_law_day) := ⟨rfl, rfl, rfl, by decide +kernel, rfl, by decide +kernel, by decide +kernel⟩
theorem ok_law_day (T : Txt K mg) : DefOk P w K mg base 1 "_law_day" ["_law_tariff_here", "_law_length"] (spD K g_law_day) := def_D (N := N_law_day) (b := b_law_day) T.f_law_day sc_law_day (by decide) fun f cdv A outer s H E hr =>
  (jss_cons (js_unp (vs := [2, 3, 4, 5, 6]) (by decide) (jg_tup rfl (jgs_cons (jg_name 2 sc_law_day.nd (by decide)) (jgs_cons (jg_name 3 sc_law_day.nd (by decide)) (jgs_cons (jg_name 4 sc_law_day.nd (by decide)) (jgs_cons (jg_name 5 sc_law_day.nd (by decide)) (jgs_cons (jg_name 6 sc_law_day.nd (by decide)) jgs_nil)))))) (je_var 0)) (jss_cons (js_if (jt_cmp op_le rb_le (nomark _) (je_var 1) (je_var 2)) (jss_one (js_ret je_int)) jss_nil) (jss_cons (js_setLc 7 (own := [("_law_until", 8), ("_law_paid", 9)]) rfl sc_law_day.nd (ji_seq (je_var 3)) (blkOk_by (N := N_law_day) (sc := defScope s_law_day) (by decide +kernel)) (fun _ _ _ _ _ => (jg_tup rfl (jgs_cons (jg_name 8 sc_law_day.nd (by decide)) (jgs_cons (jg_name 9 sc_law_day.nd (by decide)) jgs_nil)))) (fun _ _ _ _ _ => (jts_one (jt_cmp op_le rb_le (nomark _) (je_var 1) (je_var 8)))) (fun _ _ _ _ _ => (je_var 9))) (jss_cons (js_if (jt_cmp (op_neD hr.units) rb_ne (nomark _) (je_var 7) (je_l (jf_lst ja_nil))) (jss_one (js_set 9 sc_law_day.nd (je_ix (je_var 7) je_int))) (jss_cons (js_unp (vs := [10, 9]) (by decide) (jg_tup rfl (jgs_cons (jg_name 10 sc_law_day.nd (by decide)) (jgs_cons (jg_name 9 sc_law_day.nd (by decide)) jgs_nil))) (je_if (jt_cmp (op_neD hr.units) rb_ne (nomark _) (je_var 3) (je_tup ja_nil)) (je_ix (je_var 3) (je_neg je_int)) (je_tup (ja_cons je_int (ja_cons je_int ja_nil))))) (jss_one (js_while 100000 (jt_cmp op_lt rb_lt (nomark _) (je_var 10) (je_var 1)) (jss_one (js_par 10 9 rfl sc_law_day.nd (je_bin op_add3 rb_add (je_var 10) (je_var 4)) (je_bin op_add3 rb_add (je_var 9) (je_var 5)))))))) (jss_one (js_ret (je_if (jt_bool (jw_or (jt_cmp op_is2 rb_is (nomark _) (je_var 6) je_non) (jw_or1 (jt_cmp op_le rb_le (nomark _) (je_var 9) (je_var 6))))) (je_var 9) (je_var 6))))))))
theorem sc_law_price : FnScope N_law_price ["_law_tariff_here", "_law_length"] (defScope s_law_price) := ⟨rfl, rfl, rfl, by decide +kernel, rfl, by decide +kernel, by decide +kernel⟩
theorem ok_law_price (T : Txt K mg) : DefOk P w K mg base 2 "_law_price" ["_law_tariff_here", "_law_length"] (spD K g_law_price) := def_D (N := N_law_price) (b := b_law_price) T.f_law_price sc_law_price (by decide) fun f cdv A outer s H E hr =>
  (jss_cons (js_if (jt_cmp (op_eqD hr.units) rb_eq (nomark _) (je_var 1) je_int) (jss_one (js_ret je_int)) jss_nil) (jss_cons (js_set 2 sc_law_price.nd (je_if (jt_cmp op_gt rb_gt (nomark _) (je_bin op_mod rb_mod (je_var 1) je_int) je_int) (je_bin op_mod rb_mod (je_var 1) je_int) je_int)) (jss_one (js_ret (je_bin op_add3 rb_add (je_bin op_mul2 rb_mul (je_bin op_fdiv rb_fdiv (je_bin op_sub rb_sub (je_var 1) (je_var 2)) je_int) (je_call (ok_law_day T) (hr.mono (by decide)) rfl (ja_cons (je_var 0) (ja_cons je_int ja_nil)))) (je_call (ok_law_day T) (hr.mono (by decide)) rfl (ja_cons (je_var 0) (ja_cons (je_var 2) ja_nil))))))))
theorem sc_law_prices : FnScope N_law_prices ["_law_tariff_here"] (defScope s_law_prices) := ⟨rfl, rfl, rfl, by decide +kernel, rfl, by decide +kernel, by decide +kernel⟩
theorem ok_law_prices (T : Txt K mg) : DefOk P w K mg base 2 "_law_prices" ["_law_tariff_here"] (spD K g_law_prices) := def_D (N := N_law_prices) (b := b_law_prices) T.f_law_prices sc_law_prices (by decide) fun f cdv A outer s H E hr =>
  (jss_one (js_retF (jf_lc (own := [("_law_length", 1)]) rfl sc_law_prices.nd (ji_range2 je_int je_int rfl T.n_range) (blkOk_by (N := N_law_prices) (sc := defScope s_law_prices) (by decide +kernel)) (fun _ _ _ _ _ => (jg_name 1 sc_law_prices.nd (by decide))) (fun _ _ _ _ _ => jts_nil) (fun _ _ _ _ _ => (je_call (ok_law_day T) (hr.mono (by decide)) rfl (ja_cons (je_var 0) (ja_cons (je_var 1) ja_nil)))))))
theorem sc_law : FnScope N_law ["_law_script"] (defScope s_law) := ⟨rfl, rfl, rfl, by decide +kernel, rfl, by decide +kernel, by decide +kernel⟩
theorem okf_law (T : Txt K mg) {f : Addr} {fd : FuncData} (F : Fun K "law" "law" s_law f fd) : FnOk P w K mg base CX0 7 f fd ["_law_script"] (spD K g_law) := fn_D (N := N_law) (b := b_law) F sc_law (by decide) fun cdv A outer s H E hr =>
  (jss_cons (js_forB 1 sc_law.nd (jff_call (ok_law_bags T) (hr.mono (by decide)) rfl (ja_cons (je_var 0) (ja_cons je_int ja_nil))) (jss_cons (js_set 2 sc_law.nd (je_callBag 1 (ok_law_tariff T) (hr.mono (by decide)) rfl (ja_cons (je_ix (je_l (jf_lst (ja_cons je_int (ja_cons je_int ja_nil)))) (je_callBag 1 (ok_law_take T) (hr.mono (by decide)) rfl (ja_cons je_int ja_nil))) ja_nil))) (jss_cons (js_set 3 sc_law.nd (je_call (ok_law_prices T) (hr.mono (by decide)) rfl (ja_cons (je_var 2) ja_nil))) (jss_cons (js_for (vs := [4]) (by decide) (ji_range1 je_int rfl T.n_range) (jg_name 4 sc_law.nd (by decide)) (jss_one (js_if (jt_cmp (op_neD hr.units) rb_ne (nomark _) (je_call (ok_price T) (hr.mono (by decide)) rfl (ja_cons (je_var 2) (ja_cons (je_var 4) ja_nil))) (je_call (ok_law_price T) (hr.mono (by decide)) rfl (ja_cons (je_var 2) (ja_cons (je_var 4) ja_nil)))) (jss_one (js_ret je_bl)) jss_nil)) rfl) (jss_cons (js_setF 5 sc_law.nd (jf_lst ja_nil)) (jss_cons (js_for (vs := [6, 7]) (by decide) (ji_enum (je_var 3) rfl T.n_enumerate) (jg_tup rfl (jgs_cons (jg_name 6 sc_law.nd (by decide)) (jgs_cons (jg_name 7 sc_law.nd (by decide)) jgs_nil))) (jss_one (js_if (jt_bool (jw_or (jt_cmp (op_eqD hr.units) rb_eq (nomark _) (je_var 6) je_int) (jw_or1 (jt_cmp (op_neD hr.units) rb_ne (nomark _) (je_ix (je_var 3) (je_bin op_add3 rb_add (je_var 6) je_int)) (je_var 7))))) (jss_one (js_app 5 (je_tup (ja_cons (je_bin op_add3 rb_add (je_var 6) je_int) (ja_cons (je_var 7) ja_nil))))) jss_nil)) rfl) (jss_cons (js_setF 8 sc_law.nd (jf_call (ok_levels T) (hr.mono (by decide)) rfl (ja_cons (je_var 2) ja_nil))) (jss_frz 5 (jss_cons (js_if (jt_bor 8 (jt_bool (jw_or (jt_cmp (op_neD hr.units) rb_ne (nomark _) (je_var 8) (je_var 5)) (jw_or1 (jt_not (jt_val (je_isi isi_lst (je_var 8) rfl T.n_isinstance rfl T.n_list (by decide +kernel)))))))) (jss_one (js_ret je_bl)) jss_nil) (jss_cons (js_app 8 je_int) (jss_one (js_if (jt_cmp (op_neD hr.units) rb_ne (nomark _) (je_l (jf_call (ok_levels T) (hr.mono (by decide)) rfl (ja_cons (je_var 2) ja_nil))) (je_var 5)) (jss_one (js_ret je_bl)) jss_nil))))))))))) rfl) (jss_cons (js_set 2 sc_law.nd (je_tup (ja_cons je_int (ja_cons (je_tup (ja_cons (je_tup (ja_cons je_int (ja_cons je_int ja_nil))) (ja_cons (je_tup (ja_cons je_int (ja_cons je_int ja_nil))) ja_nil))) (ja_cons je_int (ja_cons je_int (ja_cons je_int ja_nil))))))) (jss_cons (js_if (jt_cmp (op_neD hr.units) rb_ne (nomark _) (je_l (jf_call (ok_levels T) (hr.mono (by decide)) rfl (ja_cons (je_var 2) ja_nil))) (je_l (jf_lst (ja_cons (je_tup (ja_cons je_int (ja_cons je_int ja_nil))) (ja_cons (je_tup (ja_cons je_int (ja_cons je_int ja_nil))) (ja_cons (je_tup (ja_cons je_int (ja_cons je_int ja_nil))) (ja_cons (je_tup (ja_cons je_int (ja_cons je_int ja_nil))) (ja_cons (je_tup (ja_cons je_int (ja_cons je_int ja_nil))) (ja_cons (je_tup (ja_cons je_int (ja_cons je_int ja_nil))) (ja_cons (je_tup (ja_cons je_int (ja_cons je_int ja_nil))) ja_nil)))))))))) (jss_one (js_ret je_bl)) jss_nil) (jss_cons (js_if (jt_bool (jw_or (jt_cmp (op_neD hr.units) rb_ne (nomark _) (je_call (ok_price T) (hr.mono (by decide)) rfl (ja_cons (je_var 2) (ja_cons je_int ja_nil))) je_int) (jw_or (jt_cmp (op_neD hr.units) rb_ne (nomark _) (je_call (ok_price T) (hr.mono (by decide)) rfl (ja_cons (je_var 2) (ja_cons je_int ja_nil))) je_int) (jw_or1 (jt_cmp (op_neD hr.units) rb_ne (nomark _) (je_call (ok_price T) (hr.mono (by decide)) rfl (ja_cons (je_var 2) (ja_cons je_int ja_nil))) je_int))))) (jss_one (js_ret je_bl)) jss_nil) (jss_cons (js_if (jt_cmp (op_neD hr.units) rb_ne (nomark _) (je_call (ok_price T) (hr.mono (by decide)) rfl (ja_cons (je_var 2) (ja_cons je_int ja_nil))) je_int) (jss_one (js_ret je_bl)) jss_nil) (jss_one (js_ret (je_and (je_cmp (op_eqD hr.units) rb_eq (nomark _) (je_call (ok_price T) (hr.mono (by decide)) rfl (ja_cons (je_tup (ja_cons je_int (ja_cons (je_tup (ja_cons (je_tup (ja_cons je_int (ja_cons je_int ja_nil))) ja_nil)) (ja_cons je_int (ja_cons je_int (ja_cons je_non ja_nil)))))) (ja_cons je_int ja_nil))) je_int) (je_one (je_cmp (op_eqD hr.units) rb_eq (nomark _) (je_call (ok_price T) (hr.mono (by decide)) rfl (ja_cons (je_tup (ja_cons je_int (ja_cons (je_tup (ja_cons (je_tup (ja_cons je_int (ja_cons je_int ja_nil))) ja_nil)) (ja_cons je_int (ja_cons je_int (ja_cons je_int ja_nil)))))) (ja_cons je_int ja_nil))) je_int))))))))))
end
end Lw

namespace Lw
open PySem PySem.Spec PyProof.Rows L2 Lay
theorem all_mk {P : Program} {w : World} {K : PySem.W.Frag} {h : Heap} {mg : Str → Option Value} {fa : Addr} (X : K.In h) (G : h.Ns mainGlobals mg) (hfa : mg "law" = some (.ref fa))
    {f1 : Addr} {od1 an1 : Option Addr} {sl1 : Array (Option Value)} {oc1 kV1 dc1 pm1 cd1 ct1 : Value}
    {f2 : Addr} {od2 an2 : Option Addr} {sl2 : Array (Option Value)} {oc2 kV2 dc2 pm2 cd2 ct2 : Value}
    {f3 : Addr} {od3 an3 : Option Addr} {sl3 : Array (Option Value)} {oc3 kV3 dc3 pm3 cd3 ct3 : Value}
    {f4 : Addr} {od4 an4 : Option Addr} {sl4 : Array (Option Value)} {oc4 kV4 dc4 pm4 cd4 ct4 : Value}
    {f5 : Addr} {od5 an5 : Option Addr} {sl5 : Array (Option Value)} {oc5 kV5 dc5 pm5 cd5 ct5 : Value}
    {f6 : Addr} {od6 an6 : Option Addr} {sl6 : Array (Option Value)} {oc6 kV6 dc6 pm6 cd6 ct6 : Value}
    {f7 : Addr} {od7 an7 : Option Addr} {sl7 : Array (Option Value)} {oc7 kV7 dc7 pm7 cd7 ct7 : Value}
    {f8 : Addr} {od8 an8 : Option Addr} {sl8 : Array (Option Value)} {oc8 kV8 dc8 pm8 cd8 ct8 : Value}
    {f9 : Addr} {od9 an9 : Option Addr} {sl9 : Array (Option Value)} {oc9 kV9 dc9 pm9 cd9 ct9 : Value}
    {f10 : Addr} {od10 an10 : Option Addr} {sl10 : Array (Option Value)} {oc10 kV10 dc10 pm10 cd10 ct10 : Value}
    {f11 : Addr} {od11 an11 : Option Addr} {sl11 : Array (Option Value)} {oc11 kV11 dc11 pm11 cd11 ct11 : Value}
    {f12 : Addr} {od12 an12 : Option Addr} {sl12 : Array (Option Value)} {oc12 kV12 dc12 pm12 cd12 ct12 : Value}
    {f13 : Addr} {od13 an13 : Option Addr} {sl13 : Array (Option Value)} {oc13 kV13 dc13 pm13 cd13 ct13 : Value}
    {f14 : Addr} {od14 an14 : Option Addr} {sl14 : Array (Option Value)} {oc14 kV14 dc14 pm14 cd14 ct14 : Value}
    {f15 : Addr} {od15 an15 : Option Addr} {sl15 : Array (Option Value)} {oc15 kV15 dc15 pm15 cd15 ct15 : Value}
    {f16 : Addr} {od16 an16 : Option Addr} {sl16 : Array (Option Value)} {oc16 kV16 dc16 pm16 cd16 ct16 : Value}
    {f17 : Addr} {od17 an17 : Option Addr} {sl17 : Array (Option Value)} {oc17 kV17 dc17 pm17 cd17 ct17 : Value}
    {f18 : Addr} {od18 an18 : Option Addr} {sl18 : Array (Option Value)} {oc18 kV18 dc18 pm18 cd18 ct18 : Value}
    {f19 : Addr} {od19 an19 : Option Addr} {sl19 : Array (Option Value)} {oc19 kV19 dc19 pm19 cd19 ct19 : Value}
    {f20 : Addr} {od20 an20 : Option Addr} {sl20 : Array (Option Value)} {oc20 kV20 dc20 pm20 cd20 ct20 : Value}
    {f21 : Addr} {od21 an21 : Option Addr} {sl21 : Array (Option Value)} {oc21 kV21 dc21 pm21 cd21 ct21 : Value}
    {t_c_DAY : Tok}
    {t_c_MAX_LENGTH : Tok}
    {t_c_MAX_PRICE : Tok}
    (a1 : PySem.W.nsIn K mainGlobals "is_integer" = some (some (.ref f1))) (l1 : K.lookup f1 = some ⟨oc1, od1, .func (PySem.W.fnOf "is_integer" "is_integer" (defArgs s_is_integer) (defBody s_is_integer) (defScope s_is_integer) .none kV1 dc1 pm1 an1 cd1 ct1), sl1⟩) (c1 : PySem.W.codeIn K cd1 "is_integer" = true) (k1 : PySem.W.keepIn K (.ref f1) = true)
    (a2 : PySem.W.nsIn K mainGlobals "is_row" = some (some (.ref f2))) (l2 : K.lookup f2 = some ⟨oc2, od2, .func (PySem.W.fnOf "is_row" "is_row" (defArgs s_is_row) (defBody s_is_row) (defScope s_is_row) .none kV2 dc2 pm2 an2 cd2 ct2), sl2⟩) (c2 : PySem.W.codeIn K cd2 "is_row" = true) (k2 : PySem.W.keepIn K (.ref f2) = true)
    (a3 : PySem.W.nsIn K mainGlobals "are_rows" = some (some (.ref f3))) (l3 : K.lookup f3 = some ⟨oc3, od3, .func (PySem.W.fnOf "are_rows" "are_rows" (defArgs s_are_rows) (defBody s_are_rows) (defScope s_are_rows) .none kV3 dc3 pm3 an3 cd3 ct3), sl3⟩) (c3 : PySem.W.codeIn K cd3 "are_rows" = true) (k3 : PySem.W.keepIn K (.ref f3) = true)
    (a4 : PySem.W.nsIn K mainGlobals "is_tariff" = some (some (.ref f4))) (l4 : K.lookup f4 = some ⟨oc4, od4, .func (PySem.W.fnOf "is_tariff" "is_tariff" (defArgs s_is_tariff) (defBody s_is_tariff) (defScope s_is_tariff) .none kV4 dc4 pm4 an4 cd4 ct4), sl4⟩) (c4 : PySem.W.codeIn K cd4 "is_tariff" = true) (k4 : PySem.W.keepIn K (.ref f4) = true)
    (a5 : PySem.W.nsIn K mainGlobals "need_tariff" = some (some (.ref f5))) (l5 : K.lookup f5 = some ⟨oc5, od5, .func (PySem.W.fnOf "need_tariff" "need_tariff" (defArgs s_need_tariff) (defBody s_need_tariff) (defScope s_need_tariff) .none kV5 dc5 pm5 an5 cd5 ct5), sl5⟩) (c5 : PySem.W.codeIn K cd5 "need_tariff" = true) (k5 : PySem.W.keepIn K (.ref f5) = true)
    (a6 : PySem.W.nsIn K mainGlobals "need_length" = some (some (.ref f6))) (l6 : K.lookup f6 = some ⟨oc6, od6, .func (PySem.W.fnOf "need_length" "need_length" (defArgs s_need_length) (defBody s_need_length) (defScope s_need_length) .none kV6 dc6 pm6 an6 cd6 ct6), sl6⟩) (c6 : PySem.W.codeIn K cd6 "need_length" = true) (k6 : PySem.W.keepIn K (.ref f6) = true)
    (a7 : PySem.W.nsIn K mainGlobals "day_price" = some (some (.ref f7))) (l7 : K.lookup f7 = some ⟨oc7, od7, .func (PySem.W.fnOf "day_price" "day_price" (defArgs s_day_price) (defBody s_day_price) (defScope s_day_price) .none kV7 dc7 pm7 an7 cd7 ct7), sl7⟩) (c7 : PySem.W.codeIn K cd7 "day_price" = true) (k7 : PySem.W.keepIn K (.ref f7) = true)
    (a8 : PySem.W.nsIn K mainGlobals "stay_price" = some (some (.ref f8))) (l8 : K.lookup f8 = some ⟨oc8, od8, .func (PySem.W.fnOf "stay_price" "stay_price" (defArgs s_stay_price) (defBody s_stay_price) (defScope s_stay_price) .none kV8 dc8 pm8 an8 cd8 ct8), sl8⟩) (c8 : PySem.W.codeIn K cd8 "stay_price" = true) (k8 : PySem.W.keepIn K (.ref f8) = true)
    (a9 : PySem.W.nsIn K mainGlobals "price" = some (some (.ref f9))) (l9 : K.lookup f9 = some ⟨oc9, od9, .func (PySem.W.fnOf "price" "price" (defArgs s_price) (defBody s_price) (defScope s_price) .none kV9 dc9 pm9 an9 cd9 ct9), sl9⟩) (c9 : PySem.W.codeIn K cd9 "price" = true) (k9 : PySem.W.keepIn K (.ref f9) = true)
    (a10 : PySem.W.nsIn K mainGlobals "level_list" = some (some (.ref f10))) (l10 : K.lookup f10 = some ⟨oc10, od10, .func (PySem.W.fnOf "level_list" "level_list" (defArgs s_level_list) (defBody s_level_list) (defScope s_level_list) .none kV10 dc10 pm10 an10 cd10 ct10), sl10⟩) (c10 : PySem.W.codeIn K cd10 "level_list" = true) (k10 : PySem.W.keepIn K (.ref f10) = true)
    (a11 : PySem.W.nsIn K mainGlobals "levels" = some (some (.ref f11))) (l11 : K.lookup f11 = some ⟨oc11, od11, .func (PySem.W.fnOf "levels" "levels" (defArgs s_levels) (defBody s_levels) (defScope s_levels) .none kV11 dc11 pm11 an11 cd11 ct11), sl11⟩) (c11 : PySem.W.codeIn K cd11 "levels" = true) (k11 : PySem.W.keepIn K (.ref f11) = true)
    (a12 : PySem.W.nsIn K mainGlobals "_law_cell_at" = some (some (.ref f12))) (l12 : K.lookup f12 = some ⟨oc12, od12, .func (PySem.W.fnOf "_law_cell_at" "_law_cell_at" (defArgs s_law_cell_at) (defBody s_law_cell_at) (defScope s_law_cell_at) .none kV12 dc12 pm12 an12 cd12 ct12), sl12⟩) (c12 : PySem.W.codeIn K cd12 "_law_cell_at" = true) (k12 : PySem.W.keepIn K (.ref f12) = true)
    (a13 : PySem.W.nsIn K mainGlobals "_law_draws" = some (some (.ref f13))) (l13 : K.lookup f13 = some ⟨oc13, od13, .func (PySem.W.fnOf "_law_draws" "_law_draws" (defArgs s_law_draws) (defBody s_law_draws) (defScope s_law_draws) .none kV13 dc13 pm13 an13 cd13 ct13), sl13⟩) (c13 : PySem.W.codeIn K cd13 "_law_draws" = true) (k13 : PySem.W.keepIn K (.ref f13) = true)
    (a14 : PySem.W.nsIn K mainGlobals "_law_bag" = some (some (.ref f14))) (l14 : K.lookup f14 = some ⟨oc14, od14, .func (PySem.W.fnOf "_law_bag" "_law_bag" (defArgs s_law_bag) (defBody s_law_bag) (defScope s_law_bag) .none kV14 dc14 pm14 an14 cd14 ct14), sl14⟩) (c14 : PySem.W.codeIn K cd14 "_law_bag" = true) (k14 : PySem.W.keepIn K (.ref f14) = true)
    (a15 : PySem.W.nsIn K mainGlobals "_law_bags" = some (some (.ref f15))) (l15 : K.lookup f15 = some ⟨oc15, od15, .func (PySem.W.fnOf "_law_bags" "_law_bags" (defArgs s_law_bags) (defBody s_law_bags) (defScope s_law_bags) .none kV15 dc15 pm15 an15 cd15 ct15), sl15⟩) (c15 : PySem.W.codeIn K cd15 "_law_bags" = true) (k15 : PySem.W.keepIn K (.ref f15) = true)
    (a16 : PySem.W.nsIn K mainGlobals "_law_take" = some (some (.ref f16))) (l16 : K.lookup f16 = some ⟨oc16, od16, .func (PySem.W.fnOf "_law_take" "_law_take" (defArgs s_law_take) (defBody s_law_take) (defScope s_law_take) .none kV16 dc16 pm16 an16 cd16 ct16), sl16⟩) (c16 : PySem.W.codeIn K cd16 "_law_take" = true) (k16 : PySem.W.keepIn K (.ref f16) = true)
    (a17 : PySem.W.nsIn K mainGlobals "_law_tariff" = some (some (.ref f17))) (l17 : K.lookup f17 = some ⟨oc17, od17, .func (PySem.W.fnOf "_law_tariff" "_law_tariff" (defArgs s_law_tariff) (defBody s_law_tariff) (defScope s_law_tariff) .none kV17 dc17 pm17 an17 cd17 ct17), sl17⟩) (c17 : PySem.W.codeIn K cd17 "_law_tariff" = true) (k17 : PySem.W.keepIn K (.ref f17) = true)
    (a18 : PySem.W.nsIn K mainGlobals "_law_day" = some (some (.ref f18))) (l18 : K.lookup f18 = some ⟨oc18, od18, .func (PySem.W.fnOf "_law_day" "_law_day" (defArgs s_law_day) (defBody s_law_day) (defScope s_law_day) .none kV18 dc18 pm18 an18 cd18 ct18), sl18⟩) (c18 : PySem.W.codeIn K cd18 "_law_day" = true) (k18 : PySem.W.keepIn K (.ref f18) = true)
    (a19 : PySem.W.nsIn K mainGlobals "_law_price" = some (some (.ref f19))) (l19 : K.lookup f19 = some ⟨oc19, od19, .func (PySem.W.fnOf "_law_price" "_law_price" (defArgs s_law_price) (defBody s_law_price) (defScope s_law_price) .none kV19 dc19 pm19 an19 cd19 ct19), sl19⟩) (c19 : PySem.W.codeIn K cd19 "_law_price" = true) (k19 : PySem.W.keepIn K (.ref f19) = true)
    (a20 : PySem.W.nsIn K mainGlobals "_law_prices" = some (some (.ref f20))) (l20 : K.lookup f20 = some ⟨oc20, od20, .func (PySem.W.fnOf "_law_prices" "_law_prices" (defArgs s_law_prices) (defBody s_law_prices) (defScope s_law_prices) .none kV20 dc20 pm20 an20 cd20 ct20), sl20⟩) (c20 : PySem.W.codeIn K cd20 "_law_prices" = true) (k20 : PySem.W.keepIn K (.ref f20) = true)
    (a21 : PySem.W.nsIn K mainGlobals "law" = some (some (.ref f21))) (l21 : K.lookup f21 = some ⟨oc21, od21, .func (PySem.W.fnOf "law" "law" (defArgs s_law) (defBody s_law) (defScope s_law) .none kV21 dc21 pm21 an21 cd21 ct21), sl21⟩) (c21 : PySem.W.codeIn K cd21 "law" = true) (k21 : PySem.W.keepIn K (.ref f21) = true)
    (c_DAY : PySem.W.nsIn K mainGlobals "DAY" = some (some (.int 96 t_c_DAY)))
    (c_MAX_LENGTH : PySem.W.nsIn K mainGlobals "MAX_LENGTH" = some (some (.int 1000000000000000 t_c_MAX_LENGTH)))
    (c_MAX_PRICE : PySem.W.nsIn K mainGlobals "MAX_PRICE" = some (some (.int 1000000 t_c_MAX_PRICE)))
    (n_all : PySem.W.nsIn K mainGlobals "all" = some none)
    (n_bool : PySem.W.nsIn K mainGlobals "bool" = some none)
    (n_enumerate : PySem.W.nsIn K mainGlobals "enumerate" = some none)
    (n_int : PySem.W.nsIn K mainGlobals "int" = some none)
    (n_isinstance : PySem.W.nsIn K mainGlobals "isinstance" = some none)
    (n_len : PySem.W.nsIn K mainGlobals "len" = some none)
    (n_list : PySem.W.nsIn K mainGlobals "list" = some none)
    (n_max : PySem.W.nsIn K mainGlobals "max" = some none)
    (n_min : PySem.W.nsIn K mainGlobals "min" = some none)
    (n_range : PySem.W.nsIn K mainGlobals "range" = some none)
    (n_set : PySem.W.nsIn K mainGlobals "set" = some none)
    (n_sorted : PySem.W.nsIn K mainGlobals "sorted" = some none)
    (n_tuple : PySem.W.nsIn K mainGlobals "tuple" = some none)
    (n_zip : PySem.W.nsIn K mainGlobals "zip" = some none)
    : ∃ fd : FuncData, (∀ (s : Shared) (v : Value), BindsTo s fd ⟨[v], []⟩ [("_law_script", v)]) ∧ ∀ base : Heap, K.In base → base.Ns mainGlobals mg → FnOk P w K mg base CX0 7 fa fd ["_law_script"] (spD K g_law) := by
  have e := hfa.symm.trans (PySem.W.mg_of X G a21)
  cases e
  have T : Txt K mg := ⟨⟨⟨_, _, PySem.W.mg_of X G a1, fun_mk (st := s_is_integer) l1 c1 k1, (fun_mk (st := s_is_integer) l1 c1 k1).binds fun _ _ _ _ _ _ us hl => match us, hl with | [_, _, _], _ => rfl⟩⟩,
    ⟨⟨_, _, PySem.W.mg_of X G a2, fun_mk (st := s_is_row) l2 c2 k2, (fun_mk (st := s_is_row) l2 c2 k2).binds fun _ _ _ _ _ _ us hl => match us, hl with | [_], _ => rfl⟩⟩,
    ⟨⟨_, _, PySem.W.mg_of X G a3, fun_mk (st := s_are_rows) l3 c3 k3, (fun_mk (st := s_are_rows) l3 c3 k3).binds fun _ _ _ _ _ _ us hl => match us, hl with | [_], _ => rfl⟩⟩,
    ⟨⟨_, _, PySem.W.mg_of X G a4, fun_mk (st := s_is_tariff) l4 c4 k4, (fun_mk (st := s_is_tariff) l4 c4 k4).binds fun _ _ _ _ _ _ us hl => match us, hl with | [_], _ => rfl⟩⟩,
    ⟨⟨_, _, PySem.W.mg_of X G a5, fun_mk (st := s_need_tariff) l5 c5 k5, (fun_mk (st := s_need_tariff) l5 c5 k5).binds fun _ _ _ _ _ _ us hl => match us, hl with | [_], _ => rfl⟩⟩,
    ⟨⟨_, _, PySem.W.mg_of X G a6, fun_mk (st := s_need_length) l6 c6 k6, (fun_mk (st := s_need_length) l6 c6 k6).binds fun _ _ _ _ _ _ us hl => match us, hl with | [_], _ => rfl⟩⟩,
    ⟨⟨_, _, PySem.W.mg_of X G a7, fun_mk (st := s_day_price) l7 c7 k7, (fun_mk (st := s_day_price) l7 c7 k7).binds fun _ _ _ _ _ _ us hl => match us, hl with | [_, _], _ => rfl⟩⟩,
    ⟨⟨_, _, PySem.W.mg_of X G a8, fun_mk (st := s_stay_price) l8 c8 k8, (fun_mk (st := s_stay_price) l8 c8 k8).binds fun _ _ _ _ _ _ us hl => match us, hl with | [_, _], _ => rfl⟩⟩,
    ⟨⟨_, _, PySem.W.mg_of X G a9, fun_mk (st := s_price) l9 c9 k9, (fun_mk (st := s_price) l9 c9 k9).binds fun _ _ _ _ _ _ us hl => match us, hl with | [_, _], _ => rfl⟩⟩,
    ⟨⟨_, _, PySem.W.mg_of X G a10, fun_mk (st := s_level_list) l10 c10 k10, (fun_mk (st := s_level_list) l10 c10 k10).binds fun _ _ _ _ _ _ us hl => match us, hl with | [_], _ => rfl⟩⟩,
    ⟨⟨_, _, PySem.W.mg_of X G a11, fun_mk (st := s_levels) l11 c11 k11, (fun_mk (st := s_levels) l11 c11 k11).binds fun _ _ _ _ _ _ us hl => match us, hl with | [_], _ => rfl⟩⟩,
    ⟨⟨_, _, PySem.W.mg_of X G a12, fun_mk (st := s_law_cell_at) l12 c12 k12, (fun_mk (st := s_law_cell_at) l12 c12 k12).binds fun _ _ _ _ _ _ us hl => match us, hl with | [_, _], _ => rfl⟩⟩,
    ⟨⟨_, _, PySem.W.mg_of X G a13, fun_mk (st := s_law_draws) l13 c13 k13, (fun_mk (st := s_law_draws) l13 c13 k13).binds fun _ _ _ _ _ _ us hl => match us, hl with | [_, _, _], _ => rfl⟩⟩,
    ⟨⟨_, _, PySem.W.mg_of X G a14, fun_mk (st := s_law_bag) l14 c14 k14, (fun_mk (st := s_law_bag) l14 c14 k14).binds fun _ _ _ _ _ _ us hl => match us, hl with | [_, _], _ => rfl⟩⟩,
    ⟨⟨_, _, PySem.W.mg_of X G a15, fun_mk (st := s_law_bags) l15 c15 k15, (fun_mk (st := s_law_bags) l15 c15 k15).binds fun _ _ _ _ _ _ us hl => match us, hl with | [_, _], _ => rfl⟩⟩,
    ⟨⟨_, _, PySem.W.mg_of X G a16, fun_mk (st := s_law_take) l16 c16 k16, (fun_mk (st := s_law_take) l16 c16 k16).binds fun _ _ _ _ _ _ us hl => match us, hl with | [_, _], _ => rfl⟩⟩,
    ⟨⟨_, _, PySem.W.mg_of X G a17, fun_mk (st := s_law_tariff) l17 c17 k17, (fun_mk (st := s_law_tariff) l17 c17 k17).binds fun _ _ _ _ _ _ us hl => match us, hl with | [_, _], _ => rfl⟩⟩,
    ⟨⟨_, _, PySem.W.mg_of X G a18, fun_mk (st := s_law_day) l18 c18 k18, (fun_mk (st := s_law_day) l18 c18 k18).binds fun _ _ _ _ _ _ us hl => match us, hl with | [_, _], _ => rfl⟩⟩,
    ⟨⟨_, _, PySem.W.mg_of X G a19, fun_mk (st := s_law_price) l19 c19 k19, (fun_mk (st := s_law_price) l19 c19 k19).binds fun _ _ _ _ _ _ us hl => match us, hl with | [_, _], _ => rfl⟩⟩,
    ⟨⟨_, _, PySem.W.mg_of X G a20, fun_mk (st := s_law_prices) l20 c20 k20, (fun_mk (st := s_law_prices) l20 c20 k20).binds fun _ _ _ _ _ _ us hl => match us, hl with | [_], _ => rfl⟩⟩,
    ⟨⟨_, _, PySem.W.mg_of X G a21, fun_mk (st := s_law) l21 c21 k21, (fun_mk (st := s_law) l21 c21 k21).binds fun _ _ _ _ _ _ us hl => match us, hl with | [_], _ => rfl⟩⟩,
    ⟨_, PySem.W.mg_of X G c_DAY⟩,
    ⟨_, PySem.W.mg_of X G c_MAX_LENGTH⟩,
    ⟨_, PySem.W.mg_of X G c_MAX_PRICE⟩,
    PySem.W.mg_none_of X G n_all,
    PySem.W.mg_none_of X G n_bool,
    PySem.W.mg_none_of X G n_enumerate,
    PySem.W.mg_none_of X G n_int,
    PySem.W.mg_none_of X G n_isinstance,
    PySem.W.mg_none_of X G n_len,
    PySem.W.mg_none_of X G n_list,
    PySem.W.mg_none_of X G n_max,
    PySem.W.mg_none_of X G n_min,
    PySem.W.mg_none_of X G n_range,
    PySem.W.mg_none_of X G n_set,
    PySem.W.mg_none_of X G n_sorted,
    PySem.W.mg_none_of X G n_tuple,
    PySem.W.mg_none_of X G n_zip⟩
  exact ⟨PySem.W.fnOf "law" "law" (defArgs s_law) (defBody s_law) (defScope s_law) .none kV21 dc21 pm21 an21 cd21 ct21, fun s v => .of_eq rfl, fun base _ _ => okf_law T (fun_mk (st := s_law) l21 c21 k21)⟩
end Lw
open PySem PySem.W PyProof.Rows
set_option maxHeartbeats 0 in
theorem PySem.Challenge.cw_staytariffs_k02_prices_of_stays_holds : PySem.Challenge.rw_staytariffs_k02_prices_of_stays.Holds := by
  w_on; o_law; k_head; (case hw => w_witness2)
  k_fill
  refine L2.walk_ofB (l := PySem.Challenge.rw_staytariffs_k02_prices_of_stays) (n := 63) (k := 7) (x := "_law_script") (CX := fun _ => L2.CX0) (sp := fun w => Lay.spD _ Lw.g_law) rfl (by decide) rfl ⟨rfl, by decide, by decide⟩ (fun w h Y => PySem.W.kIn_of Y) ?F (fun _ H a ns hl hb _ hS => ⟨H, [.list (ns.map PyData.int)], .bool true, L2.Same.refl _, .cons (.lst hS (Lay.dpA_ofInts ns)) .nil, Lw.law_true ns hl hb, fun v G2 H2 gr d => by cases d; rfl⟩) (fun _ _ _ _ _ h => h)
  case F =>
    intro w mg fa h KX G hmg
    refine' Lw.all_mk KX G hmg ?a1 ?l1 ?c1 ?k1 ?a2 ?l2 ?c2 ?k2 ?a3 ?l3 ?c3 ?k3 ?a4 ?l4 ?c4 ?k4 ?a5 ?l5 ?c5 ?k5 ?a6 ?l6 ?c6 ?k6 ?a7 ?l7 ?c7 ?k7 ?a8 ?l8 ?c8 ?k8 ?a9 ?l9 ?c9 ?k9 ?a10 ?l10 ?c10 ?k10 ?a11 ?l11 ?c11 ?k11 ?a12 ?l12 ?c12 ?k12 ?a13 ?l13 ?c13 ?k13 ?a14 ?l14 ?c14 ?k14 ?a15 ?l15 ?c15 ?k15 ?a16 ?l16 ?c16 ?k16 ?a17 ?l17 ?c17 ?k17 ?a18 ?l18 ?c18 ?k18 ?a19 ?l19 ?c19 ?k19 ?a20 ?l20 ?c20 ?k20 ?a21 ?l21 ?c21 ?k21 ?c_DAY ?c_MAX_LENGTH ?c_MAX_PRICE ?n_all ?n_bool ?n_enumerate ?n_int ?n_isinstance ?n_len ?n_list ?n_max ?n_min ?n_range ?n_set ?n_sorted ?n_tuple ?n_zip
    (case a1 => k_is); (case l1 => k_is); (case c1 => k_is); (case k1 => k_is); (case a2 => k_is); (case l2 => k_is); (case c2 => k_is); (case k2 => k_is); (case a3 => k_is); (case l3 => k_is); (case c3 => k_is); (case k3 => k_is); (case a4 => k_is); (case l4 => k_is); (case c4 => k_is); (case k4 => k_is); (case a5 => k_is); (case l5 => k_is); (case c5 => k_is); (case k5 => k_is); (case a6 => k_is); (case l6 => k_is); (case c6 => k_is); (case k6 => k_is); (case a7 => k_is); (case l7 => k_is); (case c7 => k_is); (case k7 => k_is); (case a8 => k_is); (case l8 => k_is); (case c8 => k_is); (case k8 => k_is); (case a9 => k_is); (case l9 => k_is); (case c9 => k_is); (case k9 => k_is); (case a10 => k_is); (case l10 => k_is); (case c10 => k_is); (case k10 => k_is); (case a11 => k_is); (case l11 => k_is); (case c11 => k_is); (case k11 => k_is); (case a12 => k_is); (case l12 => k_is); (case c12 => k_is); (case k12 => k_is); (case a13 => k_is); (case l13 => k_is); (case c13 => k_is); (case k13 => k_is); (case a14 => k_is); (case l14 => k_is); (case c14 => k_is); (case k14 => k_is); (case a15 => k_is); (case l15 => k_is); (case c15 => k_is); (case k15 => k_is); (case a16 => k_is); (case l16 => k_is); (case c16 => k_is); (case k16 => k_is); (case a17 => k_is); (case l17 => k_is); (case c17 => k_is); (case k17 => k_is); (case a18 => k_is); (case l18 => k_is); (case c18 => k_is); (case k18 => k_is); (case a19 => k_is); (case l19 => k_is); (case c19 => k_is); (case k19 => k_is); (case a20 => k_is); (case l20 => k_is); (case c20 => k_is); (case k20 => k_is); (case a21 => k_is); (case l21 => k_is); (case c21 => k_is); (case k21 => k_is); (case c_DAY => k_is); (case c_MAX_LENGTH => k_is); (case c_MAX_PRICE => k_is); (case n_all => k_is); (case n_bool => k_is); (case n_enumerate => k_is); (case n_int => k_is); (case n_isinstance => k_is); (case n_len => k_is); (case n_list => k_is); (case n_max => k_is); (case n_min => k_is); (case n_range => k_is); (case n_set => k_is); (case n_sorted => k_is); (case n_tuple => k_is); (case n_zip => k_is)


import PyProof.Rows.All
import Wide.All
import OpenK.AllK
import Wide.FinOn
import HandS.ForMost
import KE.KDictKeyed
import HandS.TupAny
import HandS.Deep
import HandS.TupLe
import HandS.WordsDict
import PyProof.StrOps2
import HandS.IsInst
import HandS.Style
import HandS.StrMore
import HandS.TupLen
import HandS.Replace
import HandS.Conv
import HandS.More
import HandS.DictComp
import PyProof.SliceList
import KE.KRevSl
import HandS.SortRule
import HandS.SortKw
import HandS.Keys
import KE.KSortKey
import HandS.SortInts
import PySem.Challenge.RW_viewedwords_k80_judge_of_bonds
set_option Elab.async false
set_option linter.all false
set_option Elab.async false
set_option linter.all false
set_option maxRecDepth 100000
/-! DVa: plain data (PyData) over the abstract heap: what is frozen (G), what a slot owns; canonical readings. -/
namespace DV
open PySem PySem.Spec PyProof.Rows L2

/-- data; a dict carries its kind ahead of its pairs: (none, 0) keys are ints and texts, (none, 1) flat tuples of these, (none, 2) nested tuples -/
abbrev D := PyData
abbrev St := L2.St
structure Wd where
  P : Program
  w : World
  K : PySem.W.Frag
def keyD : Key → D
  | .inl i => .int i
  | .inr x => .str x
mutual
def nkD : NestedKey → D
  | .none => .none
  | .num i => .int i
  | .text x => .str x
  | .tup ks => .tuple (nkDs ks)
def nkDs : List NestedKey → List D
  | [] => []
  | k :: ks => nkD k :: nkDs ks
end
/-- the entries of a dict with nested tuples as keys, as they stand -/
def rawN (W : Wd) (a : Addr) (xs : List (NestedKey × Addr × V)) (h : Heap) : Prop :=
  ∃ (vs : List (NestedKey × Addr × Value)) (o : Obj) (es : Array DictEntry) (ep : Nat), Paired (fun (p : NestedKey × Addr × V) (q : NestedKey × Addr × Value) => p.1 = q.1 ∧ p.2.1 = q.2.1 ∧ RelV p.2.2 q.2.2) xs vs ∧
    h.get? a = some o ∧ o.ExactDict ∧ o.data = .dict es ep ∧ es.toList = vs.map (entryOfKey (nestedKind W.P W.w)) ∧ (a == sysModules) = false ∧ (xs.map (·.1)).Nodup ∧ xs.length ≤ sizeLine
/-- the script, which is only read -/
def scrD (ns : List Int) : D := .dict [(.none, .list (ns.map .int))]
mutual
inductive Rep (W : Wd) (G : Hp) : D → V → Prop
  | non : Rep W G .none .non
  | bl (b : Bool) : Rep W G (.bool b) (.bl b)
  | int (i : Int) : Rep W G (.int i) (.int i)
  | str (x : Str) : Rep W G (.str x) (.str x)
  | scr {a : Addr} {ns : List Int} : SqL W.K G a (ns.map V.int) → Rep W G (scrD ns) (.ref a)
  | lst {a : Addr} {xs : List V} {ds : List D} : G a = some (.lst xs) → Reps W G ds xs → Rep W G (.list ds) (.ref a)
  | tup {a : Addr} {xs : List V} {ds : List D} : G a = some (.tup xs) → Reps W G ds xs → Rep W G (.tuple ds) (.ref a)
  | dcK {a : Addr} {od : Obj} {kv : List (Key × V)} {kvs : List (D × D)} : G a = some (.frz od (.dK kv)) → kvs.map (·.1) = kv.map (fun p => keyD p.1) → Reps W G (kvs.map (·.2)) (kv.map (·.2)) → Rep W G (.dict ((.none, .int 0) :: kvs)) (.ref a)
  | dcT {a : Addr} {od : Obj} {kv : List (List Key × V)} {kvs : List (D × D)} : G a = some (.frz od (.dT kv)) → kvs.map (·.1) = kv.map (fun p => .tuple (p.1.map keyD)) → Reps W G (kvs.map (·.2)) (kv.map (·.2)) → Rep W G (.dict ((.none, .int 1) :: kvs)) (.ref a)
  | dcN {a : Addr} {kv : List (NestedKey × Addr × V)} {kvs : List (D × D)} : G a = some (.ext (rawN W a kv)) → kvs.map (·.1) = kv.map (fun p => nkD p.1) → Reps W G (kvs.map (·.1)) (kv.map (fun p => .ref p.2.1)) → Reps W G (kvs.map (·.2)) (kv.map (·.2.2)) → Rep W G (.dict ((.none, .int 2) :: kvs)) (.ref a)
inductive Reps (W : Wd) (G : Hp) : List D → List V → Prop
  | nil : Reps W G [] []
  | cons {d : D} {ds : List D} {v : V} {vs : List V} : Rep W G d v → Reps W G ds vs → Reps W G (d :: ds) (v :: vs)
end
section
variable {W : Wd} {G G' H H' : Hp}
mutual
theorem Rep.mono (s : Same G G') : ∀ {d : D} {v : V}, Rep W G d v → Rep W G' d v
  | _, _, .non => .non
  | _, _, .bl b => .bl b
  | _, _, .int i => .int i
  | _, _, .str x => .str x
  | _, _, .scr h => .scr (s.seq h)
  | _, _, .lst h r => .lst (s _ _ h) (Reps.mono s r)
  | _, _, .tup h r => .tup (s _ _ h) (Reps.mono s r)
  | _, _, .dcK h k r => .dcK (s _ _ h) k (Reps.mono s r)
  | _, _, .dcT h k r => .dcT (s _ _ h) k (Reps.mono s r)
  | _, _, .dcN h k r r' => .dcN (s _ _ h) k (Reps.mono s r) (Reps.mono s r')
theorem Reps.mono (s : Same G G') : ∀ {d : List D} {v : List V}, Reps W G d v → Reps W G' d v
  | _, _, .nil => .nil
  | _, _, .cons r t => .cons (Rep.mono s r) (Reps.mono s t)
end
theorem Reps.length : ∀ {ds : List D} {vs : List V}, Reps W G ds vs → ds.length = vs.length
  | _, _, .nil => rfl
  | _, _, .cons _ t => congrArg (· + 1) (Reps.length t)
theorem Reps.get : ∀ {ds : List D} {vs : List V} {i : Nat} {d : D}, Reps W G ds vs → ds[i]? = some d → ∃ v, vs[i]? = some v ∧ Rep W G d v
  | _, _, i, _, .nil, e => by simp at e
  | _, _, 0, _, .cons r _, e => by simp at e; subst e; exact ⟨_, rfl, r⟩
  | _, _, i + 1, d, .cons _ t, e => by
    obtain ⟨u, h1, h2⟩ := Reps.get (i := i) (d := d) t (by simpa using e)
    exact ⟨u, by simpa using h1, h2⟩
theorem Reps.getV : ∀ {ds : List D} {vs : List V} {i : Nat} {v : V}, Reps W G ds vs → vs[i]? = some v → ∃ d, ds[i]? = some d ∧ Rep W G d v
  | _, _, i, _, .nil, e => by simp at e
  | _, _, 0, _, .cons r _, e => by simp at e; subst e; exact ⟨_, rfl, r⟩
  | _, _, i + 1, d, .cons _ t, e => by
    obtain ⟨u, h1, h2⟩ := Reps.getV (i := i) (v := d) t (by simpa using e)
    exact ⟨u, by simpa using h1, h2⟩
theorem Reps.append : ∀ {ds es : List D} {vs us : List V}, Reps W G ds vs → Reps W G es us → Reps W G (ds ++ es) (vs ++ us)
  | _, _, _, _, .nil, s => s
  | _, _, _, _, .cons r t, s => .cons r (Reps.append t s)
theorem Reps.snoc {ds : List D} {vs : List V} {d : D} {v : V} (r : Reps W G ds vs) (q : Rep W G d v) : Reps W G (ds ++ [d]) (vs ++ [v]) := r.append (.cons q .nil)
theorem Reps.set {d : D} {v : V} (q : Rep W G d v) : ∀ {ds : List D} {vs : List V} (i : Nat), Reps W G ds vs → Reps W G (ds.set i d) (vs.set i v)
  | _, _, _, .nil => .nil
  | _, _, 0, .cons _ t => .cons q t
  | _, _, i + 1, .cons r t => .cons r (Reps.set q i t)
theorem Reps.take : ∀ {ds : List D} {vs : List V} (n : Nat), Reps W G ds vs → Reps W G (ds.take n) (vs.take n)
  | _, _, 0, _ => .nil
  | _, _, _ + 1, .nil => .nil
  | _, _, n + 1, .cons r t => .cons r (Reps.take n t)
theorem Reps.drop : ∀ {ds : List D} {vs : List V} (n : Nat), Reps W G ds vs → Reps W G (ds.drop n) (vs.drop n)
  | _, _, 0, r => r
  | _, _, _ + 1, .nil => .nil
  | _, _, n + 1, .cons _ t => Reps.drop n t
theorem Reps.reverse : ∀ {ds : List D} {vs : List V}, Reps W G ds vs → Reps W G ds.reverse vs.reverse
  | _, _, .nil => .nil
  | _, _, .cons r t => by rw [List.reverse_cons, List.reverse_cons]; exact (Reps.reverse t).snoc r
end

/-- what stands at the address of an owned thing: its parts are frozen -/
inductive Top (W : Wd) (G H : Hp) : D → Addr → Prop
  | lst {a : Addr} {xs : List V} {ds : List D} : H a = some (.lst xs) → Reps W G ds xs → Top W G H (.list ds) a
  | dcK {a : Addr} {kv : List (Key × V)} {kvs : List (D × D)} : H a = some (.dK kv) → kvs.map (·.1) = kv.map (fun p => keyD p.1) → Reps W G (kvs.map (·.2)) (kv.map (·.2)) → Top W G H (.dict ((.none, .int 0) :: kvs)) a
  | dcT {a : Addr} {kv : List (List Key × V)} {kvs : List (D × D)} : H a = some (.dT kv) → kvs.map (·.1) = kv.map (fun p => .tuple (p.1.map keyD)) → Reps W G (kvs.map (·.2)) (kv.map (·.2)) → Top W G H (.dict ((.none, .int 1) :: kvs)) a
  | dcN {a : Addr} {kv : List (NestedKey × Addr × V)} {kvs : List (D × D)} : H a = some (.ext (rawN W a kv)) → kvs.map (·.1) = kv.map (fun p => nkD p.1) → Reps W G (kvs.map (·.1)) (kv.map (fun p => .ref p.2.1)) → Reps W G (kvs.map (·.2)) (kv.map (·.2.2)) → Top W G H (.dict ((.none, .int 2) :: kvs)) a
section
variable {W : Wd} {G G' H H' : Hp} {d : D} {a : Addr}
theorem Top.mono (s : Same G G') (e : H' a = H a) (t : Top W G H d a) : Top W G' H' d a := by
  cases t with
  | lst h r => exact .lst (e.trans h) (r.mono s)
  | dcK h k r => exact .dcK (e.trans h) k (r.mono s)
  | dcT h k r => exact .dcT (e.trans h) k (r.mono s)
  | dcN h k r r' => exact .dcN (e.trans h) k (r.mono s) (r'.mono s)
theorem Top.at (t : Top W G H d a) : ∃ o, H a = some o := by
  cases t with
  | lst h r => exact ⟨_, h⟩
  | dcK h k r => exact ⟨_, h⟩
  | dcT h k r => exact ⟨_, h⟩
  | dcN h k r r' => exact ⟨_, h⟩
theorem Top.same (s : Same G G') (sh : Same H H') (t : Top W G H d a) : Top W G' H' d a := by
  obtain ⟨o, e⟩ := t.at
  exact t.mono s ((sh _ _ e).trans e.symm)
theorem Top.mut (t : Top W G H d a) : Mut (H a) := by
  cases t with
  | lst h r => rw [h]; trivial
  | dcK h k r => rw [h]; trivial
  | dcT h k r => rw [h]; trivial
  | dcN h k r r' => rw [h]; trivial
end

/-! ### environments -/
inductive Sl where
  | shr (d : D)
  | own (d : D)
abbrev Env := List (Option Sl)

structure Rp (W : Wd) (B G H : Hp) (ρ : Env) (σ : St) : Prop where
  bh : Same B H
  gh : Same G H
  len : ρ.length = σ.length
  shr : ∀ (i : Nat) d, ρ[i]? = some (some (.shr d)) → ∃ v, σ[i]? = some (some v) ∧ Rep W G d v
  own : ∀ (i : Nat) d, ρ[i]? = some (some (.own d)) → ∃ a, σ[i]? = some (some (.ref a)) ∧ B a = none ∧ G a = none ∧ Top W G H d a
  sep : ∀ (i j : Nat) d e a, ρ[i]? = some (some (.own d)) → ρ[j]? = some (some (.own e)) → σ[i]? = some (some (.ref a)) → σ[j]? = some (some (.ref a)) → i = j

theorem Top.notup {W : Wd} {G H : Hp} {d : D} {a : Addr} {xs : List V} (t : Top W G H d a) : H a ≠ some (.tup xs) := by
  cases t with
  | lst h r => rw [h]; exact fun z => nomatch z
  | dcK h k r => rw [h]; exact fun z => nomatch z
  | dcT h k r => rw [h]; exact fun z => nomatch z
  | dcN h k r r' => rw [h]; exact fun z => nomatch z
/-- nothing stands there that may be owned -/
def Nw (H : Hp) (b : Addr) : Prop := H b = none ∨ ∃ xs, H b = some (.tup xs)
theorem Nw.back {H H' : Hp} {b : Addr} (s : Same H H') (n : Nw H' b) : Nw H b := by
  rcases n with n | ⟨xs, n⟩
  · exact .inl (s.free n)
  · cases q : H b with
    | none => exact .inl q
    | some o =>
      have z := s b o q
      rw [n] at z
      cases z
      exact .inr ⟨xs, q⟩
theorem Top.old {W : Wd} {G H : Hp} {d : D} {a : Addr} (t : Top W G H d a) : ¬ Nw H a := by
  rintro (n | ⟨xs, n⟩)
  · obtain ⟨o, e⟩ := t.at
    rw [n] at e
    cases e
  · exact t.notup n
/-- an expression's step: the heap grows, and what is newly frozen is new -/
structure Gw (G H G' H' : Hp) : Prop where
  g : Same G G'
  h : Same H H'
  gh : Same G' H'
  new : ∀ b o, G' b = some o → G b = some o ∨ Nw H b
theorem Gw.refl {G H : Hp} (s : Same G H) : Gw G H G H := ⟨Same.refl _, Same.refl _, s, fun _ _ e => .inl e⟩
theorem Gw.trans {G H G1 H1 G2 H2 : Hp} (a : Gw G H G1 H1) (b : Gw G1 H1 G2 H2) : Gw G H G2 H2 := ⟨a.g.trans b.g, a.h.trans b.h, b.gh, fun c o e => by
  rcases b.new c o e with e | e
  · exact a.new c o e
  · exact .inr (e.back a.h)⟩
/-- a statement's step -/
structure Gs (B G G' : Hp) : Prop where
  g : Same G G'
  new : ∀ b o, G' b = some o → G b = some o ∨ Nw B b
theorem Gs.refl {B G : Hp} : Gs B G G := ⟨Same.refl _, fun _ _ e => .inl e⟩
theorem Gs.trans {B G G1 G2 : Hp} (a : Gs B G G1) (b : Gs B G1 G2) : Gs B G G2 := ⟨a.g.trans b.g, fun c o e => by
  rcases b.new c o e with e | e
  · exact a.new c o e
  · exact .inr e⟩
theorem Gw.gs {B G H G' H' : Hp} (s : Same B H) (a : Gw G H G' H') : Gs B G G' := ⟨a.g, fun b o e => by
  rcases a.new b o e with e | e
  · exact .inl e
  · exact .inr (e.back s)⟩
section
variable {W : Wd} {B G H G' H' : Hp} {ρ : Env} {σ : St}
theorem Rp.step (r : Rp W B G H ρ σ) (w : Gw G H G' H') : Rp W B G' H' ρ σ where
  bh := r.bh.trans w.h
  gh := w.gh
  len := r.len
  shr := fun i d e => let ⟨v, h1, h2⟩ := r.shr i d e; ⟨v, h1, h2.mono w.g⟩
  own := fun i d e => by
    obtain ⟨a, h1, h2, h3, h4⟩ := r.own i d e
    obtain ⟨o, ho⟩ := h4.at
    refine ⟨a, h1, h2, ?_, h4.same w.g w.h⟩
    cases q : G' a with
    | none => rfl
    | some u =>
      rcases w.new a u q with z | z
      · rw [h3] at z; cases z
      · exact absurd z h4.old
  sep := r.sep
theorem Rp.set_shr (r : Rp W B G H ρ σ) {i : Nat} {d : D} {v : V} (q : Rep W G d v) : Rp W B G H (ρ.set i (some (.shr d))) (σ.set i (some v)) where
  bh := r.bh
  gh := r.gh
  len := by simp [r.len]
  shr := fun j e h => by
    by_cases hj : i = j
    · subst hj
      have hl : i < ρ.length := by
        have := (List.getElem?_eq_some_iff.mp h).1
        simpa using this
      rw [List.getElem?_set_self hl] at h
      cases h
      exact ⟨v, by rw [List.getElem?_set_self (by rw [← r.len]; exact hl)], q⟩
    · rw [List.getElem?_set_ne hj] at h
      rw [List.getElem?_set_ne hj]
      exact r.shr j e h
  own := fun j e h => by
    by_cases hj : i = j
    · subst hj
      have hl : i < ρ.length := by
        have := (List.getElem?_eq_some_iff.mp h).1
        simpa using this
      rw [List.getElem?_set_self hl] at h
      cases h
    · rw [List.getElem?_set_ne hj] at h
      rw [List.getElem?_set_ne hj]
      exact r.own j e h
  sep := fun j k d1 d2 a h1 h2 h3 h4 => by
    by_cases hj : i = j
    · subst hj
      have hl : i < ρ.length := by
        have := (List.getElem?_eq_some_iff.mp h1).1
        simpa using this
      rw [List.getElem?_set_self hl] at h1
      cases h1
    · by_cases hk : i = k
      · subst hk
        have hl : i < ρ.length := by
          have := (List.getElem?_eq_some_iff.mp h2).1
          simpa using this
        rw [List.getElem?_set_self hl] at h2
        cases h2
      · rw [List.getElem?_set_ne hj] at h1 h3
        rw [List.getElem?_set_ne hk] at h2 h4
        exact r.sep j k d1 d2 a h1 h2 h3 h4
/-- a slot comes to own a new thing -/
theorem Rp.set_own (r : Rp W B G H ρ σ) {i : Nat} {d : D} {a : Addr} (hB : B a = none) (hG : G a = none) (t : Top W G H d a) (hn : ∀ (j : Nat) e, ρ[j]? = some (some (.own e)) → σ[j]? ≠ some (some (.ref a))) :
    Rp W B G H (ρ.set i (some (.own d))) (σ.set i (some (.ref a))) where
  bh := r.bh
  gh := r.gh
  len := by simp [r.len]
  shr := fun j e h => by
    by_cases hj : i = j
    · subst hj
      have hl : i < ρ.length := by
        have := (List.getElem?_eq_some_iff.mp h).1
        simpa using this
      rw [List.getElem?_set_self hl] at h
      cases h
    · rw [List.getElem?_set_ne hj] at h
      rw [List.getElem?_set_ne hj]
      exact r.shr j e h
  own := fun j e h => by
    by_cases hj : i = j
    · subst hj
      have hl : i < ρ.length := by
        have := (List.getElem?_eq_some_iff.mp h).1
        simpa using this
      rw [List.getElem?_set_self hl] at h
      cases h
      exact ⟨a, by rw [List.getElem?_set_self (by rw [← r.len]; exact hl)], hB, hG, t⟩
    · rw [List.getElem?_set_ne hj] at h
      rw [List.getElem?_set_ne hj]
      exact r.own j e h
  sep := fun j k d1 d2 b h1 h2 h3 h4 => by
    have hl : ∀ {m : Nat} {x}, (ρ.set i (some (.own d)))[m]? = some x → m < ρ.length := fun {m x} h => by
      have := (List.getElem?_eq_some_iff.mp h).1
      simpa using this
    have hl1 := hl h1
    have hl2 := hl h2
    by_cases hj : i = j
    · subst hj
      by_cases hk : i = k
      · exact hk
      · rw [List.getElem?_set_self (by rw [← r.len]; exact hl1)] at h3
        cases h3
        rw [List.getElem?_set_ne hk] at h2 h4
        exact absurd h4 (hn k d2 h2)
    · rw [List.getElem?_set_ne hj] at h1 h3
      by_cases hk : i = k
      · subst hk
        rw [List.getElem?_set_self (by rw [← r.len]; exact hl2)] at h4
        cases h4
        exact absurd h3 (hn j d1 h1)
      · rw [List.getElem?_set_ne hk] at h2 h4
        exact r.sep j k d1 d2 b h1 h2 h3 h4
/-- the thing that slot i owns is changed -/
theorem Rp.upd_own (r : Rp W B G H ρ σ) {i : Nat} {d d' : D} {a : Addr} {o : HO} (hi : ρ[i]? = some (some (.own d))) (ha : σ[i]? = some (some (.ref a))) (t : Top W G (upd H a o) d' a) :
    Rp W B G (upd H a o) (ρ.set i (some (.own d'))) σ := by
  obtain ⟨a', h1, h2, h3, h4⟩ := r.own i d hi
  rw [ha] at h1
  cases h1
  have hl : i < ρ.length := (List.getElem?_eq_some_iff.mp hi).1
  refine ⟨fun b u e => ?_, fun b u e => ?_, by simp [r.len], fun j e h => ?_, fun j e h => ?_, fun j k d1 d2 b q1 q2 q3 q4 => ?_⟩
  · rw [upd_ne (ne_of_none e h2)]; exact r.bh b u e
  · rw [upd_ne (ne_of_none e h3)]; exact r.gh b u e
  · by_cases hj : i = j
    · subst hj
      rw [List.getElem?_set_self hl] at h
      cases h
    · rw [List.getElem?_set_ne hj] at h
      exact r.shr j e h
  · by_cases hj : i = j
    · subst hj
      rw [List.getElem?_set_self hl] at h
      cases h
      exact ⟨a, ha, h2, h3, t⟩
    · rw [List.getElem?_set_ne hj] at h
      obtain ⟨b, g1, g2, g3, g4⟩ := r.own j e h
      refine ⟨b, g1, g2, g3, g4.mono (Same.refl _) ?_⟩
      rw [upd_ne]
      rintro rfl
      exact hj (r.sep i j d e b hi h ha g1)
  · have pre : ∀ {m : Nat} {x}, (ρ.set i (some (.own d')))[m]? = some (some (.own x)) → ∃ y, ρ[m]? = some (some (.own y)) := fun {m x} h => by
      by_cases hm : i = m
      · subst hm; exact ⟨d, hi⟩
      · rw [List.getElem?_set_ne hm] at h
        exact ⟨x, h⟩
    obtain ⟨y1, z1⟩ := pre q1
    obtain ⟨y2, z2⟩ := pre q2
    exact r.sep j k y1 y2 b z1 z2 q3 q4
/-- slots forgotten -/
theorem Rp.forget (r : Rp W B G H ρ σ) {i : Nat} : Rp W B G H (ρ.set i none) σ where
  bh := r.bh
  gh := r.gh
  len := by simp [r.len]
  shr := fun j e h => by
    by_cases hj : i = j
    · subst hj
      have hl : i < ρ.length := by
        have := (List.getElem?_eq_some_iff.mp h).1
        simpa using this
      rw [List.getElem?_set_self hl] at h
      cases h
    · rw [List.getElem?_set_ne hj] at h
      exact r.shr j e h
  own := fun j e h => by
    by_cases hj : i = j
    · subst hj
      have hl : i < ρ.length := by
        have := (List.getElem?_eq_some_iff.mp h).1
        simpa using this
      rw [List.getElem?_set_self hl] at h
      cases h
    · rw [List.getElem?_set_ne hj] at h
      exact r.own j e h
  sep := fun j k d1 d2 a h1 h2 h3 h4 => by
    by_cases hj : i = j
    · subst hj
      have hl : i < ρ.length := by
        have := (List.getElem?_eq_some_iff.mp h1).1
        simpa using this
      rw [List.getElem?_set_self hl] at h1
      cases h1
    · by_cases hk : i = k
      · subst hk
        have hl : i < ρ.length := by
          have := (List.getElem?_eq_some_iff.mp h2).1
          simpa using this
        rw [List.getElem?_set_self hl] at h2
        cases h2
      · rw [List.getElem?_set_ne hj] at h1
        rw [List.getElem?_set_ne hk] at h2
        exact r.sep j k d1 d2 a h1 h2 h3 h4
end
end DV

set_option Elab.async false
set_option linter.all false
set_option maxRecDepth 100000
/-! DVb: canonical readings of expressions, tests, arguments, statements; names, blocks, if, while, for, return; a def as a function of data. -/
namespace DV
open PySem PySem.Spec PyProof.Rows L2

abbrev _root_.L2.Cx.wd (X : Cx) : Wd := ⟨X.prog, X.w, X.K⟩

def Bor (W : Wd) (G H : Hp) (d : D) (v : V) : Prop := Rep W G d v ∨ ∃ p, v = V.ref p ∧ Top W G H d p
theorem Bor.step {W : Wd} {G H G' H' : Hp} {d : D} {v : V} (b : Bor W G H d v) (w : Gw G H G' H') : Bor W G' H' d v := by
  rcases b with b | ⟨p, e, t⟩
  · exact .inl (b.mono w.g)
  · exact .inr ⟨p, e, t.same w.g w.h⟩
def Frs (W : Wd) (G H G' H' : Hp) (d : D) (v : V) : Prop := ∃ p, v = V.ref p ∧ H p = none ∧ G' p = none ∧ Top W G' H' d p
inductive Bors (W : Wd) (G H : Hp) : List D → List V → Prop
  | nil : Bors W G H [] []
  | cons {d : D} {ds : List D} {v : V} {vs : List V} : Bor W G H d v → Bors W G H ds vs → Bors W G H (d :: ds) (v :: vs)
theorem Bors.step {W : Wd} {G H G' H' : Hp} (w : Gw G H G' H') : ∀ {ds : List D} {vs : List V}, Bors W G H ds vs → Bors W G' H' ds vs
  | _, _, .nil => .nil
  | _, _, .cons b t => .cons (b.step w) (Bors.step w t)

abbrev FE := Env → Option D
abbrev FT := Env → Option Bool
abbrev FL := Env → Option (List D)
/-- frozen, borrowed, new -/
def tF (W : Wd) (F : FE) : TE := fun σ H Q => ∃ B G ρ d, Rp W B G H ρ σ ∧ F ρ = some d ∧ ∀ v G' H', Gw G H G' H' → Rep W G' d v → Q v H'
def tB (W : Wd) (F : FE) : TE := fun σ H Q => ∃ B G ρ d, Rp W B G H ρ σ ∧ F ρ = some d ∧ ∀ v G' H', Gw G H G' H' → Bor W G' H' d v → Q v H'
def tN (W : Wd) (F : FE) : TE := fun σ H Q => ∃ B G ρ d, Rp W B G H ρ σ ∧ F ρ = some d ∧ ∀ v G' H', Gw G H G' H' → Frs W G H G' H' d v → Q v H'
def tT (W : Wd) (F : FT) : TT := fun σ H Q => ∃ B G ρ b, Rp W B G H ρ σ ∧ F ρ = some b ∧ ∀ G' H', Gw G H G' H' → Q b H'
def tAF (W : Wd) (F : FL) : TA := fun σ H Q => ∃ B G ρ ds, Rp W B G H ρ σ ∧ F ρ = some ds ∧ ∀ vs G' H', Gw G H G' H' → Reps W G' ds vs → Q vs H'
def tAB (W : Wd) (F : FL) : TA := fun σ H Q => ∃ B G ρ ds, Rp W B G H ρ σ ∧ F ρ = some ds ∧ ∀ vs G' H', Gw G H G' H' → Bors W G' H' ds vs → Q vs H'
abbrev PF (X : Cx) (e : Expr) (F : FE) : Prop := PE X e (tF X.wd F)
abbrev PB (X : Cx) (e : Expr) (F : FE) : Prop := PE X e (tB X.wd F)
abbrev PN (X : Cx) (e : Expr) (F : FE) : Prop := PE X e (tN X.wd F)
abbrev PTD (X : Cx) (e : Expr) (F : FT) : Prop := PT X e (tT X.wd F)
abbrev PWD (X : Cx) (e : Expr) (F : FT) : Prop := PW X e (tT X.wd F)
abbrev PAF (X : Cx) (es : List Expr) (F : FL) : Prop := PA X es (tAF X.wd F)
abbrev PAB (X : Cx) (es : List Expr) (F : FL) : Prop := PA X es (tAB X.wd F)

section
variable {X : Cx} {e : Expr} {F : FE}
theorem PE.weak {t t' : TE} (h : PE X e t) (i : ∀ σ H Q, t' σ H Q → t σ H Q) : PE X e t' := ⟨fun pins s σ H Q I q => h.run pins s σ H Q I (i σ H Q q)⟩
theorem PT.weak {t t' : TT} (h : PT X e t) (i : ∀ σ H Q, t' σ H Q → t σ H Q) : PT X e t' := ⟨fun pins s σ H Q I q => h.run pins s σ H Q I (i σ H Q q)⟩
theorem PW.weak {t t' : TT} (h : PW X e t) (i : ∀ σ H Q, t' σ H Q → t σ H Q) : PW X e t' := ⟨fun wh pins s σ H Q I q => h.run wh pins s σ H Q I (i σ H Q q)⟩
theorem PA.weak {es : List Expr} {t t' : TA} (h : PA X es t) (i : ∀ σ H Q, t' σ H Q → t σ H Q) : PA X es t' := ⟨fun pos pins s σ H Q I q => h.run pos pins s σ H Q I (i σ H Q q)⟩
theorem PS.weak {st : Stmt} {t t' : TS} (h : PS X st t) (i : ∀ D σ H, t' D σ H → t D σ H) : PS X st t' := ⟨fun pins s σ H D I q => h.run pins s σ H D I (i D σ H q)⟩
theorem PSs.weak {st : List Stmt} {t t' : TS} (h : PSs X st t) (i : ∀ D σ H, t' D σ H → t D σ H) : PSs X st t' := ⟨fun pins s σ H D I q => h.run pins s σ H D I (i D σ H q)⟩

theorem f_b (h : PF X e F) : PB X e F := PE.weak h fun σ H Q ⟨B, G, ρ, d, r, k, q⟩ => ⟨B, G, ρ, d, r, k, fun v G' H' w z => q v G' H' w (.inl z)⟩
theorem n_b (h : PN X e F) : PB X e F := PE.weak h fun σ H Q ⟨B, G, ρ, d, r, k, q⟩ => ⟨B, G, ρ, d, r, k, fun v G' H' w z => by
  obtain ⟨p, e, _, _, t⟩ := z
  exact q v G' H' w (.inr ⟨p, e, t⟩)⟩
theorem upd_same_of {H : Hp} {a : Addr} {o : HO} (h : H a = some o) : upd H a o = H := by
  funext b
  by_cases e : b = a
  · subst e; rw [upd_same, h]
  · rw [upd_ne e]
theorem Gw.freeze {G H G' H' : Hp} {p : Addr} {o u : HO} (w : Gw G H G' H') (hp : H p = none) (hg : G' p = none) (ho : H' p = some o) : Gw G H (upd G' p u) (upd H' p u) where
  g := w.g.trans fun b z e => by rw [upd_ne (ne_of_none e hg)]; exact e
  h := fun b z e => by rw [upd_ne (ne_of_none e hp)]; exact w.h b z e
  gh := fun b z e => by
    by_cases hb : b = p
    · subst hb; rw [upd_same] at e ⊢; exact e
    · rw [upd_ne hb] at e ⊢; exact w.gh b z e
  new := fun b z e => by
    by_cases hb : b = p
    · subst hb; exact .inr (.inl hp)
    · rw [upd_ne hb] at e; exact w.new b z e
theorem same_upd {G : Hp} {p : Addr} {u : HO} (hg : G p = none) : Same G (upd G p u) := fun b z e => by rw [upd_ne (ne_of_none e hg)]; exact e
/-- what is new is frozen: a dict is locked for good -/
theorem n_f (h : PN X e F) : PF X e F := by
  refine ⟨fun pins s σ H Q I q => ?_⟩
  obtain ⟨B, G, ρ, d, r, k, q⟩ := q
  refine thn (h.run pins s σ H (fun v H' => ∃ G', Gw G H G' H' ∧ Frs X.wd G H G' H' d v) I ⟨B, G, ρ, d, r, k, fun v G' H' w z => ⟨G', w, z⟩⟩) fun u s' ⟨v, H', I', rv, G', w, p, ev, hp, hg, t⟩ => ?_
  subst ev
  cases t with
  | @lst _ xs _ h1 h2 =>
    have w' := w.freeze (u := .lst xs) hp hg h1
    rw [upd_same_of h1] at w'
    exact ⟨_, H', I', rv, q _ _ H' w' (.lst upd_same (h2.mono (same_upd hg)))⟩
  | dcK h1 h2 h3 =>
    obtain ⟨od, I2⟩ := I'.lock h1 True.intro
    exact ⟨_, _, I2, rv, q _ _ _ (w.freeze hp hg h1) (.dcK upd_same h2 (h3.mono (same_upd hg)))⟩
  | dcT h1 h2 h3 =>
    obtain ⟨od, I2⟩ := I'.lock h1 True.intro
    exact ⟨_, _, I2, rv, q _ _ _ (w.freeze hp hg h1) (.dcT upd_same h2 (h3.mono (same_upd hg)))⟩
  | @dcN _ kv _ h1 h2 h3 h4 =>
    have w' := w.freeze (u := .ext (rawN X.wd p kv)) hp hg h1
    rw [upd_same_of h1] at w'
    exact ⟨_, H', I', rv, q _ _ H' w' (.dcN upd_same h2 (h3.mono (same_upd hg)) (h4.mono (same_upd hg)))⟩
end

/-! ### names and constants -/
def eV (i : Nat) : FE := fun ρ => match ρ[i]? with
  | some (some (.shr d)) => some d
  | _ => none
/-- read in place -/
def eW (i : Nat) : FE := fun ρ => match ρ[i]? with
  | some (some (.shr d)) => some d
  | some (some (.own d)) => some d
  | _ => none
def eC (d : D) : FE := fun _ => some d
section
variable {X : Cx}
theorem f_v (i : Nat) {x : Str} {pos : Pos} (hN : X.N[i]? = some x := by rfl) (hv : Vis X.env.scope x := by first | exact Or.inl rfl | exact Or.inr (Or.inl rfl) | exact Or.inr (Or.inr rfl)) (hd : (x == ("__debug__" : Str)) = false := by decide)
    (hcd : (x == ("__classdict__" : Str)) = false := by decide) : PF X (.Name x pos) (eV i) := by
  refine PE.weak (pe_var (i := i) hN hv hd hcd) fun σ H Q ⟨B, G, ρ, d, r, k, q⟩ => ?_
  unfold eV at k
  split at k
  · rename_i z
    cases k
    obtain ⟨v, h1, h2⟩ := r.shr i _ z
    exact ⟨v, h1, q v G H (Gw.refl r.gh) h2⟩
  · cases k
theorem b_v (i : Nat) {x : Str} {pos : Pos} (hN : X.N[i]? = some x := by rfl) (hv : Vis X.env.scope x := by first | exact Or.inl rfl | exact Or.inr (Or.inl rfl) | exact Or.inr (Or.inr rfl)) (hd : (x == ("__debug__" : Str)) = false := by decide)
    (hcd : (x == ("__classdict__" : Str)) = false := by decide) : PB X (.Name x pos) (eW i) := by
  refine PE.weak (pe_var (i := i) hN hv hd hcd) fun σ H Q ⟨B, G, ρ, d, r, k, q⟩ => ?_
  unfold eW at k
  split at k
  · rename_i z
    cases k
    obtain ⟨v, h1, h2⟩ := r.shr i _ z
    exact ⟨v, h1, q v G H (Gw.refl r.gh) (.inl h2)⟩
  · rename_i z
    cases k
    obtain ⟨a, h1, h2, h3, h4⟩ := r.own i _ z
    exact ⟨_, h1, q _ G H (Gw.refl r.gh) (.inr ⟨a, rfl, h4⟩)⟩
  · cases k
theorem f_c {e : Expr} {d : D} {v : V} (h : PE X e (tC v)) (hr : ∀ G, Rep X.wd G d v) : PF X e (eC d) := PE.weak h fun σ H Q ⟨B, G, ρ, d', r, k, q⟩ => by
  cases k
  exact q v G H (Gw.refl r.gh) (hr G)
theorem f_int {i j pos} : PF X (.Constant (.int i) j pos) (eC (.int i)) := f_c pe_int fun _ => .int _
theorem f_bl {b j pos} : PF X (.Constant (.bool b) j pos) (eC (.bool b)) := f_c pe_bl fun _ => .bl _
theorem f_non {j pos} : PF X (.Constant .none j pos) (eC .none) := f_c pe_non fun _ => .non
theorem f_str {x j pos} : PF X (.Constant (.str x) j pos) (eC (.str x)) := f_c pe_str fun _ => .str _
/-- a text or an int that stands at the top of the module -/
theorem f_glS {x : Str} {pos : Pos} {z : Str} {t : Tok} (hg : Gl X x) (hm : X.mg x = some (.str z t)) (hd : (x == ("__debug__" : Str)) = false := by decide) : PF X (.Name x pos) (eC (.str z)) := f_c (pe_glob (v := V.str z) hg hm ⟨_, rfl⟩ hd) fun _ => .str _
theorem f_glI {x : Str} {pos : Pos} {z : Int} {t : Tok} (hg : Gl X x) (hm : X.mg x = some (.int z t)) (hd : (x == ("__debug__" : Str)) = false := by decide) : PF X (.Name x pos) (eC (.int z)) := f_c (pe_glob (v := V.int z) hg hm ⟨_, rfl⟩ hd) fun _ => .int _

/-! ### two and one in a row -/
def o1 (f : D → Option D) (a : FE) : FE := fun ρ => (a ρ).bind f
def o2 (f : D → D → Option D) (a b : FE) : FE := fun ρ => (a ρ).bind fun x => (b ρ).bind fun y => f x y
/-- an operation by values does what f says of data -/
def OpD (W : Wd) (r : V → V → Hp → VK → Prop) (f : D → D → Option D) : Prop :=
  ∀ (x y d : D) (v u : V) (G H : Hp) (Q : VK), f x y = some d → Bor W G H x v → Bor W G H y u → Same G H → (∀ z G' H', Gw G H G' H' → Rep W G' d z → Q z H') → r v u H Q
theorem two {a b : Expr} {Fa Fb : FE} {r : V → V → Hp → VK → Prop} {f : D → D → Option D} (hf : OpD X.wd r f) {σ : St} {H : Hp} {Q : VK} (h : tF X.wd (o2 f Fa Fb) σ H Q) : tOp r (tB X.wd Fa) (tB X.wd Fb) σ H Q := by
  obtain ⟨B, G, ρ, d, rp, k, q⟩ := h
  obtain ⟨x, hx, k⟩ := Option.bind_eq_some_iff.mp k
  obtain ⟨y, hy, k⟩ := Option.bind_eq_some_iff.mp k
  refine ⟨B, G, ρ, x, rp, hx, fun v G1 H1 w1 b1 => ⟨B, G1, ρ, y, rp.step w1, hy, fun u G2 H2 w2 b2 => ?_⟩⟩
  exact hf x y d v u G2 H2 Q k (b1.step w2) b2 w2.gh fun z G3 H3 w3 rz => q z G3 H3 ((w1.trans w2).trans w3) rz
theorem f_op {op : Operator} {a b : Expr} {pos : Pos} {Fa Fb : FE} {r : R2} {f : D → D → Option D} (ho : OpR X (binaryOp op) r) (hf : OpD X.wd r f) (ha : PB X a Fa) (hb : PB X b Fb) : PF X (.BinOp a op b pos) (o2 f Fa Fb) :=
  PE.weak (pe_op ho ha hb) fun _ _ _ h => two (a := a) (b := b) hf h
theorem f_cmp {op : CmpOp} {a b : Expr} {pos : Pos} {Fa Fb : FE} {r : R2} {f : D → D → Option D} (ho : OpR X (compareOp op) r) (hf : OpD X.wd r f) (ha : PB X a Fa) (hb : PB X b Fb) (hm : behindInMarks op b = false) :
    PF X (.Compare a [op] [b] pos) (o2 f Fa Fb) := PE.weak (pe_cmpR ho ha hb hm) fun _ _ _ h => two (a := a) (b := b) hf h
def asB : D → Option Bool
  | .bool b => some b
  | _ => none
def toT (F : FE) : FT := fun ρ => (F ρ).bind asB
def ofT (F : FT) : FE := fun ρ => (F ρ).map .bool
theorem t_cmp {op : CmpOp} {a b : Expr} {pos : Pos} {Fa Fb : FE} {r : R2} {f : D → D → Option D} (ho : OpR X (compareOp op) r) (hf : OpD X.wd r f) (ha : PB X a Fa) (hb : PB X b Fb) (hm : behindInMarks op b = false) :
    PTD X (.Compare a [op] [b] pos) (toT (o2 f Fa Fb)) := PT.weak (pt_cmpR ho ha hb hm) fun σ H Q h => by
  obtain ⟨B, G, ρ, c, rp, k, q⟩ := h
  obtain ⟨d, hd, k⟩ := Option.bind_eq_some_iff.mp k
  refine two (a := a) (b := b) hf (Q := fun x H' => ∃ k, x = .bl k ∧ Q k H') ⟨B, G, ρ, d, rp, hd, fun v G' H' w rv => ?_⟩
  cases d <;> first | cases k | skip
  cases rv
  exact ⟨_, rfl, q G' H' w⟩
/-- an expression that gives True or False, as a test -/
theorem t_val {e : Expr} {F : FE} (h : PF X e F) (he : ∀ whole, isTrue e X.env whole = (do let v ← whole; standAt e.pos; holding [v] (truthy v)) := by intro _; rfl) : PTD X e (toT F) := PT.weak (pt_val h he) fun σ H Q h => by
  obtain ⟨B, G, ρ, c, rp, k, q⟩ := h
  obtain ⟨d, hd, k⟩ := Option.bind_eq_some_iff.mp k
  refine ⟨B, G, ρ, d, rp, hd, fun v G' H' w rv => ?_⟩
  cases d <;> first | cases k | skip
  cases rv
  exact ⟨_, rfl, q G' H' w⟩

/-! ### and, or, not -/
def tAndF (a b : FT) : FT := fun ρ => (a ρ).bind fun x => if x = true then b ρ else some false
def tOrF (a b : FT) : FT := fun ρ => (a ρ).bind fun x => if x = true then some true else b ρ
def tNotF (a : FT) : FT := fun ρ => (a ρ).map fun x => !x
variable {a b : Expr} {rest : List Expr} {pos : Pos} {Fa Fb : FT}
theorem w_and1 (ha : PTD X a Fa) : PWD X (.BoolOp .And [a] pos) Fa := pw_and1 ha
theorem w_or1 (ha : PTD X a Fa) : PWD X (.BoolOp .Or [a] pos) Fa := pw_or1 ha
theorem w_and (ha : PTD X a Fa) (hb : PWD X (.BoolOp .And (b :: rest) pos) Fb) : PWD X (.BoolOp .And (a :: b :: rest) pos) (tAndF Fa Fb) := PW.weak (pw_and ha hb) fun σ H Q ⟨B, G, ρ, c, rp, k, q⟩ => by
  obtain ⟨x, hx, k⟩ := Option.bind_eq_some_iff.mp k
  refine ⟨B, G, ρ, x, rp, hx, fun G1 H1 w1 => ?_⟩
  by_cases e : x = true
  · rw [if_pos e] at k ⊢
    exact ⟨B, G1, ρ, c, rp.step w1, k, fun G2 H2 w2 => q G2 H2 (w1.trans w2)⟩
  · rw [if_neg e] at k ⊢
    cases k
    exact q G1 H1 w1
theorem w_or (ha : PTD X a Fa) (hb : PWD X (.BoolOp .Or (b :: rest) pos) Fb) : PWD X (.BoolOp .Or (a :: b :: rest) pos) (tOrF Fa Fb) := PW.weak (pw_or ha hb) fun σ H Q ⟨B, G, ρ, c, rp, k, q⟩ => by
  obtain ⟨x, hx, k⟩ := Option.bind_eq_some_iff.mp k
  refine ⟨B, G, ρ, x, rp, hx, fun G1 H1 w1 => ?_⟩
  by_cases e : x = true
  · rw [if_pos e] at k ⊢
    cases k
    exact q G1 H1 w1
  · rw [if_neg e] at k ⊢
    exact ⟨B, G1, ρ, c, rp.step w1, k, fun G2 H2 w2 => q G2 H2 (w1.trans w2)⟩
theorem t_w {e : Expr} {F : FT} (h : PWD X e F) : PTD X e F := h.pt
theorem t_not (ha : PTD X a Fa) : PTD X (.UnaryOp .Not a pos) (tNotF Fa) := PT.weak (pt_not ha) fun σ H Q ⟨B, G, ρ, c, rp, k, q⟩ => by
  obtain ⟨x, hx, k⟩ := Option.map_eq_some_iff.mp k
  subst k
  exact ⟨B, G, ρ, x, rp, hx, fun G1 H1 w1 => q G1 H1 w1⟩
def eAnd (a b : FE) : FE := fun ρ => ((a ρ).bind asB).bind fun x => if x = true then b ρ else some (.bool false)
def eOr (a b : FE) : FE := fun ρ => ((a ρ).bind asB).bind fun x => if x = true then some (.bool true) else b ρ
def eNot (a : FE) : FE := fun ρ => ((a ρ).bind asB).map fun x => .bool (!x)
theorem f_one {op} {F : FE} (h : PF X a F) : PF X (.BoolOp op [a] pos) F := pe_one h
theorem f_and {F F' : FE} (ha : PF X a F) (hb : PF X (.BoolOp .And (b :: rest) pos) F') : PF X (.BoolOp .And (a :: b :: rest) pos) (eAnd F F') := PE.weak (pe_and ha hb) fun σ H Q ⟨B, G, ρ, d, rp, k, q⟩ => by
  obtain ⟨x, hx, k⟩ := Option.bind_eq_some_iff.mp k
  obtain ⟨d', hd, hx⟩ := Option.bind_eq_some_iff.mp hx
  refine ⟨B, G, ρ, d', rp, hd, fun v G1 H1 w1 rv => ?_⟩
  cases d' <;> first | cases hx | skip
  cases rv
  refine ⟨_, rfl, ?_⟩
  by_cases e : x = true
  · rw [if_pos e] at k ⊢
    exact ⟨B, G1, ρ, d, rp.step w1, k, fun v G2 H2 w2 => q v G2 H2 (w1.trans w2)⟩
  · rw [if_neg e] at k ⊢
    cases k
    exact q _ G1 H1 w1 (.bl _)
theorem f_or {F F' : FE} (ha : PF X a F) (hb : PF X (.BoolOp .Or (b :: rest) pos) F') : PF X (.BoolOp .Or (a :: b :: rest) pos) (eOr F F') := PE.weak (pe_or ha hb) fun σ H Q ⟨B, G, ρ, d, rp, k, q⟩ => by
  obtain ⟨x, hx, k⟩ := Option.bind_eq_some_iff.mp k
  obtain ⟨d', hd, hx⟩ := Option.bind_eq_some_iff.mp hx
  refine ⟨B, G, ρ, d', rp, hd, fun v G1 H1 w1 rv => ?_⟩
  cases d' <;> first | cases hx | skip
  cases rv
  refine ⟨_, rfl, ?_⟩
  by_cases e : x = true
  · rw [if_pos e] at k ⊢
    cases k
    exact q _ G1 H1 w1 (.bl _)
  · rw [if_neg e] at k ⊢
    exact ⟨B, G1, ρ, d, rp.step w1, k, fun v G2 H2 w2 => q v G2 H2 (w1.trans w2)⟩
theorem f_not {F : FE} (ha : PF X a F) : PF X (.UnaryOp .Not a pos) (eNot F) := PE.weak (pe_not ha) fun σ H Q ⟨B, G, ρ, d, rp, k, q⟩ => by
  obtain ⟨x, hx, k⟩ := Option.map_eq_some_iff.mp k
  obtain ⟨d', hd, hx⟩ := Option.bind_eq_some_iff.mp hx
  subst k
  refine ⟨B, G, ρ, d', rp, hd, fun v G1 H1 w1 rv => ?_⟩
  cases d' <;> first | cases hx | skip
  cases rv
  exact ⟨_, rfl, q _ G1 H1 w1 (.bl _)⟩
def eIf (c : FT) (a b : FE) : FE := fun ρ => (c ρ).bind fun x => if x = true then a ρ else b ρ
theorem f_if {c : Expr} {Fc : FT} {F F' : FE} (hc : PTD X c Fc) (ha : PF X a F) (hb : PF X b F') : PF X (.IfExp c a b pos) (eIf Fc F F') := PE.weak (pe_ifExp hc ha hb) fun σ H Q ⟨B, G, ρ, d, rp, k, q⟩ => by
  obtain ⟨x, hx, k⟩ := Option.bind_eq_some_iff.mp k
  refine ⟨B, G, ρ, x, rp, hx, fun G1 H1 w1 => ?_⟩
  by_cases e : x = true
  · rw [if_pos e] at k ⊢
    exact ⟨B, G1, ρ, d, rp.step w1, k, fun v G2 H2 w2 => q v G2 H2 (w1.trans w2)⟩
  · rw [if_neg e] at k ⊢
    exact ⟨B, G1, ρ, d, rp.step w1, k, fun v G2 H2 w2 => q v G2 H2 (w1.trans w2)⟩

/-! ### arguments -/
def lN : FL := fun _ => some []
def lC (a : FE) (l : FL) : FL := fun ρ => (a ρ).bind fun x => (l ρ).map fun xs => x :: xs
variable {es : List Expr} {F : FE} {L : FL}
theorem a_nil : PAF X [] lN := PA.weak pa_nil fun σ H Q ⟨B, G, ρ, d, rp, k, q⟩ => by
  cases k
  exact q [] G H (Gw.refl rp.gh) .nil
theorem a_cons (ha : PF X a F) (hr : PAF X es L) (hs : starEach (a :: es) X.env = (false, eval a X.env) :: starEach es X.env := by rfl) : PAF X (a :: es) (lC F L) := PA.weak (pa_cons ha hr hs) fun σ H Q ⟨B, G, ρ, d, rp, k, q⟩ => by
  obtain ⟨x, hx, k⟩ := Option.bind_eq_some_iff.mp k
  obtain ⟨xs, hxs, k⟩ := Option.map_eq_some_iff.mp k
  subst k
  refine ⟨B, G, ρ, x, rp, hx, fun v G1 H1 w1 rv => ⟨B, G1, ρ, xs, rp.step w1, hxs, fun vs G2 H2 w2 rvs => ?_⟩⟩
  exact q _ G2 H2 (w1.trans w2) (.cons (rv.mono w2.g) rvs)
theorem ab_nil : PAB X [] lN := PA.weak pa_nil fun σ H Q ⟨B, G, ρ, d, rp, k, q⟩ => by
  cases k
  exact q [] G H (Gw.refl rp.gh) .nil
theorem ab_cons (ha : PB X a F) (hr : PAB X es L) (hs : starEach (a :: es) X.env = (false, eval a X.env) :: starEach es X.env := by rfl) : PAB X (a :: es) (lC F L) := PA.weak (pa_cons ha hr hs) fun σ H Q ⟨B, G, ρ, d, rp, k, q⟩ => by
  obtain ⟨x, hx, k⟩ := Option.bind_eq_some_iff.mp k
  obtain ⟨xs, hxs, k⟩ := Option.map_eq_some_iff.mp k
  subst k
  refine ⟨B, G, ρ, x, rp, hx, fun v G1 H1 w1 rv => ⟨B, G1, ρ, xs, rp.step w1, hxs, fun vs G2 H2 w2 rvs => ?_⟩⟩
  exact q _ G2 H2 (w1.trans w2) (.cons (rv.step w2) rvs)
end

/-! ### statements -/
inductive Out where
  | nx (ρ : Env) | rt (d : D) | bk (ρ : Env) | ct (ρ : Env)
abbrev FS := Env → Option Out
def After (W : Wd) (B G : Hp) (E : Ends) : Out → Prop
  | .nx ρ => ∀ σ G' H', Gs B G G' → Rp W B G' H' ρ σ → E.nx σ H'
  | .rt d => ∀ v G' H', Gs B G G' → Same B H' → Same G' H' → Rep W G' d v → E.rt v H'
  | .bk ρ => ∀ σ G' H', Gs B G G' → Rp W B G' H' ρ σ → E.bk σ H'
  | .ct ρ => ∀ σ G' H', Gs B G G' → Rp W B G' H' ρ σ → E.ct σ H'
def tS (W : Wd) (F : FS) : TS := fun E σ H => ∃ B G ρ o, Rp W B G H ρ σ ∧ F ρ = some o ∧ After W B G E o
abbrev PSD (X : Cx) (st : Stmt) (F : FS) : Prop := PS X st (tS X.wd F)
abbrev PSsD (X : Cx) (st : List Stmt) (F : FS) : Prop := PSs X st (tS X.wd F)
theorem After.from {W : Wd} {B G G1 : Hp} {E : Ends} {o : Out} (s : Gs B G G1) (a : After W B G E o) : After W B G1 E o := by
  cases o with
  | nx ρ => exact fun σ G' H' g r => a σ G' H' (s.trans g) r
  | rt d => exact fun v G' H' g b z r => a v G' H' (s.trans g) b z r
  | bk ρ => exact fun σ G' H' g r => a σ G' H' (s.trans g) r
  | ct ρ => exact fun σ G' H' g r => a σ G' H' (s.trans g) r
def sNx : FS := fun ρ => some (.nx ρ)
def sSeq (a b : FS) : FS := fun ρ => (a ρ).bind fun o => match o with
  | .nx ρ' => b ρ'
  | o => some o
section
variable {X : Cx} {st : Stmt} {rest : List Stmt} {F F' : FS} {pos : Pos}
theorem ss_nil : PSsD X [] sNx := PSs.weak pss_nil fun E σ H ⟨B, G, ρ, o, r, k, a⟩ => by
  cases k
  exact a σ G H Gs.refl r
theorem ss_cons (h1 : PSD X st F) (h2 : PSsD X rest F') : PSsD X (st :: rest) (sSeq F F') := PSs.weak (pss_cons h1 h2) fun E σ H ⟨B, G, ρ, o, r, k, a⟩ => by
  obtain ⟨o1, h1, k⟩ := Option.bind_eq_some_iff.mp k
  refine ⟨B, G, ρ, o1, r, h1, ?_⟩
  cases o1 with
  | nx ρ' => exact fun σ' G' H' g r' => ⟨B, G', ρ', o, r', k, a.from g⟩
  | rt d => cases k; exact a
  | bk ρ' => cases k; exact a
  | ct ρ' => cases k; exact a
theorem ss_one (h1 : PSD X st F) : PSsD X [st] F := pss_one h1
theorem s_pass : PSD X (.Pass pos) sNx := PS.weak ps_pass fun E σ H ⟨B, G, ρ, o, r, k, a⟩ => by
  cases k
  exact a σ G H Gs.refl r
def sBk : FS := fun ρ => some (.bk ρ)
def sCt : FS := fun ρ => some (.ct ρ)
theorem s_break : PSD X (.Break pos) sBk := PS.weak ps_break fun E σ H ⟨B, G, ρ, o, r, k, a⟩ => by
  cases k
  exact a σ G H Gs.refl r
theorem s_continue : PSD X (.Continue pos) sCt := PS.weak ps_continue fun E σ H ⟨B, G, ρ, o, r, k, a⟩ => by
  cases k
  exact a σ G H Gs.refl r
def sNever : FS := fun _ => none
theorem s_never : PSD X st sNever := PS.weak ps_never fun E σ H ⟨B, G, ρ, o, r, k, a⟩ => by cases k
theorem ss_never : PSsD X rest sNever := PSs.weak pss_never fun E σ H ⟨B, G, ρ, o, r, k, a⟩ => by cases k
def sRet (F : FE) : FS := fun ρ => (F ρ).map .rt
theorem s_ret {e : Expr} {F : FE} (h : PF X e F) : PSD X (.Return (some e) pos) (sRet F) := PS.weak (ps_ret h) fun E σ H ⟨B, G, ρ, o, r, k, a⟩ => by
  obtain ⟨d, hd, k⟩ := Option.map_eq_some_iff.mp k
  subst k
  exact ⟨B, G, ρ, d, r, hd, fun v G' H' w rv => a v G' H' (w.gs r.bh) (r.bh.trans w.h) w.gh rv⟩
def sRetN : FS := fun _ => some (.rt .none)
theorem s_retN : PSD X (.Return none pos) sRetN := PS.weak ps_retN fun E σ H ⟨B, G, ρ, o, r, k, a⟩ => by
  cases k
  exact a _ G H Gs.refl r.bh r.gh .non
def sEx (F : FE) : FS := fun ρ => (F ρ).map fun _ => .nx ρ
theorem s_expr {e : Expr} {F : FE} (h : PB X e F) (hs : swapsWith e none pos.line X.env = pure false := by rfl) : PSD X (.Expr e pos) (sEx F) := PS.weak (ps_expr h hs) fun E σ H ⟨B, G, ρ, o, r, k, a⟩ => by
  obtain ⟨d, hd, k⟩ := Option.map_eq_some_iff.mp k
  subst k
  exact ⟨B, G, ρ, d, r, hd, fun v G' H' w rv => a σ G' H' (w.gs r.bh) (r.step w)⟩
def sIf (c : FT) (a b : FS) : FS := fun ρ => (c ρ).bind fun x => if x = true then a ρ else b ρ
theorem s_if {c : Expr} {a b : List Stmt} {Fc : FT} (hc : PTD X c Fc) (ha : PSsD X a F) (hb : PSsD X b F') : PSD X (.If c a b pos) (sIf Fc F F') := PS.weak (ps_if hc ha hb) fun E σ H ⟨B, G, ρ, o, r, k, a⟩ => by
  obtain ⟨x, hx, k⟩ := Option.bind_eq_some_iff.mp k
  refine ⟨B, G, ρ, x, r, hx, fun G1 H1 w1 => ?_⟩
  by_cases e : x = true
  · rw [if_pos e] at k ⊢
    exact ⟨B, G1, ρ, o, r.step w1, k, a.from (w1.gs r.bh)⟩
  · rw [if_neg e] at k ⊢
    exact ⟨B, G1, ρ, o, r.step w1, k, a.from (w1.gs r.bh)⟩

/-! ### targets -/
abbrev FG := D → Env → Option Env
def tG (W : Wd) (F : FG) : TG := fun v σ H Q => ∃ B G ρ d ρ', Rp W B G H ρ σ ∧ Rep W G d v ∧ F d ρ = some ρ' ∧ ∀ σ' G' H', Gs B G G' → Rp W B G' H' ρ' σ' → Q σ' H'
def tGs (W : Wd) (F : List D → Env → Option Env) : TGs := fun vs σ H Q => ∃ B G ρ ds ρ', Rp W B G H ρ σ ∧ Reps W G ds vs ∧ F ds ρ = some ρ' ∧ ∀ σ' G' H', Gs B G G' → Rp W B G' H' ρ' σ' → Q σ' H'
abbrev PGD (X : Cx) (e : Expr) (F : FG) : Prop := PG X e (tG X.wd F)
abbrev PGsD (X : Cx) (es : List Expr) (F : List D → Env → Option Env) : Prop := PGs X es (tGs X.wd F)
theorem PG.weak {e : Expr} {t t' : TG} (h : PG X e t) (i : ∀ v σ H Q, t' v σ H Q → t v σ H Q) : PG X e t' := ⟨fun pins s σ H v u Q I rv q => h.run pins s σ H v u Q I rv (i v σ H Q q)⟩
theorem PGs.weak {e : List Expr} {t t' : TGs} (h : PGs X e t) (i : ∀ v σ H Q, t' v σ H Q → t v σ H Q) : PGs X e t' := ⟨fun pins s σ H v u Q I rv q => h.run pins s σ H v u Q I rv (i v σ H Q q)⟩
def gN (i : Nat) : FG := fun d ρ => some (ρ.set i (some (.shr d)))
theorem g_name (i : Nat) {x : Str} (hN : X.N.Nodup) (hi : X.N[i]? = some x := by rfl) (hx : Loc X.env.scope x := by first | exact Or.inl rfl | exact Or.inr rfl) (hf : X.fn x = true ∨ X.env.scope.names.lookup x = some .local := by first | exact .inl rfl | exact .inr rfl | assumption) : PGD X (.Name x pos) (gN i) :=
  PG.weak (pg_name (i := i) hN hi hx hf) fun v σ H Q ⟨B, G, ρ, d, ρ', r, rv, k, q⟩ => by
    cases k
    exact q _ G H Gs.refl (r.set_shr rv)
def gsN : List D → Env → Option Env := fun ds ρ => match ds with
  | [] => some ρ
  | _ => none
def gsC (g : FG) (h : List D → Env → Option Env) : List D → Env → Option Env := fun ds ρ => match ds with
  | d :: r => (g d ρ).bind fun ρ' => h r ρ'
  | _ => none
theorem gs_nil : PGsD X [] gsN := PGs.weak pgs_nil fun vs σ H Q ⟨B, G, ρ, ds, ρ', r, rv, k, q⟩ => by
  cases rv with
  | nil => cases k; exact ⟨rfl, q _ G H Gs.refl r⟩
  | cons _ _ => cases k
end
end DV

set_option Elab.async false
set_option linter.all false
set_option maxRecDepth 100000
/-! DVc: targets, assignments, what a slot owns and its changes, loops, defs and their calls. -/
noncomputable section
namespace DV
open PySem PySem.Spec PyProof.Rows L2

section
variable {X : Cx} {st : Stmt} {rest : List Stmt} {F F' : FS} {pos : Pos}
/-! ### targets of several names -/
theorem gs_cons {e : Expr} {es : List Expr} {g : FG} {h : List D → Env → Option Env} (h1 : PGD X e g) (h2 : PGsD X es h)
    (hs : (assignEach (e :: es) X.env).map (·.2) = assign e X.env :: (assignEach es X.env).map (·.2) := by rfl) : PGsD X (e :: es) (gsC g h) :=
  PGs.weak (pgs_cons h1 h2 hs) fun vs σ H Q ⟨B, G, ρ, ds, ρ', r, rv, k, q⟩ => by
    cases rv with
    | nil => cases k
    | @cons d ds v vs r1 r2 =>
      obtain ⟨ρ1, k1, k2⟩ := Option.bind_eq_some_iff.mp k
      exact ⟨v, vs, rfl, B, G, ρ, d, ρ1, r, r1, k1, fun σ' G' H' gs r' => ⟨B, G', ρ1, ds, ρ', r', r2.mono gs.g, k2, fun σ2 G2 H2 gs2 rr => q σ2 G2 H2 (gs.trans gs2) rr⟩⟩
/-- (a, b, ..) = a tuple of n items -/
def gT (n : Nat) (h : List D → Env → Option Env) : FG := fun d ρ => match d with
  | .tuple ds => if ds.length = n then h ds ρ else none
  | _ => none
theorem g_tup {es : List Expr} {k : Nat} {n : Nat} {h : List D → Env → Option Env} (hc : X.calm = true) (hh : PGsD X es h)
    (hn : (assignEach es X.env).length = n := by rfl) (hst : (assignEach es X.env).findIdx? (·.1) = none := by rfl) : PGD X (.Tuple es k pos) (gT n h) :=
  PG.weak (pg_tup hc hh hn hst) fun v σ H Q ⟨B, G, ρ, d, ρ', r, rv, k, q⟩ => by
    unfold gT at k
    split at k
    · split at k
      · rename_i ds hl
        cases rv with
        | tup h1 h2 => exact ⟨_, _, rfl, SqT.of (r.gh _ _ h1), by rw [← h2.length]; exact hl, B, G, ρ, _, ρ', r, h2, k, q⟩
      · cases k
    · cases k

/-! ### assignments -/
def sAsg (F : FE) (g : FG) : FS := fun ρ => (F ρ).bind fun d => (g d ρ).map .nx
theorem s_asg {tg e : Expr} {Fe : FE} {g : FG} (he : PF X e Fe) (hg : PGD X tg g) (hs : swapsWithSole [tg] e pos.line X.env = pure false := by rfl) (hw : swappedStores [tg] e X.env = pure none := by rfl)
    (h1 : (assignEach [tg] X.env).map (·.2) = [assign tg X.env] := by rfl) : PSD X (.Assign [tg] e pos) (sAsg Fe g) :=
  PS.weak (ps_asg he hg hs hw h1) fun E σ H ⟨B, G, ρ, o, r, k, a⟩ => by
    obtain ⟨d, hd, k⟩ := Option.bind_eq_some_iff.mp k
    obtain ⟨ρ', hg, k⟩ := Option.map_eq_some_iff.mp k
    subst k
    exact ⟨B, G, ρ, d, r, hd, fun v G' H' w rv => ⟨B, G', ρ, d, ρ', r.step w, rv, hg, fun σ' G2 H2 gs r' => a σ' G2 H2 ((w.gs r.bh).trans gs) r'⟩⟩
/-- a new thing is owned -/
def sOwn (i : Nat) (F : FE) : FS := fun ρ => (F ρ).map fun d => .nx (ρ.set i (some (.own d)))
theorem s_own (i : Nat) {x : Str} {e : Expr} {pos' : Pos} {Fe : FE} (he : PN X e Fe) (hN : X.N.Nodup) (hi : X.N[i]? = some x := by rfl) (hx : Loc X.env.scope x := by first | exact Or.inl rfl | exact Or.inr rfl)
    (hs : swapsWith e (some (.Name x pos')) pos.line X.env = pure false := by rfl) (hf : X.fn x = true ∨ X.env.scope.names.lookup x = some .local := by first | exact .inl rfl | exact .inr rfl | assumption) : PSD X (.Assign [.Name x pos'] e pos) (sOwn i Fe) :=
  PS.weak (ps_set (i := i) hN hi hx he hs hf) fun E σ H ⟨B, G, ρ, o, r, k, a⟩ => by
    obtain ⟨d, hd, k⟩ := Option.map_eq_some_iff.mp k
    subst k
    refine ⟨B, G, ρ, d, r, hd, fun v G' H' w ⟨p, ev, hp, hg, t⟩ => ?_⟩
    subst ev
    refine a _ G' H' (w.gs r.bh) ((r.step w).set_own (r.bh.free hp) hg t fun j e' hj hσ => ?_)
    obtain ⟨b, h1, h2, h3, h4⟩ := r.own j e' hj
    rw [hσ] at h1
    cases h1
    obtain ⟨o, ho⟩ := h4.at
    rw [hp] at ho
    cases ho
/-- name = e, a frozen value (also where e is a list comprehension on one line) -/
theorem s_set (i : Nat) {x : Str} {e : Expr} {pos' : Pos} {Fe : FE} (he : PF X e Fe) (hN : X.N.Nodup) (hi : X.N[i]? = some x := by rfl) (hx : Loc X.env.scope x := by first | exact Or.inl rfl | exact Or.inr rfl)
    (hs : swapsWith e (some (.Name x pos')) pos.line X.env = pure false := by rfl) (hf : X.fn x = true ∨ X.env.scope.names.lookup x = some .local := by first | exact .inl rfl | exact .inr rfl | assumption) : PSD X (.Assign [.Name x pos'] e pos) (sAsg Fe (gN i)) :=
  PS.weak (ps_set (i := i) hN hi hx he hs hf) fun E σ H ⟨B, G, ρ, o, r, k, a⟩ => by
    obtain ⟨d, hd, k⟩ := Option.bind_eq_some_iff.mp k
    obtain ⟨ρ', hg, k⟩ := Option.map_eq_some_iff.mp k
    subst k
    cases hg
    exact ⟨B, G, ρ, d, r, hd, fun v G' H' w rv => a _ G' H' (w.gs r.bh) ((r.step w).set_shr rv)⟩

/-! ### a slot's thing frozen -/
def frzE (i : Nat) : Env → Env := fun ρ => match ρ[i]? with
  | some (some (.own d)) => ρ.set i (some (.shr d))
  | _ => ρ
def sFrz (i : Nat) (F : FS) : FS := fun ρ => F (frzE i ρ)
theorem Rp.frz {W : Wd} {B G H : Hp} {ρ : Env} {σ : St} {i : Nat} {d : D} {a : Addr} {o u : HO} (r : Rp W B G H ρ σ) (hi : ρ[i]? = some (some (.own d))) (ha : σ[i]? = some (some (.ref a))) (ho : H a = some o) (hu : Rep W (upd G a u) d (.ref a)) :
    Rp W B (upd G a u) (upd H a u) (ρ.set i (some (.shr d))) σ ∧ Gs B G (upd G a u) := by
  obtain ⟨a', h1, h2, h3, h4⟩ := r.own i d hi
  rw [ha] at h1
  cases h1
  have hl : i < ρ.length := (List.getElem?_eq_some_iff.mp hi).1
  have sG : Same G (upd G a u) := same_upd h3
  refine ⟨⟨fun b z e => ?_, fun b z e => ?_, by simp [r.len], fun j e h => ?_, fun j e h => ?_, fun j k d1 d2 b q1 q2 q3 q4 => ?_⟩, ⟨sG, fun b z e => ?_⟩⟩
  · rw [upd_ne (ne_of_none e h2)]; exact r.bh b z e
  · by_cases hb : b = a
    · subst hb; rw [upd_same] at e ⊢; exact e
    · rw [upd_ne hb] at e ⊢; exact r.gh b z e
  · by_cases hj : i = j
    · subst hj
      rw [List.getElem?_set_self hl] at h
      cases h
      exact ⟨_, ha, hu⟩
    · rw [List.getElem?_set_ne hj] at h
      obtain ⟨v, g1, g2⟩ := r.shr j e h
      exact ⟨v, g1, g2.mono sG⟩
  · by_cases hj : i = j
    · subst hj
      rw [List.getElem?_set_self hl] at h
      cases h
    · rw [List.getElem?_set_ne hj] at h
      obtain ⟨b, g1, g2, g3, g4⟩ := r.own j e h
      have hba : b ≠ a := by
        rintro rfl
        exact hj (r.sep i j d e b hi h ha g1)
      exact ⟨b, g1, g2, by rw [upd_ne hba]; exact g3, g4.mono sG (upd_ne hba)⟩
  · have pre : ∀ {m : Nat} {x}, (ρ.set i (some (.shr d)))[m]? = some (some (.own x)) → ρ[m]? = some (some (.own x)) := fun {m x} h => by
      by_cases hm : i = m
      · subst hm
        rw [List.getElem?_set_self hl] at h
        cases h
      · rw [List.getElem?_set_ne hm] at h
        exact h
    exact r.sep j k d1 d2 b (pre q1) (pre q2) q3 q4
  · by_cases hb : b = a
    · subst hb; exact .inr (.inl h2)
    · rw [upd_ne hb] at e; exact .inl e
theorem frz_run {pins : List (Addr × Obj)} {s : Shared} {σ : St} {B G H : Hp} {ρ : Env} {i : Nat} (I : L2.Inv X pins σ H s) (r : Rp X.wd B G H ρ σ) : ∃ G' H', L2.Inv X pins σ H' s ∧ Rp X.wd B G' H' (frzE i ρ) σ ∧ Gs B G G' := by
  unfold frzE
  split
  · rename_i d hi
    obtain ⟨a, h1, h2, h3, h4⟩ := r.own i d hi
    have sG : ∀ {u}, Same G (upd G a u) := same_upd h3
    cases h4 with
    | @lst _ xs _ e q =>
      obtain ⟨r', g'⟩ := r.frz (u := .lst xs) hi h1 e (.lst upd_same (q.mono sG))
      rw [upd_same_of e] at r'
      exact ⟨_, H, I, r', g'⟩
    | dcK e k q =>
      obtain ⟨od, I2⟩ := I.lock e True.intro
      obtain ⟨r', g'⟩ := r.frz hi h1 e (.dcK (od := od) upd_same k (q.mono sG))
      exact ⟨_, _, I2, r', g'⟩
    | dcT e k q =>
      obtain ⟨od, I2⟩ := I.lock e True.intro
      obtain ⟨r', g'⟩ := r.frz hi h1 e (.dcT (od := od) upd_same k (q.mono sG))
      exact ⟨_, _, I2, r', g'⟩
    | @dcN _ kv _ e k q q' =>
      obtain ⟨r', g'⟩ := r.frz (u := .ext (rawN X.wd a kv)) hi h1 e (.dcN upd_same k (q.mono sG) (q'.mono sG))
      rw [upd_same_of e] at r'
      exact ⟨_, H, I, r', g'⟩
  · exact ⟨G, H, I, r, Gs.refl⟩
theorem s_frz (i : Nat) (h : PSD X st F) : PSD X st (sFrz i F) := by
  refine ⟨fun pins s σ H E I q => ?_⟩
  obtain ⟨B, G, ρ, o, r, k, a⟩ := q
  obtain ⟨G', H', I', r', g'⟩ := frz_run (i := i) I r
  exact h.run pins s σ H' E I' ⟨B, G', _, o, r', k, a.from g'⟩

/-! ### what is owned is changed -/
section
local instance (priority := 1000000) cdec0 (p : Prop) : Decidable p := Classical.propDecidable p
def sApp (i : Nat) (F : FE) : FS := fun ρ => (F ρ).bind fun d => match ρ[i]? with
  | some (some (.own (.list ds))) => if ds.length < sizeLine then some (.nx (ρ.set i (some (.own (.list (ds ++ [d])))))) else none
  | _ => none
end
/-- x.append(e), x owned -/
theorem s_app (i : Nat) {x : Str} {e : Expr} {Fe : FE} {npos apos cpos : Pos} (he : PF X e Fe) (hN : X.N[i]? = some x := by rfl) (hv : Vis X.env.scope x := by first | exact Or.inl rfl | exact Or.inr (Or.inl rfl) | exact Or.inr (Or.inr rfl)) (hd : (x == ("__debug__" : Str)) = false := by decide)
    (hcd : (x == ("__classdict__" : Str)) = false := by decide)
    (hs1 : starEach [e] X.env = (false, eval e X.env) :: starEach [] X.env := by rfl)
    (hbase : attributeBase (.Name x npos) "append" X.env (eval (.Name x npos) X.env) = eval (.Name x npos) X.env := by rfl)
    (hfew : ((backTo cpos (starEach [e] X.env)).all (fun x => !x.1) && (backToKw cpos (keywordEach [] X.env)).all (fun x => x.1.isSome)
      && decide (([e] : List Expr).length + ([] : List Keyword).length + (if ([] : List Keyword).isEmpty then 0 else 1) < 30)) = true := by rfl)
    (hline : (apos.endLine == cpos.line) = true := by rfl) (hplain : (backTo cpos (starEach [] X.env)).any (·.1) = false := by rfl)
    (hs : swapsWith (.Call (.Attribute (.Name x npos) "append" apos) [e] [] cpos) none pos.line X.env = pure false := by rfl) :
    PSD X (.Expr (.Call (.Attribute (.Name x npos) "append" apos) [e] [] cpos) pos) (sApp i Fe) :=
  PS.weak (ps_expr (pe_bm PySem.F.plainAttrs_list PySem.F.slot_list_append PySem.F.type_list_append mt_append (pe_var (i := i) hN hv hd hcd) (pa_cons he pa_nil hs1) hbase hfew hline hs1 hplain) hs) fun E σ H ⟨B, G, ρ, o, r, k, a⟩ => by
    obtain ⟨d, hd, k⟩ := Option.bind_eq_some_iff.mp k
    split at k
    · split at k
      · rename_i ds hi hz
        cases k
        obtain ⟨l, h1, h2, h3, h4⟩ := r.own i _ hi
        cases h4 with
        | @lst _ xs _ e q =>
          refine ⟨_, h1, .inl ⟨rfl, _, SqL.of e⟩, B, G, ρ, d, r, hd, fun v G' H' w rv => ?_⟩
          have e' := w.h _ _ e
          refine ⟨l, xs, v, rfl, rfl, e', by rw [← q.length]; exact hz, ?_⟩
          exact a σ G' _ (w.gs r.bh) ((r.step w).upd_own hi h1 (.lst upd_same ((q.mono w.g).snoc rv)))
      · cases k
    · cases k

/-! ### x[i] = e, x owned: a list's item, a dict's pair -/
def dputD (kvs : List (D × D)) (k v : D) (eq : D → D → Bool) : List (D × D) :=
  if (kvs.any fun kv => eq kv.1 k) = true then kvs.map (fun kv => if eq kv.1 k = true then (kv.1, v) else kv) else kvs ++ [(k, v)]
end

/-! ### loops -/
def whileL (c : FT) (b : FS) : Nat → FS
  | 0, _ => none
  | n + 1, ρ => (c ρ).bind fun x => if x = true then (b ρ).bind (fun o => match o with
      | .nx ρ' => whileL c b n ρ'
      | .ct ρ' => whileL c b n ρ'
      | .bk ρ' => some (.nx ρ')
      | .rt d => some (.rt d)) else some (.nx ρ)
def forL (g : FG) (b : FS) : List D → FS
  | [], ρ => some (.nx ρ)
  | d :: ds, ρ => (g d ρ).bind fun ρ1 => (b ρ1).bind fun o => match o with
      | .nx ρ' => forL g b ds ρ'
      | .ct ρ' => forL g b ds ρ'
      | .bk ρ' => some (.nx ρ')
      | .rt d => some (.rt d)
abbrev FI := FL
/-- what an iterator gives, while what is frozen stands -/
def ItRep (W : Wd) (G : Hp) (J : It) (ds : List D) : Prop := ∀ Gc H, Same G Gc → Same Gc H → ∀ i : Nat, (ds.length ≤ i → J.stop i H) ∧ ∀ d, ds[i]? = some d → J.go i H ∧ ∀ x H', J.yld i H x H' → ∃ G', Gw Gc H G' H' ∧ Rep W G' d x
def tI (W : Wd) (F : FI) : TI := fun σ H R => ∃ B G ρ ds, Rp W B G H ρ σ ∧ F ρ = some ds ∧ ∀ J G' H', Gw G H G' H' → ItRep W G' J ds → R J H'
abbrev PID (X : Cx) (tg iter : Expr) (F : FI) : Prop := PI X tg iter (tI X.wd F)
theorem PI.weak {X : Cx} {tg iter : Expr} {t t' : TI} (h : PI X tg iter t) (i : ∀ σ H Q, t' σ H Q → t σ H Q) : PI X tg iter t' := ⟨fun pins s σ H R I q => h.run pins s σ H R I (i σ H R q)⟩
def sFor (l : FI) (g : FG) (b : FS) : FS := fun ρ => (l ρ).bind fun ds => forL g b ds ρ
def sWh (n : Nat) (c : FT) (b : FS) : FS := whileL c b n
section
variable {X : Cx} {F F' : FS} {pos : Pos}
theorem s_while (n : Nat) {c : Expr} {body : List Stmt} {Fc : FT} (hp : PassesOwn (model X.prog X.w) X.A X.env X.xe) (hc : PTD X c Fc) (hb : PSsD X body F) : PSD X (.While c body [] pos) (sWh n Fc F) :=
  PS.weak (ps_while hp hc hb) fun E σ H ⟨B, G, ρ, o, r, k, a⟩ => by
    refine ⟨fun m σ H => ∃ G2 ρ2, Gs B G G2 ∧ Rp X.wd B G2 H ρ2 σ ∧ whileL Fc F m ρ2 = some o, ⟨n, G, ρ, Gs.refl, r, k⟩, ?_⟩
    rintro m σ2 H2 ⟨G2, ρ2, g2, r2, k2⟩
    cases m with
    | zero => cases k2
    | succ m =>
      obtain ⟨x, hx, k2⟩ := Option.bind_eq_some_iff.mp k2
      refine ⟨B, G2, ρ2, x, r2, hx, fun G3 H3 w3 => ?_⟩
      by_cases e : x = true
      · rw [if_pos e] at k2 ⊢
        obtain ⟨o1, h1, k2⟩ := Option.bind_eq_some_iff.mp k2
        refine ⟨fun σ' H' => ∃ G2 ρ2, Gs B G G2 ∧ Rp X.wd B G2 H' ρ2 σ' ∧ whileL Fc F m ρ2 = some o, fun σ' H' z => ⟨m, Nat.lt_succ_self _, z⟩, B, G3, ρ2, o1, r2.step w3, h1, ?_⟩
        have g3 : Gs B G G3 := g2.trans (w3.gs r2.bh)
        cases o1 with
        | nx ρ' => exact fun σ' G' H' g r' => ⟨G', ρ', g3.trans g, r', k2⟩
        | ct ρ' => exact fun σ' G' H' g r' => ⟨G', ρ', g3.trans g, r', k2⟩
        | bk ρ' => cases k2; exact fun σ' G' H' g r' => a σ' G' H' (g3.trans g) r'
        | rt d => cases k2; exact fun v G' H' g b z rv => a v G' H' (g3.trans g) b z rv
      · rw [if_neg e] at k2 ⊢
        cases k2
        exact a σ2 G3 H3 (g2.trans (w3.gs r2.bh)) (r2.step w3)
theorem s_for {tg iter : Expr} {body : List Stmt} {l : FI} {g : FG} (hp : PassesOwn (model X.prog X.w) X.A X.env X.xe) (hc : X.calm = true) (hi : PID X tg iter l) (hg : PGD X tg g) (hb : PSsD X body F)
    (hs : ∀ x, foldedSetIterable iter X.env x = pure x := by intro _; rfl) : PSD X (.For tg iter body [] pos) (sFor l g F) :=
  PS.weak (ps_for hp hc hi hg hb hs) fun E σ H ⟨B, G, ρ, o, r, k, a⟩ => by
    obtain ⟨ds, hd, k⟩ := Option.bind_eq_some_iff.mp k
    refine ⟨B, G, ρ, ds, r, hd, fun J G1 H1 w1 it => ?_⟩
    have g1 : Gs B G G1 := w1.gs r.bh
    refine ⟨fun i m σ H => m = ds.length - i ∧ i ≤ ds.length ∧ ∃ G2 ρ2, Gs B G1 G2 ∧ Rp X.wd B G2 H ρ2 σ ∧ forL g F (ds.drop i) ρ2 = some o, ⟨_, rfl, Nat.zero_le _, G1, ρ, Gs.refl, r.step w1, k⟩, ?_⟩
    rintro i m σ2 H2 ⟨rfl, hi, G2, ρ2, g2, r2, k2⟩
    obtain ⟨hstop, hgo⟩ := it G2 H2 g2.g r2.gh i
    by_cases hlt : i < ds.length
    · have e : ds.drop i = ds[i] :: ds.drop (i + 1) := List.drop_eq_getElem_cons hlt
      rw [e] at k2
      obtain ⟨ρ3, h3, k2⟩ := Option.bind_eq_some_iff.mp k2
      obtain ⟨o1, h4, k2⟩ := Option.bind_eq_some_iff.mp k2
      obtain ⟨go, yld⟩ := hgo ds[i] (List.getElem?_eq_getElem hlt)
      refine .inr ⟨go, fun σ' H' => ∃ G2 ρ2, Gs B G1 G2 ∧ Rp X.wd B G2 H' ρ2 σ' ∧ forL g F (ds.drop (i + 1)) ρ2 = some o, fun σ' H' z => ⟨ds.length - (i + 1), by omega, rfl, hlt, z⟩, fun x H' y => ?_⟩
      obtain ⟨G3, w3, rx⟩ := yld x H' y
      refine ⟨B, G3, ρ2, ds[i], ρ3, r2.step w3, rx, h3, fun σ4 G4 H4 g4 r4 => ⟨B, G4, ρ3, o1, r4, h4, ?_⟩⟩
      have g5 : Gs B G1 G4 := (g2.trans (w3.gs r2.bh)).trans g4
      cases o1 with
      | nx ρ' => exact fun σ' G' H' g r' => ⟨G', ρ', g5.trans g, r', k2⟩
      | ct ρ' => exact fun σ' G' H' g r' => ⟨G', ρ', g5.trans g, r', k2⟩
      | bk ρ' => cases k2; exact fun σ' G' H' g r' => a σ' G' H' ((g1.trans g5).trans g) r'
      | rt d => cases k2; exact fun v G' H' g b z rv => a v G' H' ((g1.trans g5).trans g) b z rv
    · have e : i = ds.length := by omega
      subst e
      rw [List.drop_length] at k2
      cases k2
      exact .inl ⟨hstop (Nat.le_refl _), a σ2 G2 H2 (g1.trans g2) r2⟩
end

/-! ### a def as a function of data -/
def bind0 (n : Nat) (ds : List D) : Env := ds.map (fun d => some (.shr d)) ++ List.replicate (n - ds.length) none
/-- n: all its names; p: its parameters -/
def callF (n p : Nat) (b : FS) : List D → Option D := fun ds => if ds.length = p then (b (bind0 n ds)).bind fun o => match o with
  | .nx _ => some .none
  | .rt d => some d
  | _ => none else none
def spD (W : Wd) (p : Nat) (F : List D → Option D) : Sp := fun vs H Q _ => vs.length = p ∧ ∃ G ds d, Same G H ∧ Reps W G ds vs ∧ F ds = some d ∧ ∀ v G' H', Gw G H G' H' → Rep W G' d v → Q v H'
theorem rp_start {W : Wd} {G H : Hp} {N : List Str} {ds : List D} {vs : List V} (s : Same G H) (r : Reps W G ds vs) : Rp W H G H (bind0 N.length ds) (L2.start N vs) where
  bh := Same.refl _
  gh := s
  len := by simp [bind0, L2.start, r.length]
  shr := fun i d e => by
    unfold bind0 at e
    unfold L2.start
    have hl := r.length
    by_cases h : i < ds.length
    · rw [List.getElem?_append_left (by simpa using h), List.getElem?_map] at e
      cases q : ds[i]? with
      | none => rw [q] at e; cases e
      | some d' =>
        rw [q] at e
        cases e
        obtain ⟨v, h1, h2⟩ := r.get q
        exact ⟨v, by rw [List.getElem?_append_left (by simp; omega), List.getElem?_map, h1]; rfl, h2⟩
    · rw [List.getElem?_append_right (by simpa using h)] at e
      have := List.mem_of_getElem? e
      rw [List.mem_replicate] at this
      cases this.2
  own := fun i d e => by
    unfold bind0 at e
    by_cases h : i < ds.length
    · rw [List.getElem?_append_left (by simpa using h), List.getElem?_map] at e
      cases q : ds[i]? with
      | none => rw [q] at e; cases e
      | some d' => rw [q] at e; cases e
    · rw [List.getElem?_append_right (by simpa using h)] at e
      have := List.mem_of_getElem? e
      rw [List.mem_replicate] at this
      cases this.2
  sep := fun i j d e' a e _ _ _ => by
    unfold bind0 at e
    by_cases h : i < ds.length
    · rw [List.getElem?_append_left (by simpa using h), List.getElem?_map] at e
      cases q : ds[i]? with
      | none => rw [q] at e; cases e
      | some d' => rw [q] at e; cases e
    · rw [List.getElem?_append_right (by simpa using h)] at e
      have := List.mem_of_getElem? e
      rw [List.mem_replicate] at this
      cases this.2
section
variable {P : Program} {w : World} {K : PySem.W.Frag} {mg : Str → Option Value} {base : Heap}
/-- THE RULE for a def -/
theorem _root_.L2.Fun.okD {x qual : Str} {st : Stmt} {f : Addr} {fd : FuncData} {N ps : List Str} {k : Nat} {b : FS} (F : Fun K x qual st f fd) (S : FnScope N ps (defScope st))
    (hbody : ∀ (cdv : Value) (A : Around) (outer : List PySem.Env) (s : Shared) (H : Hp) (E : XK), Room k (A.deeper (envOfC qual (defScope st) s.heap.objs.size f cdv)) →
      PSsD (cxOf CX0 P w K mg base N qual (defScope st) f cdv A outer s H E).nox (defBody st) b) : FnOk P w K mg base CX0 (k + 1) f fd ps (spD ⟨P, w, K⟩ ps.length (callF N.length ps.length b)) := by
  refine F.ok S (fun vs H Q E h => h.1) fun cdv A outer s H vs Q E hr h => ⟨_, hbody cdv A outer s H E hr, ?_⟩
  obtain ⟨hl, G, ds, d, sg, r, hF, q⟩ := h
  unfold callF at hF
  split at hF
  · obtain ⟨o, ho, hF⟩ := Option.bind_eq_some_iff.mp hF
    refine ⟨H, G, bind0 N.length ds, o, rp_start sg r, ho, ?_⟩
    cases o with
    | nx ρ =>
      cases hF
      exact fun σ G' H' g r' => q .non G' H' ⟨g.g, r'.bh, r'.gh, g.new⟩ .non
    | rt d' =>
      cases hF
      exact fun v G' H' g b z rv => q v G' H' ⟨g.g, b, z, g.new⟩ rv
    | bk ρ => cases hF
    | ct ρ => cases hF
  · cases hF
end
/-- a def that keeps its promise, by its name -/
structure DefD (P : Program) (w : World) (K : PySem.W.Frag) (mg : Str → Option Value) (base : Heap) (k : Nat) (x : Str) (Ff : List D → Option D) : Prop where
  ex : ∃ (f : Addr) (fd : FuncData) (ps : List Str), FnOk P w K mg base CX0 k f fd ps (spD ⟨P, w, K⟩ ps.length Ff) ∧ mg x = some (.ref f) ∧ PySem.W.keepIn K (.ref f) = true ∧ Binds K fd ps [] ∧ ∀ ds d, Ff ds = some d → ds.length = ps.length
theorem callF_len {n p : Nat} {b : FS} {ds : List D} {d : D} (h : callF n p b ds = some d) : ds.length = p := by
  unfold callF at h
  split at h
  · assumption
  · cases h
section
variable {P : Program} {w : World} {K : PySem.W.Frag} {mg : Str → Option Value} {base : Heap}
theorem DefD.mono {j k : Nat} {x : Str} {Ff : List D → Option D} (h : DefD P w K mg base j x Ff) (hk : j ≤ k) : DefD P w K mg base k x Ff :=
  let ⟨f, fd, ps, h1, h2⟩ := h.ex
  ⟨f, fd, ps, h1.mono hk, h2⟩
/-- what the top has left of a def -/
structure TopF (K : PySem.W.Frag) (mg : Str → Option Value) (x : Str) (st : Stmt) (ps : List Str) : Prop where
  ex : ∃ (f : Addr) (fd : FuncData), Fun K x x st f fd ∧ mg x = some (.ref f) ∧ Binds K fd ps []
theorem TopF.mk' {h : Heap} {x : Str} {st : Stmt} {ps : List Str} {f : Addr} {oc : Value} {od an : Option Addr} {osl : Array (Option Value)} {kV doc pm cdv ct : Value} (X : K.In h) (G : h.Ns mainGlobals mg)
    (a : PySem.W.nsIn K mainGlobals x = some (some (.ref f))) (l : K.lookup f = some ⟨oc, od, .func (PySem.W.fnOf x x (defArgs st) (defBody st) (defScope st) .none kV doc pm an cdv ct), osl⟩)
    (c : PySem.W.codeIn K cdv x = true) (k : PySem.W.keepIn K (.ref f) = true)
    (hb : ∀ (kV doc pm : Value) (an : Option Addr) (cdv ct : Value) (us : List Value), us.length = ps.length → bindArgs (PySem.W.fnOf x x (defArgs st) (defBody st) (defScope st) .none kV doc pm an cdv ct) ⟨us, []⟩ = pure (ps.zip us)) :
    TopF K mg x st ps := ⟨f, _, fun_mk l c k, PySem.W.mg_of X G a, (fun_mk l c k).binds hb⟩
theorem DefD.of {k : Nat} {x : Str} {st : Stmt} {N ps : List Str} {b : FS} (T : TopF K mg x st ps) (S : FnScope N ps (defScope st))
    (hbody : ∀ (f : Addr) (cdv : Value) (A : Around) (outer : List PySem.Env) (s : Shared) (H : Hp) (E : XK), Room k (A.deeper (envOfC x (defScope st) s.heap.objs.size f cdv)) →
      PSsD (cxOf CX0 P w K mg base N x (defScope st) f cdv A outer s H E).nox (defBody st) b) : DefD P w K mg base (k + 1) x (callF N.length ps.length b) :=
  let ⟨f, fd, F, hm, hb⟩ := T.ex
  ⟨f, fd, ps, F.okD S (hbody f), hm, F.kp, hb, fun _ _ h => callF_len h⟩
end
/-- a call -/
def eCall (f : List D → Option D) (l : FL) : FE := fun ρ => (l ρ).bind f
section
variable {X : Cx} {k : Nat} {x : Str} {p pos : Pos} {e : Expr} {es : List Expr} {L : FL} {Ff : List D → Option D}
theorem f_call (F : DefD X.prog X.w X.K X.mg X.base k x Ff) (hr : Room k X.A) (ha : PAF X (e :: es) L)
    (hg : Gl X x := by rfl) (hdb : (x == ("__debug__" : Str)) = false := by decide) (he : starEach (e :: es) X.env = (false, eval e X.env) :: starEach es X.env := by rfl) (hpl : (backTo pos (starEach es X.env)).any (·.1) = false := by rfl) :
    PF X (.Call (.Name x p) (e :: es) [] pos) (eCall Ff L) := by
  obtain ⟨f, fd, ps, F, hm, hk, hb, hl⟩ := F.ex
  refine PE.weak (pe_call F hr hg hm hk hb .nil pass0 ha hdb he hpl) fun σ H Q ⟨B, G, ρ, d, r, q, z⟩ => ?_
  obtain ⟨ds, hd, q⟩ := Option.bind_eq_some_iff.mp q
  refine ⟨B, G, ρ, ds, r, hd, fun vs G1 H1 w1 rv => ?_⟩
  exact ⟨by rw [List.append_nil, ← rv.length, hl ds d q], G1, ds, d, w1.gh, by rw [List.append_nil]; exact rv, q, fun v G2 H2 w2 r2 => z v G2 H2 (w1.trans w2) r2⟩
end
end DV
end

set_option Elab.async false
set_option linter.all false
set_option maxRecDepth 100000
/-! DVd: the operators, by data. -/
noncomputable section
namespace DV
open PySem PySem.Spec PyProof.Rows L2

section
variable {W : Wd} {G H : Hp} {v : V}
theorem Bor.non' (b : Bor W G H .none v) : v = .non := by
  rcases b with b | ⟨p, e, t⟩
  · cases b; rfl
  · cases t
theorem Bor.bl' {c : Bool} (b : Bor W G H (.bool c) v) : v = .bl c := by
  rcases b with b | ⟨p, e, t⟩
  · cases b; rfl
  · cases t
theorem Bor.int' {i : Int} (b : Bor W G H (.int i) v) : v = .int i := by
  rcases b with b | ⟨p, e, t⟩
  · cases b; rfl
  · cases t
theorem Bor.str' {x : Str} (b : Bor W G H (.str x) v) : v = .str x := by
  rcases b with b | ⟨p, e, t⟩
  · cases b; rfl
  · cases t
theorem Bor.lst' {ds : List D} (sg : Same G H) (b : Bor W G H (.list ds) v) : ∃ a xs, v = .ref a ∧ H a = some (.lst xs) ∧ Reps W G ds xs := by
  rcases b with b | ⟨p, e, t⟩
  · cases b with
    | lst h r => exact ⟨_, _, rfl, sg _ _ h, r⟩
  · cases t with
    | lst h r => exact ⟨_, _, e, h, r⟩
theorem Bor.tup' {ds : List D} (sg : Same G H) (b : Bor W G H (.tuple ds) v) : ∃ a xs, v = .ref a ∧ G a = some (.tup xs) ∧ H a = some (.tup xs) ∧ Reps W G ds xs := by
  rcases b with b | ⟨p, e, t⟩
  · cases b with
    | tup h r => exact ⟨_, _, rfl, h, sg _ _ h, r⟩
  · cases t
theorem Rep.str' {x : Str} (b : Rep W G (.str x) v) : v = .str x := by cases b; rfl
theorem Rep.int' {x : Int} (b : Rep W G (.int x) v) : v = .int x := by cases b; rfl
theorem Gw.mk1 {u : HO} {p : Addr} (sg : Same G H) (hp : H p = none) : Gw G H (upd G p u) (upd H p u) where
  g := same_upd (sg.free hp)
  h := same_upd hp
  gh := fun b z e => by
    by_cases hb : b = p
    · subst hb; rw [upd_same] at e ⊢; exact e
    · rw [upd_ne hb] at e ⊢; exact sg b z e
  new := fun b z e => by
    by_cases hb : b = p
    · subst hb; exact .inr (.inl hp)
    · rw [upd_ne hb] at e; exact .inl e
/-- a new list, a new tuple is frozen -/
theorem fin_lst {Q : VK} {ds : List D} {xs : List V} (sg : Same G H) (r : Reps W G ds xs) (q : ∀ z G' H', Gw G H G' H' → Rep W G' (.list ds) z → Q z H') : ∀ p, H p = none → Q (.ref p) (upd H p (.lst xs)) := fun p hp =>
  q _ _ _ (Gw.mk1 sg hp) (.lst upd_same (r.mono (same_upd (sg.free hp))))
theorem fin_tup {Q : VK} {ds : List D} {xs : List V} (sg : Same G H) (r : Reps W G ds xs) (q : ∀ z G' H', Gw G H G' H' → Rep W G' (.tuple ds) z → Q z H') : ∀ p, H p = none → Q (.ref p) (upd H p (.tup xs)) := fun p hp =>
  q _ _ _ (Gw.mk1 sg hp) (.tup upd_same (r.mono (same_upd (sg.free hp))))
theorem Reps.nil_iff {ds : List D} {xs : List V} (r : Reps W G ds xs) : ds = [] ↔ xs = [] := by
  have := r.length
  constructor
  · rintro rfl
    exact List.eq_nil_of_length_eq_zero this.symm
  · rintro rfl
    exact List.eq_nil_of_length_eq_zero this
end

/-! ### arithmetic and joining -/
section
local instance (priority := 1000000) cdec1 (p : Prop) : Decidable p := Classical.propDecidable p
def addD : D → D → Option D
  | .int i, .int j => some (.int (i + j))
  | .str x, .str y => if x.length + y.length ≤ sizeLine then some (.str (x ++ y)) else none
  | .list xs, .list ys => if xs.length + ys.length ≤ sizeLine then some (.list (xs ++ ys)) else none
  | .tuple xs, .tuple ys => if xs.length + ys.length ≤ sizeLine then some (.tuple (xs ++ ys)) else none
  | _, _ => none
def subD : D → D → Option D
  | .int i, .int j => some (.int (i - j))
  | _, _ => none
def mulS (z : Str) (n : Int) : Str := ⟨(List.replicate n.toNat z.cps.toList).flatten.toArray⟩
def mulD : D → D → Option D
  | .int i, .int j => if (-(2 ^ 64) < i ∧ i < 2 ^ 64) ∨ (-(2 ^ 64) < j ∧ j < 2 ^ 64) then some (.int (i * j)) else none
  | .str z, .int n => if -(2 ^ 62) ≤ n ∧ n < 2 ^ 62 ∧ z.length * n.toNat ≤ sizeLine then some (.str (mulS z n)) else none
  | _, _ => none
def fdivD : D → D → Option D
  | .int i, .int j => if 0 < j ∧ j < 1073741824 then some (.int (i / j)) else none
  | _, _ => none
def modD : D → D → Option D
  | .int i, .int j => if 0 < j then some (.int (i % j)) else none
  | _, _ => none
def powD : D → D → Option D
  | .int i, .int j => if 0 ≤ j ∧ j ≤ 1000000 ∧ i.natAbs < 2 ^ 64 then some (.int (i ^ j.toNat)) else none
  | _, _ => none
def shlD : D → D → Option D
  | .int i, .int j => if 0 ≤ j ∧ j ≤ 1000000 ∧ i.natAbs < 2 ^ 64 then some (.int (i * 2 ^ j.toNat)) else none
  | _, _ => none
def shrD : D → D → Option D
  | .int i, .int j => if 0 ≤ j then some (.int (i / 2 ^ j.toNat)) else none
  | _, _ => none
def andD : D → D → Option D
  | .int i, .int j => some (.int (Builtin.bitAnd i j))
  | _, _ => none
def orD : D → D → Option D
  | .int i, .int j => some (.int (Builtin.bitOr i j))
  | _, _ => none
end
theorem foldl_app (z : Array Nat) : ∀ (n : Nat) (a : Array Nat), ((List.replicate n z).foldl (· ++ ·) a) = a ++ (List.replicate n z.toList).flatten.toArray
  | 0, a => by simp
  | n + 1, a => by
    rw [List.replicate_succ, List.foldl_cons, foldl_app z n, List.replicate_succ, List.flatten_cons]
    apply Array.ext'
    simp
theorem mulS_len (z : Str) (n : Int) : (mulS z n).length = z.length * n.toNat := by
  unfold mulS Str.length
  rw [List.size_toArray, List.length_flatten, List.map_replicate, List.sum_replicate_nat]
  simp [Nat.mul_comm]
section
variable {X : Cx}
theorem op_mul_str : OpR X (binaryOp .Mult) (fun x y H Q => ∃ z n, x = .str z ∧ y = .int n ∧ (-(2 ^ 62) ≤ n ∧ n < 2 ^ 62 ∧ z.length * n.toNat ≤ sizeLine) ∧ Q (.str (mulS z n)) H) := by
  intro pins s σ H x y v u Q I rx ry h
  obtain ⟨z, n, rfl, rfl, ⟨h1, h2, h3⟩, q⟩ := h
  obtain ⟨t, rfl⟩ := rx
  obtain ⟨t', rfl⟩ := ry
  have hs := sizeLine_eq
  refine P.mul_str (by rw [decide_eq_false (by omega), decide_eq_false (by omega)]; rfl) (fun h4 h5 => ?_) (fun h4 h5 => ?_) ?_
  · have hn : (0 : Int) < n := by omega
    have hz : ((z.length : Int) * n) ≤ 2 ^ 63 - 1 := by
      have : ((z.length * n.toNat : Nat) : Int) ≤ (sizeLine : Int) := by exact_mod_cast h3
      rw [Int.natCast_mul, Int.toNat_of_nonneg (Int.le_of_lt hn)] at this
      omega
    have := (Int.le_ediv_iff_mul_le hn).mpr hz
    omega
  · unfold Builtin.Str.tooLong
    exact decide_eq_false (by omega)
  · by_cases h4 : n < 1
    · rw [if_pos h4]
      have e : mulS z n = Str.empty := by
        have : n.toNat = 0 := by omega
        unfold mulS
        rw [this]
        rfl
      rw [e] at q
      exact ⟨by decide, .str Str.empty, H, I.tok _, ⟨_, rfl⟩, q⟩
    · rw [if_neg h4]
      split
      · rename_i h5
        have e : mulS z n = z := by
          unfold mulS
          rcases (Bool.or_eq_true _ _).mp h5 with h6 | h6
          · have : n = 1 := by simpa using h6
            subst this
            simp
          · have h7 : z.length = 0 := by simpa using h6
            have h8 : z.cps = #[] := Array.eq_empty_of_size_eq_zero h7
            obtain ⟨c⟩ := z
            simp only at h8
            subst h8
            simp
        rw [e] at q
        exact ⟨.str z, H, I, ⟨_, rfl⟩, q⟩
      · have e : (⟨(List.replicate n.toNat z.cps).foldl (· ++ ·) #[]⟩ : Str) = mulS z n := by
          unfold mulS
          rw [foldl_app]
          simp
        rw [e]
        refine ⟨?_, .str _, H, I.tok _, ⟨_, rfl⟩, q⟩
        rw [mulS_len]
        exact h3
/-- all of + -/
theorem f_add {a b : Expr} {pos : Pos} {Fa Fb : FE} (ha : PB X a Fa) (hb : PB X b Fb) : PF X (.BinOp a .Add b pos) (o2 addD Fa Fb) :=
  f_op (op_add.or (op_add_str.or (op_cat.or op_catA))) (fun x y d v u G H Q k bx bY sg q => by
    unfold addD at k
    split at k
    · cases k
      cases bx.int'
      cases bY.int'
      exact .inl ⟨_, _, rfl, rfl, q _ G H (Gw.refl sg) (.int _)⟩
    · split at k
      · rename_i hz
        cases k
        cases bx.str'
        cases bY.str'
        exact .inr (.inl ⟨_, _, rfl, rfl, hz, q _ G H (Gw.refl sg) (.str _)⟩)
      · cases k
    · split at k
      · rename_i hz
        cases k
        obtain ⟨a, xs, rfl, h1, r1⟩ := bx.lst' sg
        obtain ⟨b, ys, rfl, h2, r2⟩ := bY.lst' sg
        exact .inr (.inr (.inl ⟨_, _, _, _, rfl, rfl, h1, h2, by rw [← r1.length, ← r2.length]; exact hz, fin_lst sg (r1.append r2) q⟩))
      · cases k
    · split at k
      · rename_i hz
        cases k
        obtain ⟨a, xs, rfl, g1, h1, r1⟩ := bx.tup' sg
        obtain ⟨b, ys, rfl, g2, h2, r2⟩ := bY.tup' sg
        refine .inr (.inr (.inr ⟨_, _, _, _, rfl, rfl, SqT.of h1, SqT.of h2, by rw [← r1.length, ← r2.length]; exact hz, fun e => ?_, fun e1 e2 => ?_, fun _ _ => fin_tup sg (r1.append r2) q⟩))
        · rw [r1.nil_iff.mpr e] at q
          exact q _ G H (Gw.refl sg) (.tup g2 r2)
        · rw [r2.nil_iff.mpr e2, List.append_nil] at q
          exact q _ G H (Gw.refl sg) (.tup g1 r1)
      · cases k
    · cases k) ha hb
theorem opd_int {C : Int → Int → Prop} [∀ i j, Decidable (C i j)] {g : Int → Int → Int} {W : Wd} {f : D → D → Option D} (hf : ∀ x y d, f x y = some d → ∃ i j, x = .int i ∧ y = .int j ∧ C i j ∧ d = .int (g i j)) : OpD W (rI C fun i j => .int (g i j)) f := fun x y d v u G H Q k bx bY sg q => by
  obtain ⟨i, j, rfl, rfl, hc, rfl⟩ := hf x y d k
  cases bx.int'
  cases bY.int'
  exact ⟨_, _, rfl, rfl, hc, q _ G H (Gw.refl sg) (.int _)⟩
theorem opd_int0 {g : Int → Int → Int} {W : Wd} {f : D → D → Option D} (hf : ∀ x y d, f x y = some d → ∃ i j, x = .int i ∧ y = .int j ∧ d = .int (g i j)) : OpD W (rI0 fun i j => .int (g i j)) f := fun x y d v u G H Q k bx bY sg q => by
  obtain ⟨i, j, rfl, rfl, rfl⟩ := hf x y d k
  cases bx.int'
  cases bY.int'
  exact ⟨_, _, rfl, rfl, q _ G H (Gw.refl sg) (.int _)⟩
section
variable {a b : Expr} {pos : Pos} {Fa Fb : FE}
theorem f_sub (ha : PB X a Fa) (hb : PB X b Fb) : PF X (.BinOp a .Sub b pos) (o2 subD Fa Fb) := f_op op_sub (opd_int0 fun x y d k => by
  unfold subD at k; split at k <;> cases k; exact ⟨_, _, rfl, rfl, rfl⟩) ha hb
theorem f_mul (ha : PB X a Fa) (hb : PB X b Fb) : PF X (.BinOp a .Mult b pos) (o2 mulD Fa Fb) := f_op (op_mul.or op_mul_str) (fun x y d v u G H Q k bx bY sg q => by
  unfold mulD at k
  split at k
  · split at k
    · rename_i hz
      cases k
      cases bx.int'
      cases bY.int'
      exact .inl ⟨_, _, rfl, rfl, hz, q _ G H (Gw.refl sg) (.int _)⟩
    · cases k
  · split at k
    · rename_i hz
      cases k
      cases bx.str'
      cases bY.int'
      exact .inr ⟨_, _, rfl, rfl, hz, q _ G H (Gw.refl sg) (.str _)⟩
    · cases k
  · cases k) ha hb
theorem f_fdiv (ha : PB X a Fa) (hb : PB X b Fb) : PF X (.BinOp a .FloorDiv b pos) (o2 fdivD Fa Fb) := f_op op_fdiv (fun x y d v u G H Q k bx bY sg q => by
  unfold fdivD at k
  split at k
  · split at k
    · rename_i hz
      cases k
      cases bx.int'
      cases bY.int'
      exact ⟨_, _, rfl, rfl, hz, q _ G H (Gw.refl sg) (.int _)⟩
    · cases k
  · cases k) ha hb
theorem f_mod (ha : PB X a Fa) (hb : PB X b Fb) : PF X (.BinOp a .Mod b pos) (o2 modD Fa Fb) := f_op op_mod (fun x y d v u G H Q k bx bY sg q => by
  unfold modD at k
  split at k
  · split at k
    · rename_i hz
      cases k
      cases bx.int'
      cases bY.int'
      exact ⟨_, _, rfl, rfl, hz, q _ G H (Gw.refl sg) (.int _)⟩
    · cases k
  · cases k) ha hb
theorem f_pow (ha : PB X a Fa) (hb : PB X b Fb) : PF X (.BinOp a .Pow b pos) (o2 powD Fa Fb) := f_op op_pow (fun x y d v u G H Q k bx bY sg q => by
  unfold powD at k
  split at k
  · split at k
    · rename_i hz
      cases k
      cases bx.int'
      cases bY.int'
      exact ⟨_, _, rfl, rfl, hz, q _ G H (Gw.refl sg) (.int _)⟩
    · cases k
  · cases k) ha hb
theorem f_shl (ha : PB X a Fa) (hb : PB X b Fb) : PF X (.BinOp a .LShift b pos) (o2 shlD Fa Fb) := f_op op_shl (fun x y d v u G H Q k bx bY sg q => by
  unfold shlD at k
  split at k
  · split at k
    · rename_i hz
      cases k
      cases bx.int'
      cases bY.int'
      exact ⟨_, _, rfl, rfl, hz, q _ G H (Gw.refl sg) (.int _)⟩
    · cases k
  · cases k) ha hb
theorem f_shr (ha : PB X a Fa) (hb : PB X b Fb) : PF X (.BinOp a .RShift b pos) (o2 shrD Fa Fb) := f_op op_shr (fun x y d v u G H Q k bx bY sg q => by
  unfold shrD at k
  split at k
  · split at k
    · rename_i hz
      cases k
      cases bx.int'
      cases bY.int'
      exact ⟨_, _, rfl, rfl, hz, q _ G H (Gw.refl sg) (.int _)⟩
    · cases k
  · cases k) ha hb
theorem f_bitand (ha : PB X a Fa) (hb : PB X b Fb) : PF X (.BinOp a .BitAnd b pos) (o2 andD Fa Fb) := f_op op_and (opd_int0 fun x y d k => by
  unfold andD at k; split at k <;> cases k; exact ⟨_, _, rfl, rfl, rfl⟩) ha hb
theorem f_bitor (ha : PB X a Fa) (hb : PB X b Fb) : PF X (.BinOp a .BitOr b pos) (o2 orD Fa Fb) := f_op op_or (opd_int0 fun x y d k => by
  unfold orD at k; split at k <;> cases k; exact ⟨_, _, rfl, rfl, rfl⟩) ha hb
def negD : D → Option D
  | .int i => some (.int (-i))
  | _ => none
theorem f_neg (ha : PB X a Fa) : PF X (.UnaryOp .USub a pos) (o1 negD Fa) := PE.weak (pe_un un_neg ha) fun σ H Q ⟨B, G, ρ, d, r, k, q⟩ => by
  obtain ⟨x, hx, k⟩ := Option.bind_eq_some_iff.mp k
  refine ⟨B, G, ρ, x, r, hx, fun v G1 H1 w1 b1 => ?_⟩
  unfold negD at k
  split at k
  · cases k
    cases b1.int'
    exact ⟨_, rfl, q _ G1 H1 w1 (.int _)⟩
  · cases k
end
end
end DV
end

set_option Elab.async false
set_option linter.all false
set_option maxRecDepth 100000
/-! DVe: comparisons by data: ==, !=, <, <=, is, in. -/
noncomputable section
namespace DV
open PySem PySem.Spec PyProof.Rows L2

def CmpR (X : Cx) (op : CmpOp) (f : D → D → Option D) : Prop := ∃ r, OpR X (compareOp op) r ∧ OpD X.wd r f
section
variable {X : Cx} {op op' : CmpOp} {f f' : D → D → Option D} {a b c : Expr} {pos : Pos} {Fa Fb Fc : FE}
theorem f_cm (h : CmpR X op f) (ha : PB X a Fa) (hb : PB X b Fb) (hm : behindInMarks op b = false) : PF X (.Compare a [op] [b] pos) (o2 f Fa Fb) := let ⟨_, h1, h2⟩ := h; f_cmp h1 h2 ha hb hm
theorem t_cm (h : CmpR X op f) (ha : PB X a Fa) (hb : PB X b Fb) (hm : behindInMarks op b = false) : PTD X (.Compare a [op] [b] pos) (toT (o2 f Fa Fb)) := let ⟨_, h1, h2⟩ := h; t_cmp h1 h2 ha hb hm
/-- a < b < c -/
def o3c (f f' : D → D → Option D) (a b c : FE) : FE := fun ρ => (a ρ).bind fun x => (b ρ).bind fun y => ((f x y).bind asB).bind fun k => if k = true then (c ρ).bind fun z => f' y z else some (.bool false)
theorem chain_r {r r' : R2} (h2 : OpD X.wd r f) (h2' : OpD X.wd r' f') {σ : L2.St} {H : Hp} {Q : VK} (h : tF X.wd (o3c f f' Fa Fb Fc) σ H Q) : tChain r r' (tB X.wd Fa) (tB X.wd Fb) (tB X.wd Fc) σ H Q := by
  obtain ⟨B, G, ρ, d, rp, k, q⟩ := h
  obtain ⟨x, hx, k⟩ := Option.bind_eq_some_iff.mp k
  obtain ⟨y, hy, k⟩ := Option.bind_eq_some_iff.mp k
  obtain ⟨c, hc, k⟩ := Option.bind_eq_some_iff.mp k
  obtain ⟨d1, hd1, hc⟩ := Option.bind_eq_some_iff.mp hc
  refine ⟨B, G, ρ, x, rp, hx, fun v G1 H1 w1 b1 => ⟨B, G1, ρ, y, rp.step w1, hy, fun u G2 H2 w2 b2 => ?_⟩⟩
  refine h2 x y d1 v u G2 H2 _ hd1 (b1.step w2) b2 w2.gh fun z G3 H3 w3 rz => ?_
  cases d1 <;> first | cases hc | skip
  cases rz
  refine ⟨_, rfl, ?_⟩
  by_cases e : c = true
  · rw [if_pos e] at k ⊢
    obtain ⟨z, hz, k⟩ := Option.bind_eq_some_iff.mp k
    exact ⟨B, G3, ρ, z, ((rp.step w1).step w2).step w3, hz, fun t G4 H4 w4 b4 => h2' y z d u t G4 H4 Q k ((b2.step w3).step w4) b4 w4.gh fun z' G5 H5 w5 rz => q z' G5 H5 ((((w1.trans w2).trans w3).trans w4).trans w5) rz⟩
  · rw [if_neg e] at k ⊢
    cases k
    exact q _ G3 H3 ((w1.trans w2).trans w3) (.bl _)
theorem f_chain (h : CmpR X op f) (h' : CmpR X op' f') (ha : PB X a Fa) (hb : PB X b Fb) (hc : PB X c Fc) (hm : lastMarks [op, op'] [b, c] = false := by with_unfolding_all rfl) : PF X (.Compare a [op, op'] [b, c] pos) (o3c f f' Fa Fb Fc) :=
  let ⟨_, h1, h2⟩ := h
  let ⟨_, h1', h2'⟩ := h'
  PE.weak (pe_chain h1 h1' ha hb hc hm) fun _ _ _ q => chain_r h2 h2' q
theorem t_chain (h : CmpR X op f) (h' : CmpR X op' f') (ha : PB X a Fa) (hb : PB X b Fb) (hc : PB X c Fc) (hm : lastMarks [op, op'] [b, c] = false := by with_unfolding_all rfl) : PTD X (.Compare a [op, op'] [b, c] pos) (toT (o3c f f' Fa Fb Fc)) :=
  let ⟨_, h1, h2⟩ := h
  let ⟨_, h1', h2'⟩ := h'
  PT.weak (pt_chain h1 h1' ha hb hc hm) fun σ H Q q => by
    obtain ⟨B, G, ρ, c, rp, k, q⟩ := q
    obtain ⟨d, hd, k⟩ := Option.bind_eq_some_iff.mp k
    refine chain_r h2 h2' (Q := fun x H' => ∃ k, x = .bl k ∧ Q k H') ⟨B, G, ρ, d, rp, hd, fun v G' H' w rv => ?_⟩
    cases d <;> first | cases k | skip
    cases rv
    exact ⟨_, rfl, q G' H' w⟩
end

/-! ### == -/
section
variable {W : Wd} {G H : Hp}
mutual
theorem Rep.dp (sg : Same G H) : ∀ (d : D) (v : V), Rep W G d v → d.canLay0 = true → Dp W.K H v d
  | .none, _, h, _ => by cases h; exact .non
  | .bool b, _, h, _ => by cases h; exact .bl b
  | .int i, _, h, _ => by cases h; exact .int i
  | .str x, _, h, _ => by cases h; exact .str x
  | .list ds, _, h, hl => by
    cases h with
    | lst h1 h2 => exact .lst (SqL.of (sg _ _ h1)) (Reps.dp sg ds _ h2 hl)
  | .tuple ds, _, h, hl => by
    cases h with
    | tup h1 h2 => exact .tup (SqT.of (sg _ _ h1)) (Reps.dp sg ds _ h2 hl)
  | .dict _, _, _, hl => by cases hl
theorem Reps.dp (sg : Same G H) : ∀ (ds : List D) (vs : List V), Reps W G ds vs → PyData.canLayAll0 ds = true → DpAll W.K H vs ds
  | [], _, h, _ => by cases h; exact .nil
  | d :: ds, _, h, hl => by
    cases h with
    | cons h1 h2 =>
      have := (Bool.and_eq_true _ _).mp hl
      exact .cons (Rep.dp sg d _ h1 this.1) (Reps.dp sg ds _ h2 this.2)
end
theorem Bor.dp {d : D} {v : V} (sg : Same G H) (b : Bor W G H d v) (hl : d.canLay0 = true) : Dp W.K H v d := by
  rcases b with b | ⟨p, e, t⟩
  · exact b.dp sg _ _ hl
  · subst e
    cases t with
    | lst h r => exact .lst (SqL.of h) (r.dp sg _ _ hl)
    | dcK => cases hl
    | dcT => cases hl
    | dcN => cases hl
end
section
local instance (priority := 1000000) cde1 (p : Prop) : Decidable p := Classical.propDecidable p
def eqG (x y : D) : Option D := if SeqAt.shaped x = true ∧ SeqAt.shaped y = true then some (.bool (PyData.eqv x y)) else none
end
def eqD : D → D → Option D
  | .int i, .int j => some (.bool (decide (i = j)))
  | .str i, .str j => some (.bool (decide (i = j)))
  | .bool i, .bool j => some (.bool (decide (i = j)))
  | .none, .none => some (.bool true)
  | .none, .int _ => some (.bool false)
  | .int _, .none => some (.bool false)
  | .none, .str _ => some (.bool false)
  | .str _, .none => some (.bool false)
  | .int _, .str _ => some (.bool false)
  | .str _, .int _ => some (.bool false)
  | x, y => eqG x y
def neD (x y : D) : Option D := ((eqD x y).bind asB).map fun b => .bool (!b)
theorem fin_b {W : Wd} {G H : Hp} {Q : VK} {b c : Bool} (sg : Same G H) (e : b = c) (q : ∀ z G' H', Gw G H G' H' → Rep W G' (.bool b) z → Q z H') : Q (.bl c) H := by
  subst e
  exact q _ G H (Gw.refl sg) (.bl _)
section
variable {X : Cx}
theorem c_eq (hu : X.A.units + 64 < cLine) : CmpR X .Eq eqD := ⟨_, op_eq.or (op_eqD hu), fun x y d v u G H Q k bx bY sg q => by
  unfold eqD at k
  split at k
  · cases k; cases bx.int'; cases bY.int'; exact .inl ⟨rfl, fin_b sg (by simp) q⟩
  · cases k; cases bx.str'; cases bY.str'; exact .inl ⟨rfl, fin_b sg (by simp) q⟩
  · cases k; cases bx.bl'; cases bY.bl'; exact .inl ⟨rfl, fin_b sg (by simp) q⟩
  · cases k; cases bx.non'; cases bY.non'; exact .inl ⟨rfl, fin_b sg (by simp) q⟩
  · cases k; cases bx.non'; cases bY.int'; exact .inl ⟨rfl, fin_b sg (by simp) q⟩
  · cases k; cases bx.int'; cases bY.non'; exact .inl ⟨rfl, fin_b sg (by simp) q⟩
  · cases k; cases bx.non'; cases bY.str'; exact .inl ⟨rfl, fin_b sg (by simp) q⟩
  · cases k; cases bx.str'; cases bY.non'; exact .inl ⟨rfl, fin_b sg (by simp) q⟩
  · cases k; cases bx.int'; cases bY.str'; exact .inl ⟨rfl, fin_b sg (by simp) q⟩
  · cases k; cases bx.str'; cases bY.int'; exact .inl ⟨rfl, fin_b sg (by simp) q⟩
  · unfold eqG at k
    split at k
    · rename_i hs
      cases k
      exact .inr ⟨_, _, bx.dp sg (SeqAt.canLay_of_shaped hs.1), bY.dp sg (SeqAt.canLay_of_shaped hs.2), hs.1, hs.2, fin_b sg rfl q⟩
    · cases k⟩
theorem c_ne (hu : X.A.units + 64 < cLine) : CmpR X .NotEq neD := ⟨_, op_ne.or (op_neD hu), fun x y d v u G H Q k bx bY sg q => by
  obtain ⟨c, hc, k⟩ := Option.map_eq_some_iff.mp k
  obtain ⟨e, he, hc⟩ := Option.bind_eq_some_iff.mp hc
  subst k
  unfold eqD at he
  split at he
  · cases he; cases hc; cases bx.int'; cases bY.int'; exact .inl ⟨rfl, fin_b sg (by simp) q⟩
  · cases he; cases hc; cases bx.str'; cases bY.str'; exact .inl ⟨rfl, fin_b sg (by simp) q⟩
  · cases he; cases hc; cases bx.bl'; cases bY.bl'; exact .inl ⟨rfl, fin_b sg (by simp) q⟩
  · cases he; cases hc; cases bx.non'; cases bY.non'; exact .inl ⟨rfl, fin_b sg (by simp) q⟩
  · cases he; cases hc; cases bx.non'; cases bY.int'; exact .inl ⟨rfl, fin_b sg (by simp) q⟩
  · cases he; cases hc; cases bx.int'; cases bY.non'; exact .inl ⟨rfl, fin_b sg (by simp) q⟩
  · cases he; cases hc; cases bx.non'; cases bY.str'; exact .inl ⟨rfl, fin_b sg (by simp) q⟩
  · cases he; cases hc; cases bx.str'; cases bY.non'; exact .inl ⟨rfl, fin_b sg (by simp) q⟩
  · cases he; cases hc; cases bx.int'; cases bY.str'; exact .inl ⟨rfl, fin_b sg (by simp) q⟩
  · cases he; cases hc; cases bx.str'; cases bY.int'; exact .inl ⟨rfl, fin_b sg (by simp) q⟩
  · unfold eqG at he
    split at he
    · rename_i hs
      cases he
      cases hc
      exact .inr ⟨_, _, bx.dp sg (SeqAt.canLay_of_shaped hs.1), bY.dp sg (SeqAt.canLay_of_shaped hs.2), hs.1, hs.2, fin_b sg rfl q⟩
    · cases he⟩

/-! ### <, <=, >, >= -/
def ltD : D → D → Option D
  | .int i, .int j => some (.bool (decide (i < j)))
  | .str i, .str j => some (.bool (decide (i.cps.toList < j.cps.toList)))
  | _, _ => none
def leD : D → D → Option D
  | .int i, .int j => some (.bool (decide (i ≤ j)))
  | _, _ => none
def gtD : D → D → Option D
  | .int i, .int j => some (.bool (decide (j < i)))
  | _, _ => none
def geD : D → D → Option D
  | .int i, .int j => some (.bool (decide (j ≤ i)))
  | _, _ => none
theorem c_lt : CmpR X .Lt ltD := ⟨_, op_lt.or op_lt_str, fun x y d v u G H Q k bx bY sg q => by
  unfold ltD at k
  split at k
  · cases k; cases bx.int'; cases bY.int'; exact .inl ⟨_, _, rfl, rfl, fin_b sg rfl q⟩
  · cases k; cases bx.str'; cases bY.str'; exact .inr ⟨_, _, rfl, rfl, fin_b sg rfl q⟩
  · cases k⟩
theorem c_le : CmpR X .LtE leD := ⟨_, op_le, fun x y d v u G H Q k bx bY sg q => by
  unfold leD at k
  split at k
  · cases k; cases bx.int'; cases bY.int'; exact ⟨_, _, rfl, rfl, fin_b sg rfl q⟩
  · cases k⟩
theorem c_gt : CmpR X .Gt gtD := ⟨_, op_gt, fun x y d v u G H Q k bx bY sg q => by
  unfold gtD at k
  split at k
  · cases k; cases bx.int'; cases bY.int'; exact ⟨_, _, rfl, rfl, fin_b sg rfl q⟩
  · cases k⟩
theorem c_ge : CmpR X .GtE geD := ⟨_, op_ge, fun x y d v u G H Q k bx bY sg q => by
  unfold geD at k
  split at k
  · cases k; cases bx.int'; cases bY.int'; exact ⟨_, _, rfl, rfl, fin_b sg rfl q⟩
  · cases k⟩

/-! ### is None, is True -/
def isNb : D → Bool
  | .none => true
  | _ => false
def isD : D → D → Option D
  | .bool a, .bool b => some (.bool (decide (a = b)))
  | x, .none => some (.bool (isNb x))
  | _, _ => none
def isnD (x y : D) : Option D := ((isD x y).bind asB).map fun b => .bool (!b)
theorem Bor.isN {W : Wd} {G H : Hp} {d : D} {v : V} (b : Bor W G H d v) : isNb d = decide (v = .non) := by
  rcases b with b | ⟨p, e, t⟩
  · cases b <;> simp [isNb, scrD]
  · subst e
    cases t <;> simp [isNb]
theorem c_is : CmpR X .Is isD := ⟨_, op_isN.or op_is_bl, fun x y d v u G H Q k bx bY sg q => by
  unfold isD at k
  split at k
  · cases k; cases bx.bl'; cases bY.bl'; exact .inr ⟨_, _, rfl, rfl, fin_b sg rfl q⟩
  · cases k; cases bY.non'; exact .inl ⟨rfl, fin_b sg bx.isN q⟩
  · cases k⟩
theorem c_isn : CmpR X .IsNot isnD := ⟨_, op_notN.or op_isnot_bl, fun x y d v u G H Q k bx bY sg q => by
  obtain ⟨c, hc, k⟩ := Option.map_eq_some_iff.mp k
  obtain ⟨e, he, hc⟩ := Option.bind_eq_some_iff.mp hc
  subst k
  unfold isD at he
  split at he
  · cases he; cases hc; cases bx.bl'; cases bY.bl'; exact .inr ⟨_, _, rfl, rfl, fin_b sg rfl q⟩
  · cases he; cases hc; cases bY.non'; exact .inl ⟨rfl, fin_b sg (by rw [bx.isN]) q⟩
  · cases he⟩
end
end DV
end

set_option Elab.async false
set_option linter.all false
set_option maxRecDepth 100000
/-! DVf: keys of dicts, in, subscripts, slices, displays, len, stores into what is owned. -/
noncomputable section
namespace DV
open PySem PySem.Spec PyProof.Rows L2

/-! ### keys -/
mutual
def keq : D → D → Bool
  | .none, .none => true
  | .int i, .int j => decide (i = j)
  | .str x, .str y => decide (x = y)
  | .tuple xs, .tuple ys => keqs xs ys
  | _, _ => false
def keqs : List D → List D → Bool
  | [], [] => true
  | x :: xs, y :: ys => keq x y && keqs xs ys
  | _, _ => false
end
def keyOf : D → Option Key
  | .int i => some (.inl i)
  | .str x => some (.inr x)
  | _ => none
def keysOf : List D → Option (List Key)
  | [] => some []
  | d :: ds => (keyOf d).bind fun k => (keysOf ds).map fun ks => k :: ks
def tkeyOf : D → Option (List Key)
  | .tuple ds => keysOf ds
  | _ => none
def dget (kvs : List (D × D)) (k : D) : Option D := (kvs.find? fun p => keq p.1 k).map (·.2)
def dput (kvs : List (D × D)) (k v : D) : List (D × D) :=
  if (kvs.any fun p => keq p.1 k) = true then kvs.map (fun p => if keq p.1 k = true then (p.1, v) else p) else kvs ++ [(k, v)]
theorem keyOf_some {d : D} {k : Key} (h : keyOf d = some k) : d = keyD k := by
  unfold keyOf at h
  split at h <;> cases h <;> rfl
theorem keysOf_some : ∀ {ds : List D} {ks : List Key}, keysOf ds = some ks → ds = ks.map keyD
  | [], ks, h => by cases h; rfl
  | d :: ds, ks, h => by
    obtain ⟨k, hk, h⟩ := Option.bind_eq_some_iff.mp h
    obtain ⟨ks', hks, h⟩ := Option.map_eq_some_iff.mp h
    subst h
    rw [keyOf_some hk, keysOf_some hks]
    rfl
theorem tkeyOf_some {d : D} {ks : List Key} (h : tkeyOf d = some ks) : d = .tuple (ks.map keyD) := by
  unfold tkeyOf at h
  split at h
  · rw [keysOf_some h]
  · cases h
theorem keq_key (a b : Key) : keq (keyD a) (keyD b) = decide (a = b) := by
  cases a <;> cases b <;> simp [keyD, keq]
theorem keqs_key : ∀ (a b : List Key), keqs (a.map keyD) (b.map keyD) = decide (a = b)
  | [], [] => by simp [keqs]
  | [], _ :: _ => by simp [keqs]
  | _ :: _, [] => by simp [keqs]
  | a :: as, b :: bs => by
    rw [List.map_cons, List.map_cons, keqs, keq_key, keqs_key as bs, Bool.eq_iff_iff]
    simp
theorem keq_tkey (a b : List Key) : keq (.tuple (a.map keyD)) (.tuple (b.map keyD)) = decide (a = b) := by rw [keq, keqs_key]

def RepO (W : Wd) (G : Hp) : Option D → Option V → Prop
  | some d, some v => Rep W G d v
  | none, none => True
  | _, _ => False
section
variable {W : Wd} {G H : Hp} {κ : Type} [DecidableEq κ] {enc : κ → D} (he : ∀ a b, keq (enc a) (enc b) = decide (a = b))
include he
theorem get_rel (k : κ) : ∀ {kvs : List (D × D)} {kv : List (κ × V)}, kvs.map (·.1) = kv.map (fun p => enc p.1) → Reps W G (kvs.map (·.2)) (kv.map (·.2)) → RepO W G (dget kvs (enc k)) (valV kv k)
  | [], [], _, _ => trivial
  | [], _ :: _, h, _ => by cases h
  | _ :: _, [], h, _ => by cases h
  | p :: kvs, q :: kv, h, r => by
    rw [List.map_cons, List.map_cons] at h r
    injection h with h1 h2
    cases r with
    | cons r1 r2 =>
      unfold dget
      rw [List.find?_cons]
      by_cases e : q.1 = k
      · rw [h1, he, decide_eq_true e, valV_pos e]
        exact r1
      · rw [h1, he, decide_eq_false e, valV_neg e]
        exact get_rel k h2 r2
theorem any_rel (k : κ) : ∀ {kvs : List (D × D)} {kv : List (κ × V)}, kvs.map (·.1) = kv.map (fun p => enc p.1) → (kvs.any fun p => keq p.1 (enc k)) = kv.any fun q => decide (q.1 = k)
  | [], [], _ => rfl
  | [], _ :: _, h => by cases h
  | _ :: _, [], h => by cases h
  | p :: kvs, q :: kv, h => by
    rw [List.map_cons, List.map_cons] at h
    injection h with h1 h2
    rw [List.any_cons, List.any_cons, h1, he, any_rel k h2]
theorem map_rel {k : κ} {d : D} {v : V} (hv : Rep W G d v) : ∀ {kvs : List (D × D)} {kv : List (κ × V)}, kvs.map (·.1) = kv.map (fun p => enc p.1) → Reps W G (kvs.map (·.2)) (kv.map (·.2)) →
    (kvs.map (fun p => if keq p.1 (enc k) = true then (p.1, d) else p)).map (·.1) = (kv.map (fun q => if q.1 = k then (q.1, v) else q)).map (fun p => enc p.1) ∧
      Reps W G ((kvs.map (fun p => if keq p.1 (enc k) = true then (p.1, d) else p)).map (·.2)) ((kv.map (fun q => if q.1 = k then (q.1, v) else q)).map (·.2))
  | [], [], _, _ => ⟨rfl, .nil⟩
  | [], _ :: _, h, _ => by cases h
  | _ :: _, [], h, _ => by cases h
  | p :: kvs, q :: kv, h, r => by
    rw [List.map_cons, List.map_cons] at h r
    injection h with h1 h2
    cases r with
    | cons r1 r2 =>
      obtain ⟨g1, g2⟩ := map_rel hv h2 r2
      by_cases e : q.1 = k
      · have e' : keq p.1 (enc k) = true := by rw [h1, he, decide_eq_true e]
        simp only [List.map_cons, if_pos e, if_pos e']
        exact ⟨by rw [h1, g1], .cons hv g2⟩
      · have e' : ¬ keq p.1 (enc k) = true := by rw [h1, he, decide_eq_false e]; exact Bool.false_ne_true
        simp only [List.map_cons, if_neg e, if_neg e']
        exact ⟨by rw [h1, g1], .cons r1 g2⟩
theorem put_rel {k : κ} {d : D} {v : V} (hv : Rep W G d v) {kvs : List (D × D)} {kv : List (κ × V)} (h : kvs.map (·.1) = kv.map (fun p => enc p.1)) (r : Reps W G (kvs.map (·.2)) (kv.map (·.2))) :
    (dput kvs (enc k) d).map (·.1) = (putK kv k v).map (fun p => enc p.1) ∧ Reps W G ((dput kvs (enc k) d).map (·.2)) ((putK kv k v).map (·.2)) := by
  unfold dput putK
  rw [any_rel he k h]
  split
  · exact map_rel he hv h r
  · simp only [List.map_append, List.map_cons, List.map_nil]
    exact ⟨by rw [h], r.append (.cons hv .nil)⟩
end
theorem RepO.some {W : Wd} {G : Hp} {d : D} {o : Option V} (h : RepO W G (some d) o) : ∃ v, o = some v ∧ Rep W G d v := by
  cases o with
  | none => exact h.elim
  | some v => exact ⟨v, rfl, h⟩
theorem RepO.isSome {W : Wd} {G : Hp} {x : Option D} {o : Option V} (h : RepO W G x o) : x.isSome = o.isSome := by
  cases x <;> cases o <;> first | rfl | exact h.elim
theorem Rep.key {W : Wd} {G H : Hp} {k : Key} {v : V} (b : Bor W G H (keyD k) v) : v = kV k := by
  cases k with
  | inl i => exact b.int'
  | inr x => exact b.str'
theorem Reps.keys {W : Wd} {G : Hp} : ∀ {ks : List Key} {vs : List V}, Reps W G (ks.map keyD) vs → vs = ks.map kV
  | [], _, h => by cases h; rfl
  | k :: ks, _, h => by
    cases h with
    | cons h1 h2 => rw [Rep.key (k := k) (H := G) (.inl h1), Reps.keys h2]; rfl
theorem Bor.dk {W : Wd} {G H : Hp} {kvs : List (D × D)} {v : V} (sg : Same G H) (b : Bor W G H (.dict ((.none, .int 0) :: kvs)) v) : ∃ a kv, v = .ref a ∧ Rd H a (.dK kv) ∧ kvs.map (·.1) = kv.map (fun p => keyD p.1) ∧ Reps W G (kvs.map (·.2)) (kv.map (·.2)) := by
  rcases b with b | ⟨p, e, t⟩
  · cases b with
    | dcK h1 h2 h3 => exact ⟨_, _, rfl, .inr ⟨_, sg _ _ h1⟩, h2, h3⟩
  · cases t with
    | dcK h1 h2 h3 => exact ⟨_, _, e, .inl h1, h2, h3⟩
theorem Bor.dt {W : Wd} {G H : Hp} {kvs : List (D × D)} {v : V} (sg : Same G H) (b : Bor W G H (.dict ((.none, .int 1) :: kvs)) v) : ∃ a kv, v = .ref a ∧ Rd H a (.dT kv) ∧ kvs.map (·.1) = kv.map (fun p => .tuple (p.1.map keyD)) ∧ Reps W G (kvs.map (·.2)) (kv.map (·.2)) := by
  rcases b with b | ⟨p, e, t⟩
  · cases b with
    | dcT h1 h2 h3 => exact ⟨_, _, rfl, .inr ⟨_, sg _ _ h1⟩, h2, h3⟩
  · cases t with
    | dcT h1 h2 h3 => exact ⟨_, _, e, .inl h1, h2, h3⟩

/-! ### in, not in -/
def toV : D → V
  | .bool b => .bl b
  | .int i => .int i
  | .str x => .str x
  | _ => .non
def flatD : D → Bool
  | .none => true
  | .bool _ => true
  | .int _ => true
  | .str _ => true
  | _ => false
theorem Rep.flat {W : Wd} {G : Hp} {d : D} {v : V} (h : Rep W G d v) (f : flatD d = true) : v = toV d ∧ flatV v = true := by
  cases h <;> first | exact ⟨rfl, rfl⟩ | cases f
theorem Bor.flat {W : Wd} {G H : Hp} {d : D} {v : V} (h : Bor W G H d v) (f : flatD d = true) : v = toV d ∧ flatV v = true := by
  rcases h with h | ⟨p, e, t⟩
  · exact h.flat f
  · cases t <;> cases f
theorem Reps.flat {W : Wd} {G : Hp} : ∀ {ds : List D} {vs : List V}, Reps W G ds vs → ds.all flatD = true → vs = ds.map toV ∧ vs.all flatV = true
  | _, _, .nil, _ => ⟨rfl, rfl⟩
  | _, _, .cons h t, f => by
    rw [List.all_cons] at f
    obtain ⟨f1, f2⟩ := (Bool.and_eq_true _ _).mp f
    obtain ⟨e1, e2⟩ := Rep.flat h f1
    obtain ⟨e3, e4⟩ := Reps.flat t f2
    exact ⟨by rw [e1, e3]; rfl, by rw [List.all_cons, e2, e4]; rfl⟩
section
local instance (priority := 1000000) cdf1 (p : Prop) : Decidable p := Classical.propDecidable p
def inL (x : D) (ds : List D) : Option Bool :=
  if flatD x = true ∧ ds.all flatD = true then some (inV (toV x) (ds.map toV)) else if SeqAt.shaped x = true ∧ SeqAt.shaped (.list ds) = true then some (ds.any fun z => PyData.eqv z x) else none
def inT (x : D) (ds : List D) : Option Bool :=
  if flatD x = true ∧ ds.all flatD = true then some (inV (toV x) (ds.map toV)) else none
end
def inB : D → D → Option Bool
  | x, .dict ((.none, .int 0) :: kvs) => (keyOf x).map fun _ => (dget kvs x).isSome
  | x, .dict ((.none, .int 1) :: kvs) => (tkeyOf x).map fun _ => (dget kvs x).isSome
  | .str x, .str y => match x.cps.toList with
    | [c] => some (decide (c ∈ y.cps.toList))
    | _ => none
  | x, .list ds => inL x ds
  | x, .tuple ds => inT x ds
  | _, _ => none
def inD (x y : D) : Option D := (inB x y).map .bool
def ninD (x y : D) : Option D := (inB x y).map fun b => .bool (!b)
def rInDict : R2 := fun x y H Q => ∃ a o, y = .ref a ∧ DGet H a x o ∧ Q (.bl o.isSome) H
def rNinDict : R2 := fun x y H Q => ∃ a o, y = .ref a ∧ DGet H a x o ∧ Q (.bl (!o.isSome)) H
section
variable {X : Cx}
theorem op_inDict (hu : X.A.units + 1 < cLine) : OpR X (compareOp .In) rInDict := by
  intro pins s σ H x y v u Q I rx ry h
  obtain ⟨a, o, rfl, g, q⟩ := h
  cases ry
  exact d_in hu I g rx fun s3 I3 => ⟨.bl o.isSome, H, I3, rfl, q⟩
theorem op_ninDict (hu : X.A.units + 1 < cLine) : OpR X (compareOp .NotIn) rNinDict := by
  intro pins s σ H x y v u Q I rx ry h
  obtain ⟨a, o, rfl, g, q⟩ := h
  cases ry
  exact d_notIn hu I g rx fun s3 I3 => ⟨.bl (!o.isSome), H, I3, rfl, q⟩
theorem sign_of {x : Str} {c : Nat} (h : x.cps.toList = [c]) : x = ⟨#[c]⟩ := by
  obtain ⟨a⟩ := x
  simp only at h
  have : a = #[c] := by
    apply Array.ext'
    simpa using h
  rw [this]
theorem getK {W : Wd} {G H : Hp} {a : Addr} {x : D} {v : V} {kvs : List (D × D)} {kv : List (Key × V)} {k : Key} (h1 : Rd H a (.dK kv)) (h2 : kvs.map (·.1) = kv.map (fun p => keyD p.1)) (h3 : Reps W G (kvs.map (·.2)) (kv.map (·.2))) (hk : keyOf x = some k) (b : Bor W G H x v) :
    DGet H a v (valV kv k) ∧ RepO W G (dget kvs x) (valV kv k) := by
  cases keyOf_some hk
  exact ⟨.inl ⟨kv, k, h1, Rep.key b, rfl⟩, get_rel keq_key k h2 h3⟩
theorem getT {W : Wd} {G H : Hp} {a : Addr} {x : D} {v : V} {kvs : List (D × D)} {kv : List (List Key × V)} {k : List Key} (sg : Same G H) (h1 : Rd H a (.dT kv)) (h2 : kvs.map (·.1) = kv.map (fun p => .tuple (p.1.map keyD))) (h3 : Reps W G (kvs.map (·.2)) (kv.map (·.2))) (hk : tkeyOf x = some k) (b : Bor W G H x v) :
    DGet H a v (valV kv k) ∧ RepO W G (dget kvs x) (valV kv k) := by
  cases tkeyOf_some hk
  obtain ⟨p, xs, rfl, g1, g2, r⟩ := b.tup' sg
  cases Reps.keys r
  exact ⟨.inr ⟨kv, k, p, h1, rfl, g2, rfl⟩, get_rel (enc := fun k => .tuple (k.map keyD)) keq_tkey k h2 h3⟩
theorem in_all {W : Wd} {neg : Bool} {x y : D} {c : Bool} {v u : V} {G H : Hp} {Q : VK} (k : inB x y = some c) (bx : Bor W G H x v) (bY : Bor W G H y u) (sg : Same G H)
    (q : Q (.bl (if neg then !c else c)) H) : (∃ a o, u = .ref a ∧ DGet H a v o ∧ Q (.bl (if neg then !o.isSome else o.isSome)) H) ∨ (∃ (c : Nat) (z : Str), v = .str ⟨#[c]⟩ ∧ u = .str z ∧ Q (.bl (if neg then !decide (c ∈ z.cps.toList) else decide (c ∈ z.cps.toList))) H) ∨ rIn W.K neg v u H Q ∨
      (∃ d ds, Dp W.K H v d ∧ Dp W.K H u (.list ds) ∧ SeqAt.shaped d = true ∧ SeqAt.shaped (.list ds) = true ∧ Q (.bl (if neg then !ds.any fun z => PyData.eqv z d else ds.any fun z => PyData.eqv z d)) H) := by
  unfold inB at k
  split at k
  · obtain ⟨kk, hk, k⟩ := Option.map_eq_some_iff.mp k
    subst k
    obtain ⟨a, kv, rfl, h1, h2, h3⟩ := bY.dk sg
    obtain ⟨g, r⟩ := getK h1 h2 h3 hk bx
    exact .inl ⟨a, _, rfl, g, by rw [← r.isSome]; exact q⟩
  · obtain ⟨kk, hk, k⟩ := Option.map_eq_some_iff.mp k
    subst k
    obtain ⟨a, kv, rfl, h1, h2, h3⟩ := bY.dt sg
    obtain ⟨g, r⟩ := getT sg h1 h2 h3 hk bx
    exact .inl ⟨a, _, rfl, g, by rw [← r.isSome]; exact q⟩
  · split at k
    · rename_i hx
      cases k
      cases bx.str'
      cases bY.str'
      rw [sign_of hx]
      exact .inr (.inl ⟨_, _, rfl, rfl, q⟩)
    · cases k
  · unfold inL at k
    obtain ⟨a, xs, rfl, h1, r1⟩ := bY.lst' sg
    split at k
    · rename_i hf
      cases k
      obtain ⟨e1, e2⟩ := bx.flat hf.1
      obtain ⟨e3, e4⟩ := r1.flat hf.2
      refine .inr (.inr (.inl ⟨a, xs, rfl, .inl (SqL.of h1), e2, e4, ?_⟩))
      rw [e1, e3]
      exact q
    · split at k
      · rename_i hs
        cases k
        exact .inr (.inr (.inr ⟨_, _, bx.dp sg (SeqAt.canLay_of_shaped hs.1), .lst (SqL.of h1) (r1.dp sg _ _ (SeqAt.canLay_of_shaped hs.2)), hs.1, hs.2, q⟩))
      · cases k
  · unfold inT at k
    obtain ⟨a, xs, rfl, g1, h1, r1⟩ := bY.tup' sg
    split at k
    · rename_i hf
      cases k
      obtain ⟨e1, e2⟩ := bx.flat hf.1
      obtain ⟨e3, e4⟩ := r1.flat hf.2
      refine .inr (.inr (.inl ⟨a, xs, rfl, .inr (SqT.of h1), e2, e4, ?_⟩))
      rw [e1, e3]
      exact q
    · cases k
  · cases k
theorem c_in (hu : X.A.units + 65 < cLine) : CmpR X .In inD := ⟨_, (op_inDict (by omega)).or (op_in_sign.or (op_in_seq.or (op_inD hu))), fun x y d v u G H Q k bx bY sg q => by
  obtain ⟨c, hc, k⟩ := Option.map_eq_some_iff.mp k
  subst k
  exact in_all (neg := false) hc bx bY sg (q _ G H (Gw.refl sg) (.bl _))⟩
theorem c_nin (hu : X.A.units + 65 < cLine) : CmpR X .NotIn ninD := ⟨_, (op_ninDict (by omega)).or (op_notIn_sign.or (op_notIn_seq.or (op_notInD hu))), fun x y d v u G H Q k bx bY sg q => by
  obtain ⟨c, hc, k⟩ := Option.map_eq_some_iff.mp k
  subst k
  exact in_all (neg := true) hc bx bY sg (q _ G H (Gw.refl sg) (.bl _))⟩

/-! ### subscripts -/
def rIxDict : R2 := fun x y H Q => ∃ a v, x = .ref a ∧ DGet H a y (some v) ∧ Q v H
theorem ix_dict (hu : X.A.units + 1 < cLine) : IxR X rIxDict := by
  intro value slice pins s σ H x y v u Q I rx ry h hs
  obtain ⟨a, w, rfl, g, q⟩ := h
  cases rx
  exact tail_any (dict_typeIs I g) PySem.F.slot_dict_getitem.lookup (d_getItem hu I g ry fun w' s' I' rw => ⟨w, H, I', rw, q⟩) hs
section
local instance (priority := 1000000) cdf2 (p : Prop) : Decidable p := Classical.propDecidable p
def ixS (z : Str) (i : Int) : Option D := if z.length ≤ sizeLine then (atI z.cps.toList i).map fun c => .str ⟨#[c]⟩ else none
end
def ixD : D → D → Option D
  | .dict ((.none, .int 0) :: kvs), k => (keyOf k).bind fun _ => dget kvs k
  | .dict ((.none, .int 1) :: kvs), k => (tkeyOf k).bind fun _ => dget kvs k
  | .dict [(.none, .list ds)], .int i => atI ds i
  | .list ds, .int i => atI ds i
  | .tuple ds, .int i => atI ds i
  | .str z, .int i => ixS z i
  | _, _ => none
theorem Reps.atI {W : Wd} {G : Hp} {ds : List D} {vs : List V} {i : Int} {d : D} (r : Reps W G ds vs) (h : atI ds i = some d) : ∃ v, L2.atI vs i = some v ∧ Rep W G d v := by
  unfold L2.atI at h ⊢
  rw [← r.length]
  obtain ⟨j, hj, h⟩ := Option.bind_eq_some_iff.mp h
  obtain ⟨v, h1, h2⟩ := r.get h
  exact ⟨v, by rw [hj]; exact h1, h2⟩
theorem ints_rep {W : Wd} {G : Hp} : ∀ (ns : List Int), Reps W G (ns.map .int) (ns.map V.int)
  | [] => .nil
  | n :: ns => .cons (.int n) (ints_rep ns)
theorem Bor.scr {W : Wd} {G H : Hp} {ds : List D} {v : V} (sg : Same G H) (b : Bor W G H (.dict [(.none, .list ds)]) v) : ∃ (a : Addr) (ns : List Int), v = .ref a ∧ SqL W.K H a (ns.map V.int) ∧ ds = ns.map PyData.int := by
  rcases b with b | ⟨p, e, t⟩
  · generalize hd : (PyData.dict [(PyData.none, PyData.list ds)]) = d at b
    cases b <;> first | cases hd | skip
    exact ⟨_, _, rfl, sg.seq (by assumption), rfl⟩
  · cases t
theorem f_ix {a b : Expr} {pos : Pos} {Fa Fb : FE} (hu : X.A.units + 1 < cLine) (ha : PB X a Fa) (hb : PB X b Fb) (hs : PlainIx b := by exact fun _ _ => rfl) : PF X (.Subscript a b pos) (o2 ixD Fa Fb) :=
  PE.weak (pe_ix ((ix_dict hu).or ix_seq) ha hb hs) fun _ _ _ h => two (a := a) (b := b) (fun x y d v u G H Q k bx bY sg q => by
    unfold ixD at k
    split at k
    · obtain ⟨kk, hk, k⟩ := Option.bind_eq_some_iff.mp k
      obtain ⟨a, kv, rfl, h1, h2, h3⟩ := bx.dk sg
      obtain ⟨g, r⟩ := getK h1 h2 h3 hk bY
      rw [k] at r
      obtain ⟨w, ew, rw'⟩ := r.some
      rw [ew] at g
      exact .inl ⟨a, w, rfl, g, q _ G H (Gw.refl sg) rw'⟩
    · obtain ⟨kk, hk, k⟩ := Option.bind_eq_some_iff.mp k
      obtain ⟨a, kv, rfl, h1, h2, h3⟩ := bx.dt sg
      obtain ⟨g, r⟩ := getT sg h1 h2 h3 hk bY
      rw [k] at r
      obtain ⟨w, ew, rw'⟩ := r.some
      rw [ew] at g
      exact .inl ⟨a, w, rfl, g, q _ G H (Gw.refl sg) rw'⟩
    · obtain ⟨a, ns, rfl, h1, rfl⟩ := bx.scr sg
      cases bY.int'
      obtain ⟨w, ew, rw'⟩ := (ints_rep (W := X.wd) (G := G) ns).atI k
      exact .inr (.inl ⟨_, _, _, _, rfl, rfl, h1, ew, q _ G H (Gw.refl sg) rw'⟩)
    · obtain ⟨a, xs, rfl, h1, r1⟩ := bx.lst' sg
      cases bY.int'
      obtain ⟨w, ew, rw'⟩ := r1.atI k
      exact .inr (.inl ⟨_, _, _, _, rfl, rfl, SqL.of h1, ew, q _ G H (Gw.refl sg) rw'⟩)
    · obtain ⟨a, xs, rfl, g1, h1, r1⟩ := bx.tup' sg
      cases bY.int'
      obtain ⟨w, ew, rw'⟩ := r1.atI k
      exact .inr (.inr (.inl ⟨_, _, _, _, rfl, rfl, SqT.of h1, ew, q _ G H (Gw.refl sg) rw'⟩))
    · unfold ixS at k
      split at k
      · rename_i hz
        obtain ⟨c, hc, k⟩ := Option.map_eq_some_iff.mp k
        subst k
        cases bx.str'
        cases bY.int'
        exact .inr (.inr (.inr ⟨_, _, _, rfl, rfl, hz, hc, q _ G H (Gw.refl sg) (.str _)⟩))
      · cases k
    · cases k) h
end
end DV
end

set_option Elab.async false
set_option linter.all false
set_option maxRecDepth 100000
/-! DVg: slices, displays, built-ins, stores into what is owned. -/
noncomputable section
namespace DV
open PySem PySem.Spec PyProof.Rows L2

/-! ### slices -/
abbrev FP := Env → Option (Option Int)
def tP (W : Wd) (F : FP) : TO := fun σ H Q => ∃ B G ρ o, Rp W B G H ρ σ ∧ F ρ = some o ∧ ∀ G' H', Gw G H G' H' → Q o H'
abbrev POD (X : Cx) (e : Option Expr) (F : FP) : Prop := PO X e (tP X.wd F)
theorem PO.weak {X : Cx} {e : Option Expr} {t t' : TO} (h : PO X e t) (i : ∀ σ H Q, t' σ H Q → t σ H Q) : PO X e t' := ⟨fun pins s σ H Q I q => h.run pins s σ H Q I (i σ H Q q)⟩
def asI : D → Option Int
  | .int i => some i
  | _ => none
def pN : FP := fun _ => some none
def pS (F : FE) : FP := fun ρ => ((F ρ).bind asI).map some
def cutD (xs : List D) (lo hi : Option Int) : List D := (xs.drop (HT.sIx xs.length 0 lo)).take (HT.sIx xs.length xs.length hi - HT.sIx xs.length 0 lo)
section
local instance (priority := 1000000) cdg1 (p : Prop) : Decidable p := Classical.propDecidable p
def slD : D → Option Int → Option Int → Option D
  | .str z, lo, hi => if z.length ≤ sizeLine then some (.str (cutS z lo hi)) else none
  | .list ds, lo, hi => some (.list (cutD ds lo hi))
  | .tuple ds, lo, hi => some (.tuple (cutD ds lo hi))
  | _, _, _ => none
end
def eSl (a : FE) (lo hi : FP) : FE := fun ρ => (a ρ).bind fun x => (lo ρ).bind fun l => (hi ρ).bind fun h => slD x l h
section
variable {X : Cx} {e : Expr} {pos p2 : Pos} {F : FE}
theorem p_none : POD X none pN := PO.weak po_none fun σ H Q ⟨B, G, ρ, o, r, k, q⟩ => by
  cases k
  exact q G H (Gw.refl r.gh)
theorem p_some (h : PF X e F) : POD X (some e) (pS F) := PO.weak (po_some h) fun σ H Q ⟨B, G, ρ, o, r, k, q⟩ => by
  obtain ⟨i, hi, k⟩ := Option.map_eq_some_iff.mp k
  obtain ⟨d, hd, hi⟩ := Option.bind_eq_some_iff.mp hi
  subst k
  refine ⟨B, G, ρ, d, r, hd, fun v G' H' w rv => ?_⟩
  cases d <;> first | cases hi | skip
  cases rv
  exact ⟨_, rfl, q G' H' w⟩
theorem Reps.cut {W : Wd} {G : Hp} {ds : List D} {xs : List V} (r : Reps W G ds xs) (lo hi : Option Int) : Reps W G (cutD ds lo hi) (cutV xs lo hi) := by
  unfold cutD cutV
  rw [← r.length]
  exact (r.drop _).take _
theorem f_sl {lo hi : Option Expr} {L U : FP} (he : PB X e F) (hl : POD X lo L) (hu : POD X hi U) : PF X (.Subscript e (.Slice lo hi none p2) pos) (eSl F L U) :=
  PE.weak (pe_slice (sl_str.or (sl_list.or sl_tupA)) he hl hu) fun σ H Q ⟨B, G, ρ, d, r, k, q⟩ => by
    obtain ⟨x, hx, k⟩ := Option.bind_eq_some_iff.mp k
    obtain ⟨l, hl, k⟩ := Option.bind_eq_some_iff.mp k
    obtain ⟨h, hh, k⟩ := Option.bind_eq_some_iff.mp k
    refine ⟨B, G, ρ, x, r, hx, fun v G1 H1 w1 b1 => ⟨B, G1, ρ, l, r.step w1, hl, fun G2 H2 w2 => ⟨B, G2, ρ, h, (r.step w1).step w2, hh, fun G3 H3 w3 => ?_⟩⟩⟩
    have b3 := (b1.step w2).step w3
    have w := (w1.trans w2).trans w3
    have q' : ∀ z G' H', Gw G3 H3 G' H' → Rep X.wd G' d z → Q z H' := fun z G' H' w' rz => q z G' H' (w.trans w') rz
    unfold slD at k
    split at k
    · split at k
      · rename_i hz
        cases k
        cases b3.str'
        exact .inl ⟨_, rfl, hz, q' _ _ _ (Gw.refl w3.gh) (.str _)⟩
      · cases k
    · cases k
      obtain ⟨a, xs, rfl, h1, r1⟩ := b3.lst' w3.gh
      exact .inr (.inl ⟨_, _, rfl, SqL.of h1, fin_lst w3.gh (r1.cut l h) q'⟩)
    · cases k
      obtain ⟨a, xs, rfl, g1, h1, r1⟩ := b3.tup' w3.gh
      refine .inr (.inr ⟨_, _, rfl, SqT.of h1, fun hw => ?_, fun _ => fin_tup w3.gh (r1.cut l h) q'⟩)
      refine q' _ _ _ (Gw.refl w3.gh) ?_
      have e : cutV xs l h = xs := by
        unfold cutV
        rw [hw.1, hw.2]
        simp
      have := r1.cut l h
      rw [e] at this
      exact .tup g1 this
    · cases k
/-- x[::-1] of a list -/
def revD : D → Option D
  | .list ds => some (.list ds.reverse)
  | _ => none
theorem f_rev {k : Nat} {p1 p2 p3 pos : Pos} (he : PB X e F) : PF X (.Subscript e (.Slice none none (some (.UnaryOp .USub (.Constant (.int 1) k p1) p2)) p3) pos) (o1 revD F) :=
  PE.weak (pe_revL he) fun σ H Q ⟨B, G, ρ, d, r, k, q⟩ => by
    obtain ⟨x, hx, k⟩ := Option.bind_eq_some_iff.mp k
    refine ⟨B, G, ρ, x, r, hx, fun v G1 H1 w1 b1 => ?_⟩
    unfold revD at k
    split at k
    · cases k
      obtain ⟨a, xs, rfl, h1, r1⟩ := b1.lst' w1.gh
      exact ⟨_, _, rfl, SqL.of h1, fin_lst w1.gh r1.reverse fun z G' H' w' rz => q z G' H' (w1.trans w') rz⟩
    · cases k

/-! ### displays -/
section
local instance (priority := 1000000) cdg2 (p : Prop) : Decidable p := Classical.propDecidable p
def eTup (l : FL) : FE := fun ρ => (l ρ).bind fun ds => if ds.length ≤ sizeLine then some (.tuple ds) else none
def eLst (l : FL) : FE := fun ρ => (l ρ).bind fun ds => if ds.length ≤ sizeLine then some (.list ds) else none
end
variable {es : List Expr} {L : FL}
theorem f_tup {x1} (h : PAF X es L) : PF X (.Tuple es x1 pos) (eTup L) := PE.weak (pe_tup h) fun σ H Q ⟨B, G, ρ, d, r, k, q⟩ => by
  obtain ⟨ds, hd, k⟩ := Option.bind_eq_some_iff.mp k
  split at k
  · rename_i hz
    cases k
    refine ⟨B, G, ρ, ds, r, hd, fun vs G1 H1 w1 rs => ⟨by rw [← rs.length]; exact hz, fin_tup w1.gh rs fun z G' H' w' rz => q z G' H' (w1.trans w') rz⟩⟩
  · cases k
theorem Frs.new {W : Wd} {G H G1 H1 : Hp} {d : D} {p : Addr} {o : HO} (w : Gw G H G1 H1) (hp : H1 p = none) (t : Top W G1 (upd H1 p o) d p) : Gw G H G1 (upd H1 p o) ∧ Frs W G H G1 (upd H1 p o) d (.ref p) :=
  ⟨⟨w.g, w.h.trans (same_upd hp), w.gh.trans (same_upd hp), w.new⟩, p, rfl, w.h.free hp, w.gh.free hp, t⟩
theorem n_lst (h : PAF X es L) : PN X (.List es pos) (eLst L) := PE.weak (pe_lst h) fun σ H Q ⟨B, G, ρ, d, r, k, q⟩ => by
  obtain ⟨ds, hd, k⟩ := Option.bind_eq_some_iff.mp k
  split at k
  · rename_i hz
    cases k
    refine ⟨B, G, ρ, ds, r, hd, fun vs G1 H1 w1 rs => ⟨by rw [← rs.length]; exact hz, fun p hp => ?_⟩⟩
    obtain ⟨w2, f⟩ := Frs.new (o := .lst vs) (d := .list ds) w1 hp (.lst upd_same rs)
    exact q _ _ _ w2 f
  · cases k
theorem n_dK : PN X (.Dict [] [] pos) (eC (.dict [(.none, .int 0)])) := PE.weak pe_dnewK fun σ H Q ⟨B, G, ρ, d, r, k, q⟩ => by
  cases k
  intro p hp
  obtain ⟨w2, f⟩ := Frs.new (W := X.wd) (o := .dK []) (d := .dict [(.none, .int 0)]) (Gw.refl r.gh) hp (.dcK upd_same rfl .nil)
  exact q _ _ _ w2 f
theorem n_dT : PN X (.Dict [] [] pos) (eC (.dict [(.none, .int 1)])) := PE.weak pe_dnewT fun σ H Q ⟨B, G, ρ, d, r, k, q⟩ => by
  cases k
  intro p hp
  obtain ⟨w2, f⟩ := Frs.new (W := X.wd) (o := .dT []) (d := .dict [(.none, .int 1)]) (Gw.refl r.gh) hp (.dcT upd_same rfl .nil)
  exact q _ _ _ w2 f
/-- {k: v}, k an int or a text -/
def eD1 (a b : FE) : FE := fun ρ => (a ρ).bind fun x => (b ρ).bind fun y => (keyOf x).map fun _ => .dict [(.none, .int 0), (x, y)]
theorem n_d1 {k v : Expr} {Fk Fv : FE} (hk : PF X k Fk) (hv : PF X v Fv) : PN X (.Dict [some k] [v] pos) (eD1 Fk Fv) :=
  PE.weak (pe_disp (pps_cons hk hv pps_nil) (by rfl) (by rfl) (fun z => by cases z) (by show 1 ≤ 15; decide)) fun σ H Q ⟨B, G, ρ, d, r, k, q⟩ => by
    obtain ⟨x, hx, k⟩ := Option.bind_eq_some_iff.mp k
    obtain ⟨y, hy, k⟩ := Option.bind_eq_some_iff.mp k
    obtain ⟨kk, hkk, k⟩ := Option.map_eq_some_iff.mp k
    subst k
    intro p hp
    have w0 : Gw G H G (upd H p (.dK [])) := ⟨Same.refl _, same_upd hp, r.gh.trans (same_upd hp), fun _ _ e => .inl e⟩
    refine ⟨B, G, ρ, x, r.step w0, hx, fun u1 G1 H1 w1 r1 => ⟨B, G1, ρ, y, (r.step w0).step w1, hy, fun u2 G2 H2 w2 r2 => ?_⟩⟩
    have w := w1.trans w2
    have hd : H2 p = some (.dK []) := w.h _ _ upd_same
    refine ⟨hd, [(kk, u2)], ?_, (by show 1 ≤ 15; decide), ?_⟩
    · cases keyOf_some hkk
      rw [Rep.key (k := kk) (H := G1) (.inl r1)]
      rfl
    · have hg : G2 p = none := by
        cases e : G2 p with
        | none => rfl
        | some o =>
          rcases w.new p o e with z | z
          · rw [r.gh.free hp] at z; cases z
          · rcases z with z | ⟨xs, z⟩ <;> (rw [upd_same] at z; cases z)
      have e2 : (mergeK [] [(kk, u2)] : List (Key × V)) = [(kk, u2)] := rfl
      rw [e2]
      refine q _ G2 _ ⟨w.g, (fun b o e => ?_), (fun b o e => ?_), (fun b o e => ?_)⟩ ⟨p, rfl, hp, hg, .dcK upd_same (by rw [keyOf_some hkk]; rfl) (.cons r2 .nil)⟩
      · rw [upd_ne (ne_of_none e hp)]
        exact w.h b o (by rw [upd_ne (ne_of_none e hp)]; exact e)
      · rw [upd_ne (ne_of_none e hg)]
        exact w.gh b o e
      · rcases w.new b o e with z | z
        · exact .inl z
        · by_cases hb : b = p
          · subst hb; exact .inr (.inl hp)
          · unfold Nw at z; rw [upd_ne hb] at z; exact .inr z
end

/-! ### built-ins -/
section
variable {X : Cx}
theorem CallR.or {f : Value} {r r' : List V → Hp → VK → Prop} (h : CallR X f r) (h' : CallR X f r') : CallR X f (fun xs H Q => r xs H Q ∨ r' xs H Q) := by
  intro pins s σ H xs us Q I rv q
  rcases q with q | q
  · exact h pins s σ H xs us Q I rv q
  · exact h' pins s σ H xs us Q I rv q
def CallD (W : Wd) (r : List V → Hp → VK → Prop) (f : List D → Option D) : Prop :=
  ∀ (ds : List D) (d : D) (vs : List V) (G H : Hp) (Q : VK), f ds = some d → Bors W G H ds vs → Same G H → (∀ z G' H', Gw G H G' H' → Rep W G' d z → Q z H') → r vs H Q
variable {id T : String} {r : List V → Hp → VK → Prop} {f : List D → Option D} {x : Str} {p pos : Pos} {e : Expr} {es : List Expr} {L : FL}
theorem callD_tA {r : List V → Hp → VK → Prop} {f : List D → Option D} (hf : CallD X.wd r f) {σ : L2.St} {H : Hp} {Q : VK} (h : tF X.wd (eCall f L) σ H Q) : tCB r (tAB X.wd L) σ H Q := by
  obtain ⟨B, G, ρ, d, rp, k, q⟩ := h
  obtain ⟨ds, hd, k⟩ := Option.bind_eq_some_iff.mp k
  exact ⟨B, G, ρ, ds, rp, hd, fun vs G1 H1 w1 bs => hf ds d vs G1 H1 Q k bs w1.gh fun z G' H' w' rz => q z G' H' (w1.trans w') rz⟩
theorem f_bc (hc : CallR X (.builtin id) r) (hf : CallD X.wd r f) (hm : X.mg x = none) (ha : PAB X (e :: es) L) (hv : bootBuiltins x = some (.builtin id) := by decide +kernel) (hg : Gl X x := by rfl) (hn : x ≠ "__name__" := by decide) (hdb : (x == ("__debug__" : Str)) = false := by decide)
    (he : starEach (e :: es) X.env = (false, eval e X.env) :: starEach es X.env := by rfl) (hpl : (backTo pos (starEach es X.env)).any (·.1) = false := by rfl) : PF X (.Call (.Name x p) (e :: es) [] pos) (eCall f L) :=
  PE.weak (pe_callB hc hg hm hv ha hn hdb he hpl) fun _ _ _ h => callD_tA hf h
theorem f_bt (hc : CallR X (.type T) r) (hf : CallD X.wd r f) (hm : X.mg x = none) (ha : PAB X (e :: es) L) (hv : bootBuiltins x = some (.type T) := by decide +kernel) (hg : Gl X x := by rfl) (hn : x ≠ "__name__" := by decide) (hdb : (x == ("__debug__" : Str)) = false := by decide)
    (he : starEach (e :: es) X.env = (false, eval e X.env) :: starEach es X.env := by rfl) (hpl : (backTo pos (starEach es X.env)).any (·.1) = false := by rfl) : PF X (.Call (.Name x p) (e :: es) [] pos) (eCall f L) :=
  PE.weak (pe_callTy hc hg hm hv ha hn hdb he hpl) fun _ _ _ h => callD_tA hf h
theorem Bors.one {W : Wd} {G H : Hp} {d : D} {vs : List V} (b : Bors W G H [d] vs) : ∃ v, vs = [v] ∧ Bor W G H d v := by
  cases b with
  | cons b t => cases t; exact ⟨_, rfl, b⟩
theorem Bors.two {W : Wd} {G H : Hp} {d e : D} {vs : List V} (b : Bors W G H [d, e] vs) : ∃ v u, vs = [v, u] ∧ Bor W G H d v ∧ Bor W G H e u := by
  cases b with
  | cons b t => cases t with
    | cons b' t => cases t; exact ⟨_, _, rfl, b, b'⟩
/-! len -/
section
local instance (priority := 1000000) cdg3 (p : Prop) : Decidable p := Classical.propDecidable p
def lenS (z : Str) : Option D := if z.length ≤ sizeLine then some (.int z.length) else none
end
def lenF : List D → Option D
  | [.dict ((.none, .int 0) :: kvs)] => some (.int kvs.length)
  | [.dict [(.none, .list ds)]] => some (.int ds.length)
  | [.str z] => lenS z
  | [.list ds] => some (.int ds.length)
  | [.tuple ds] => some (.int ds.length)
  | _ => none
theorem call_lenR : CallR X (.builtin "len") (fun xs H Q => ∃ a kvs, xs = [V.ref a] ∧ Rd H a (.dK kvs) ∧ Q (.int kvs.length) H) := by
  intro pins s σ H xs us Q I r h
  obtain ⟨a, kvs, rfl, ha, q⟩ := h
  obtain ⟨u, rfl, ru⟩ := vals1 r
  cases ru
  exact d_len I ha fun t s' I' => ⟨.int kvs.length, H, I', ⟨t, rfl⟩, q⟩
theorem c_len : ∃ r, CallR X (.builtin "len") r ∧ CallD X.wd r lenF := ⟨_, CallR.or call_lenR call_len, fun ds d vs G H Q k bs sg q => by
  unfold lenF at k
  split at k
  · cases k
    obtain ⟨v, rfl, b⟩ := bs.one
    obtain ⟨a, kv, rfl, h1, h2, h3⟩ := b.dk sg
    refine .inl ⟨_, _, rfl, h1, q _ G H (Gw.refl sg) ?_⟩
    have e := congrArg List.length h2
    rw [List.length_map, List.length_map] at e
    rw [← e]
    exact .int _
  · cases k
    obtain ⟨v, rfl, b⟩ := bs.one
    obtain ⟨a, ns, rfl, h1, rfl⟩ := b.scr sg
    exact .inr ⟨_, _, rfl, .inl ⟨_, h1, rfl⟩, q _ G H (Gw.refl sg) (by simp only [List.length_map]; exact .int _)⟩
  · unfold lenS at k
    split at k
    · rename_i hz
      cases k
      obtain ⟨v, rfl, b⟩ := bs.one
      cases b.str'
      exact .inr ⟨_, _, rfl, ⟨hz, rfl⟩, q _ G H (Gw.refl sg) (.int _)⟩
    · cases k
  · cases k
    obtain ⟨v, rfl, b⟩ := bs.one
    obtain ⟨a, xs, rfl, h1, r1⟩ := b.lst' sg
    exact .inr ⟨_, _, rfl, .inl ⟨_, SqL.of h1, rfl⟩, q _ G H (Gw.refl sg) (by rw [← r1.length]; exact .int _)⟩
  · cases k
    obtain ⟨v, rfl, b⟩ := bs.one
    obtain ⟨a, xs, rfl, g1, h1, r1⟩ := b.tup' sg
    exact .inr ⟨_, _, rfl, .inr ⟨_, SqT.of h1, rfl⟩, q _ G H (Gw.refl sg) (by rw [← r1.length]; exact .int _)⟩
  · cases k⟩
theorem f_len (hm : X.mg "len" = none) (ha : PAB X [e] L) (hg : Gl X "len" := by rfl)
    (he : starEach [e] X.env = (false, eval e X.env) :: starEach [] X.env := by rfl) (hpl : (backTo pos (starEach [] X.env)).any (·.1) = false := by rfl) : PF X (.Call (.Name "len" p) [e] [] pos) (eCall lenF L) :=
  let ⟨_, h1, h2⟩ := c_len (X := X)
  f_bc h1 h2 hm ha PySem.boot_len hg (by decide) (by decide) he hpl
/-- abs -/
def absF : List D → Option D
  | [.int i] => some (.int (if i < 0 then -i else i))
  | _ => none
theorem f_abs (hm : X.mg "abs" = none) (ha : PAB X [e] L) (hg : Gl X "abs" := by rfl)
    (he : starEach [e] X.env = (false, eval e X.env) :: starEach [] X.env := by rfl) (hpl : (backTo pos (starEach [] X.env)).any (·.1) = false := by rfl) : PF X (.Call (.Name "abs" p) [e] [] pos) (eCall absF L) :=
  f_bc call_abs (fun ds d vs G H Q k bs sg q => by
    unfold absF at k
    split at k
    · cases k
      obtain ⟨v, rfl, b⟩ := bs.one
      cases b.int'
      exact ⟨_, rfl, q _ G H (Gw.refl sg) (.int _)⟩
    · cases k) hm ha (by decide +kernel) hg (by decide) (by decide) he hpl
/-- int of an int or a bool -/
def intF : List D → Option D
  | [.int i] => some (.int i)
  | [.bool b] => some (.int (if b then 1 else 0))
  | _ => none
theorem f_int1 (hm : X.mg "int" = none) (ha : PAB X [e] L) (hg : Gl X "int" := by rfl)
    (he : starEach [e] X.env = (false, eval e X.env) :: starEach [] X.env := by rfl) (hpl : (backTo pos (starEach [] X.env)).any (·.1) = false := by rfl) : PF X (.Call (.Name "int" p) [e] [] pos) (eCall intF L) :=
  f_bt call_int1 (fun ds d vs G H Q k bs sg q => by
    unfold intF at k
    split at k
    · cases k
      obtain ⟨v, rfl, b⟩ := bs.one
      cases b.int'
      exact .inl ⟨_, rfl, q _ G H (Gw.refl sg) (.int _)⟩
    · cases k
      obtain ⟨v, rfl, b⟩ := bs.one
      cases b.bl'
      exact .inr ⟨_, rfl, q _ G H (Gw.refl sg) (.int _)⟩
    · cases k) hm ha (by decide +kernel) hg (by decide) (by decide) he hpl
/-- the ints of a list -/
def intsOf : List D → Option (List Int)
  | [] => some []
  | .int i :: ds => (intsOf ds).map fun l => i :: l
  | _ :: _ => none
theorem intsOf_some : ∀ {ds : List D} {ns : List Int}, intsOf ds = some ns → ds = ns.map .int
  | [], ns, h => by cases h; rfl
  | d :: ds, ns, h => by
    cases d <;> first | (obtain ⟨l, hl, h⟩ := Option.map_eq_some_iff.mp h; subst h; rw [intsOf_some hl]; rfl) | cases h
theorem Reps.ints {W : Wd} {G : Hp} : ∀ {ns : List Int} {vs : List V}, Reps W G (ns.map .int) vs → vs = ns.map .int
  | [], _, h => by cases h; rfl
  | n :: ns, _, h => by
    cases h with
    | cons h1 h2 => cases h1; rw [Reps.ints h2]; rfl
def strsOf : List D → Option (List Str)
  | [] => some []
  | .str i :: ds => (strsOf ds).map fun l => i :: l
  | _ :: _ => none
theorem strsOf_some : ∀ {ds : List D} {ns : List Str}, strsOf ds = some ns → ds = ns.map .str
  | [], ns, h => by cases h; rfl
  | d :: ds, ns, h => by
    cases d <;> first | (obtain ⟨l, hl, h⟩ := Option.map_eq_some_iff.mp h; subst h; rw [strsOf_some hl]; rfl) | cases h
theorem Reps.strs {W : Wd} {G : Hp} : ∀ {ns : List Str} {vs : List V}, Reps W G (ns.map .str) vs → vs = ns.map .str
  | [], _, h => by cases h; rfl
  | n :: ns, _, h => by
    cases h with
    | cons h1 h2 => cases h1; rw [Reps.strs h2]; rfl
def sumF : List D → Option D
  | [.list ds] => (intsOf ds).map fun ns => .int ns.sum
  | [.dict [(.none, .list ds)]] => (intsOf ds).map fun ns => .int ns.sum
  | _ => none
theorem f_sum (hc : X.calm = true) (hm : X.mg "sum" = none) (ha : PAB X [e] L) (hg : Gl X "sum" := by rfl)
    (he : starEach [e] X.env = (false, eval e X.env) :: starEach [] X.env := by rfl) (hpl : (backTo pos (starEach [] X.env)).any (·.1) = false := by rfl) : PF X (.Call (.Name "sum" p) [e] [] pos) (eCall sumF L) :=
  f_bc (cr_sum hc) (fun ds d vs G H Q k bs sg q => by
    unfold sumF at k
    split at k
    · obtain ⟨ns, hn, k⟩ := Option.map_eq_some_iff.mp k
      subst k
      obtain ⟨v, rfl, b⟩ := bs.one
      obtain ⟨a, xs, rfl, h1, r1⟩ := b.lst' sg
      rw [intsOf_some hn] at r1
      cases r1.ints
      exact ⟨_, _, rfl, SqL.of h1, q _ G H (Gw.refl sg) (.int _)⟩
    · obtain ⟨ns, hn, k⟩ := Option.map_eq_some_iff.mp k
      subst k
      obtain ⟨v, rfl, b⟩ := bs.one
      obtain ⟨a, ms, rfl, h1, e1⟩ := b.scr sg
      rw [intsOf_some hn] at e1
      have : ns = ms := by
        have := congrArg (List.map (fun d => match d with | PyData.int i => i | _ => 0)) e1
        simpa [List.map_map, Function.comp_def] using this
      subst this
      exact ⟨_, _, rfl, h1, q _ G H (Gw.refl sg) (.int _)⟩
    · cases k) hm ha (by decide +kernel) hg (by decide) (by decide) he hpl
end
end DV
end

set_option Elab.async false
set_option linter.all false
set_option maxRecDepth 100000
/-! DVh: what is walked; comprehensions; stores into what is owned. -/
noncomputable section
namespace DV
open PySem PySem.Spec PyProof.Rows L2

/-! ### what a for walks: a list, a tuple, a text, a dict's keys -/
def itemsD : D → Option (List D)
  | .list ds => some ds
  | .tuple ds => some ds
  | .str z => some (z.cps.toList.map fun c => .str ⟨#[c]⟩)
  | .dict ((.none, .int 0) :: kvs) => some (kvs.map (·.1))
  | .dict ((.none, .int 1) :: kvs) => some (kvs.map (·.1))
  | _ => none
def iAny (F : FE) : FI := fun ρ => (F ρ).bind itemsD
section
variable {X : Cx} {tg e : Expr} {F : FE}
theorem itRep_seq {W : Wd} {G : Hp} {J : It} {ds : List D} {xs : List V} (r : Reps W G ds xs) (hs : ∀ H, Same G H → ∀ i : Nat, xs.length ≤ i → J.stop i H)
    (hg : ∀ H, Same G H → ∀ (i : Nat) x, xs[i]? = some x → J.go i H ∧ ∀ y H', J.yld i H y H' → H' = H ∧ y = x) : ItRep W G J ds := fun Gc H sg sh i =>
  ⟨fun hi => hs H (sg.trans sh) i (by rw [← r.length]; exact hi), fun d hd => by
    obtain ⟨x, hx, rx⟩ := r.get hd
    obtain ⟨h1, h2⟩ := hg H (sg.trans sh) i x hx
    refine ⟨h1, fun y H' hy => ?_⟩
    obtain ⟨rfl, rfl⟩ := h2 y H' hy
    exact ⟨Gc, Gw.refl sh, rx.mono sg⟩⟩
theorem reps_signs {W : Wd} {G : Hp} : ∀ l : List Nat, Reps W G (l.map fun c => .str ⟨#[c]⟩) (l.map fun c => V.str ⟨#[c]⟩)
  | [] => .nil
  | c :: l => .cons (.str _) (reps_signs l)
theorem reps_keys {W : Wd} {G : Hp} : ∀ {kvs : List (D × D)} {kv : List (Key × V)}, kvs.map (·.1) = kv.map (fun p => keyD p.1) → Reps W G (kvs.map (·.1)) (kv.map fun p => kV p.1)
  | [], [], _ => .nil
  | [], _ :: _, h => by cases h
  | _ :: _, [], h => by cases h
  | p :: kvs, q :: kv, h => by
    rw [List.map_cons, List.map_cons] at h
    injection h with h1 h2
    refine .cons ?_ (reps_keys h2)
    show Rep W G p.1 (kV q.1)
    rw [h1]
    cases q.1 with
    | inl i => exact .int i
    | inr x => exact .str x
end
/-- tuples that stand as tuples of keys -/
theorem rep_tkey {W : Wd} {G : Hp} {k : List Key} {a : Addr} (h : G a = some (.tup (k.map kV))) : Rep W G (.tuple (k.map keyD)) (.ref a) := by
  refine .tup h ?_
  clear h
  induction k with
  | nil => exact .nil
  | cons k ks ih =>
    refine .cons ?_ ih
    cases k with
    | inl i => exact .int i
    | inr x => exact .str x
theorem itRep_tkeys {W : Wd} {G : Hp} {a : Addr} {od : Obj} {kvs : List (D × D)} {kv : List (List Key × V)} (h : G a = some (.frz od (.dT kv))) (hk : kvs.map (·.1) = kv.map (fun p => .tuple (p.1.map keyD))) : ItRep W G (Itkt a od kv) (kvs.map (·.1)) := fun Gc H sg sh i =>
  ⟨fun hi => ⟨sh _ _ (sg _ _ h), by rw [hk] at hi; simpa using hi⟩, fun d hd => by
    rw [hk, List.getElem?_map] at hd
    cases q : kv[i]? with
    | none => rw [q] at hd; cases hd
    | some p =>
      rw [q] at hd
      cases hd
      refine ⟨⟨sh _ _ (sg _ _ h), (List.getElem?_eq_some_iff.mp q).1⟩, fun x H' y => ?_⟩
      obtain ⟨rfl, k, v, c, e1, rfl, e2⟩ := y
      rw [q] at e1
      cases e1
      cases g : Gc c with
      | some o =>
        have := sh _ _ g
        rw [e2] at this
        cases this
        exact ⟨Gc, Gw.refl sh, rep_tkey g⟩
      | none =>
        refine ⟨upd Gc c (.tup (k.map kV)), ⟨same_upd g, Same.refl _, fun b o e => ?_, fun b o e => ?_⟩, rep_tkey upd_same⟩
        · by_cases hb : b = c
          · subst hb; rw [upd_same] at e; cases e; exact e2
          · rw [upd_ne hb] at e; exact sh b o e
        · by_cases hb : b = c
          · subst hb; exact .inr (.inr ⟨_, e2⟩)
          · rw [upd_ne hb] at e; exact .inl e⟩
section
variable {X : Cx} {tg e : Expr} {F : FE}
theorem i_any (he : PF X e F) : PID X tg e (iAny F) := by
  refine ⟨fun pins s σ H R I h => ?_⟩
  obtain ⟨B, G, ρ, ds, rp, k, q⟩ := h
  obtain ⟨d, hd, k⟩ := Option.bind_eq_some_iff.mp k
  refine thn (he.run pins s σ H (fun v H' => ∃ G', Gw G H G' H' ∧ Rep X.wd G' d v) I ⟨B, G, ρ, d, rp, hd, fun v G' H' w r => ⟨G', w, r⟩⟩) fun u s1 ⟨v, H1, I1, rv, G1, w1, r1⟩ => ?_
  unfold itemsD at k
  split at k
  · cases k
    cases r1 with
    | @lst a xs _ h1 h2 =>
      obtain rfl : u = Value.ref a := rv
      obtain ⟨its, _, p, _⟩ := I1.list (SqL.of (K := X.K) (w1.gh _ _ h1))
      refine wpAny_pyIter_list p.isList (pi_one (tk := s1.toks) I1 _ (turn_list a _) ⟨_, Heap.get?_push_size _ rfl, rfl, rfl⟩ (q _ G1 H1 w1 (itRep_seq h2 (fun H sg i hi => ⟨xs, SqL.of (sg _ _ h1), hi⟩) fun H sg i x hx => ?_)))
      exact ⟨⟨xs, x, SqL.of (sg _ _ h1), hx⟩, fun y H' hy => ⟨hy.1, Option.some.inj ((hy.2 xs (SqL.of (sg _ _ h1))).symm.trans hx)⟩⟩
  · cases k
    cases r1 with
    | @tup a xs _ h1 h2 =>
      obtain rfl : u = Value.ref a := rv
      obtain ⟨its, _, p, _⟩ := I1.tuple (SqT.of (K := X.K) (w1.gh _ _ h1))
      refine wpAny_pyIter_tuple (show s1.heap.IsTuple a its.toArray from p) (pi_one (tk := s1.toks) I1 _ (turn_tuple a _) ⟨_, Heap.get?_push_size _ rfl, rfl, rfl⟩ (q _ G1 H1 w1 (itRep_seq h2 (fun H sg i hi => ⟨xs, SqT.of (sg _ _ h1), hi⟩) fun H sg i x hx => ?_)))
      exact ⟨⟨xs, x, SqT.of (sg _ _ h1), hx⟩, fun y H' hy => ⟨hy.1, Option.some.inj ((hy.2 xs (SqT.of (sg _ _ h1))).symm.trans hx)⟩⟩
  · rename_i z _
    cases k
    cases r1.str'
    obtain ⟨t, rfl⟩ := rv
    have R1 : R (Its z) H1 := q _ G1 H1 w1 (itRep_seq (reps_signs z.cps.toList) (fun H sg i hi => show z.cps.size ≤ i by simpa using hi) fun H sg i x hx => by
      rw [List.getElem?_map] at hx
      cases c : z.cps.toList[i]? with
      | none => rw [c] at hx; cases hx
      | some c' =>
        rw [c] at hx
        cases hx
        have hi := (List.getElem?_eq_some_iff.mp c).1
        refine ⟨show i < z.cps.size by simpa using hi, fun y H' hy => ⟨hy.1, ?_⟩⟩
        obtain ⟨_, c2, e2, rfl⟩ := hy
        rw [← Array.getElem?_toList, c] at e2
        cases e2
        rfl)
    cases hz : z.cps.all (· < 128)
    · exact wpAny_pyIter_wide hz (pi_one (tk := s1.toks) I1 _ (turn_str _ z t "str_iterator" (.inr rfl)) ⟨_, Heap.get?_push_size _ rfl, rfl, rfl⟩ R1)
    · exact wpAny_pyIter_ascii hz (pi_one (tk := s1.toks) I1 _ (turn_str _ z t "str_ascii_iterator" (.inl rfl)) ⟨_, Heap.get?_push_size _ rfl, rfl, rfl⟩ R1)
  · cases k
    cases r1 with
    | @dcK a od kv kvs h1 h2 h3 =>
      obtain rfl : u = Value.ref a := rv
      have hd' := w1.gh _ _ h1
      obtain ⟨hs, hgd, hx, es, ep, vs, hdt, hsz, _, _⟩ := I1.frzK hd'
      refine iter_keys hs hgd hx hdt (pi_one (tk := s1.toks) I1 _ (turn_keys _ hdt) ⟨_, Heap.get?_push_size _ rfl, rfl, by rw [hsz] <;> rfl⟩ (q _ G1 H1 w1 (itRep_seq (reps_keys h2) (fun H sg i hi => ⟨sg _ _ h1, by simpa using hi⟩) fun H sg i x hx => ?_)))
      rw [List.getElem?_map] at hx
      cases c : kv[i]? with
      | none => rw [c] at hx; cases hx
      | some c' =>
        rw [c] at hx
        cases hx
        refine ⟨⟨sg _ _ h1, (List.getElem?_eq_some_iff.mp c).1⟩, fun y H' hy => ⟨hy.1, ?_⟩⟩
        obtain ⟨_, k', v', e1, rfl⟩ := hy
        rw [c] at e1
        cases e1
        rfl
  · cases k
    cases r1 with
    | @dcT a od kv kvs h1 h2 h3 =>
      obtain rfl : u = Value.ref a := rv
      obtain ⟨hs, hgd, hx, es, ep, hdt, hsz, _⟩ := I1.frzT (w1.gh _ _ h1)
      exact iter_keys hs hgd hx hdt (pi_one (tk := s1.toks) I1 _ (turn_keysT _ hdt) ⟨_, Heap.get?_push_size _ rfl, rfl, by rw [hsz] <;> rfl⟩ (q _ G1 H1 w1 (itRep_tkeys h1 h2)))
  · cases k

/-! ### ranges -/
def rngL (lo : Int) (n : Nat) : List D := (List.range n).map fun (i : Nat) => .int (lo + (i : Int))
def rngC (lo c : Int) (n : Nat) : List D := (List.range n).map fun (i : Nat) => .int (lo + (i : Int) * c)
section
local instance (priority := 1000000) cdec8 (p : Prop) : Decidable p := Classical.propDecidable p
def rng1 : List D → Option (List D)
  | [.int j] => if -(2 ^ 62) ≤ j ∧ j < 2 ^ 62 then some (rngL 0 j.toNat) else none
  | _ => none
def rng2 : List D → Option (List D)
  | [.int i, .int j] => if -(2 ^ 62) ≤ i ∧ i < 2 ^ 62 ∧ -(2 ^ 62) ≤ j ∧ j < 2 ^ 62 then some (rngL i (j - i).toNat) else none
  | _ => none
/-- range(i, j, -1) -/
def rng3 : List D → Option (List D)
  | [.int i, .int j, .int c] => if c = -1 ∧ -(2 ^ 62) ≤ i ∧ i < 2 ^ 62 ∧ -(2 ^ 62) ≤ j ∧ j < 2 ^ 62 then some (rngC i (-1) (i - j).toNat) else none
  | _ => none
end
def iCall (f : List D → Option (List D)) (l : FL) : FI := fun ρ => (l ρ).bind f
theorem itRep_rng {W : Wd} {G : Hp} (lo : Int) (n : Nat) : ItRep W G (Itr lo n) (rngL lo n) := fun Gc H sg sh i =>
  ⟨fun hi => show n ≤ i by simpa [rngL] using hi, fun d hd => by
    unfold rngL at hd
    rw [List.getElem?_map] at hd
    cases q : (List.range n)[i]? with
    | none => rw [q] at hd; cases hd
    | some j =>
      rw [q] at hd
      cases hd
      have hi : i < n := by simpa using (List.getElem?_eq_some_iff.mp q).1
      have e : i = j := by simpa using (List.getElem?_eq_some_iff.mp q).2
      subst e
      exact ⟨hi, fun x H' ⟨h1, h2⟩ => by subst h1 h2; exact ⟨Gc, Gw.refl sh, .int _⟩⟩⟩
theorem itRep_rngC {W : Wd} {G : Hp} (lo c : Int) (n : Nat) : ItRep W G (Itc lo c n) (rngC lo c n) := fun Gc H sg sh i =>
  ⟨fun hi => show n ≤ i by simpa [rngC] using hi, fun d hd => by
    unfold rngC at hd
    rw [List.getElem?_map] at hd
    cases q : (List.range n)[i]? with
    | none => rw [q] at hd; cases hd
    | some j =>
      rw [q] at hd
      cases hd
      have hi : i < n := by simpa using (List.getElem?_eq_some_iff.mp q).1
      have e : i = j := by simpa using (List.getElem?_eq_some_iff.mp q).2
      subst e
      exact ⟨hi, fun x H' ⟨h1, h2⟩ => by subst h1 h2; exact ⟨Gc, Gw.refl sh, .int _⟩⟩⟩
variable {L : FL} {a b c : Expr} {p pos : Pos}
theorem Reps.one {W : Wd} {G : Hp} {d : D} {vs : List V} (b : Reps W G [d] vs) : ∃ v, vs = [v] ∧ Rep W G d v := by
  cases b with
  | cons b t => cases t; exact ⟨_, rfl, b⟩
theorem i_rng1 (hm : X.mg "range" = none) (ha : PAF X [a] L) (hg : Gl X "range" := by rfl) (hs : starEach [a] X.env = [(false, eval a X.env)] := by rfl) : PID X tg (.Call (.Name "range" p) [a] [] pos) (iCall rng1 L) :=
  PI.weak (pi_range1 hg hm ha hs) fun σ H R ⟨B, G, ρ, ds, r, k, q⟩ => by
    obtain ⟨es, he, k⟩ := Option.bind_eq_some_iff.mp k
    refine ⟨B, G, ρ, es, r, he, fun vs G1 H1 w1 rs => ?_⟩
    unfold rng1 at k
    split at k
    · split at k
      · rename_i hz
        cases k
        obtain ⟨v, rfl, rv⟩ := rs.one
        cases rv
        exact ⟨_, rfl, hz.1, hz.2, q _ G1 H1 w1 (itRep_rng _ _)⟩
      · cases k
    · cases k
theorem i_rng2 (hm : X.mg "range" = none) (ha : PAF X [a, b] L) (hg : Gl X "range" := by rfl) (hs : starEach [a, b] X.env = [(false, eval a X.env), (false, eval b X.env)] := by rfl) (hs2 : starEach [b] X.env = [(false, eval b X.env)] := by rfl) :
    PID X tg (.Call (.Name "range" p) [a, b] [] pos) (iCall rng2 L) :=
  PI.weak (pi_range2 hg hm ha hs hs2) fun σ H R ⟨B, G, ρ, ds, r, k, q⟩ => by
    obtain ⟨es, he, k⟩ := Option.bind_eq_some_iff.mp k
    refine ⟨B, G, ρ, es, r, he, fun vs G1 H1 w1 rs => ?_⟩
    unfold rng2 at k
    split at k
    · split at k
      · rename_i hz
        cases k
        cases rs with
        | cons r1 rs =>
          obtain ⟨v, rfl, rv⟩ := rs.one
          cases rv
          cases r1
          exact ⟨_, _, rfl, hz, q _ G1 H1 w1 (itRep_rng _ _)⟩
      · cases k
    · cases k
theorem i_rng3 (hm : X.mg "range" = none) (ha : PAF X [a, b, c] L) (hg : Gl X "range" := by rfl)
    (hs : starEach [a, b, c] X.env = (false, eval a X.env) :: starEach [b, c] X.env := by rfl) (hpl : (backTo pos (starEach [b, c] X.env)).any (·.1) = false := by rfl) :
    PID X tg (.Call (.Name "range" p) [a, b, c] [] pos) (iCall rng3 L) :=
  PI.weak (pi_range3 hg hm ha hs hpl) fun σ H R ⟨B, G, ρ, ds, r, k, q⟩ => by
    obtain ⟨es, he, k⟩ := Option.bind_eq_some_iff.mp k
    refine ⟨B, G, ρ, es, r, he, fun vs G1 H1 w1 rs => ?_⟩
    unfold rng3 at k
    split at k
    · split at k
      · rename_i hz
        cases k
        obtain ⟨hc, hz1, hz2, hz3, hz4⟩ := hz
        subst hc
        cases rs with
        | cons r1 rs =>
          cases rs with
          | cons r2 rs =>
            obtain ⟨v, rfl, rv⟩ := rs.one
            cases rv
            cases r1
            cases r2
            exact ⟨_, _, _, _, rfl, RgC.neg hz1 hz2 hz3 hz4, q _ G1 H1 w1 (itRep_rngC _ _ _)⟩
      · cases k
    · cases k
end
end DV
end

set_option Elab.async false
set_option linter.all false
set_option maxRecDepth 100000
/-! DVi: comprehensions. -/
noncomputable section
namespace DV
open PySem PySem.Spec PyProof.Rows L2

def wipeE (ρ : Env) : List Nat → Env
  | [] => ρ
  | v :: vs => (wipeE ρ vs).set v none
theorem Rp.unset {W : Wd} {B G H : Hp} {ρ : Env} {σ : St} {i : Nat} (r : Rp W B G H ρ σ) : Rp W B G H (ρ.set i none) (σ.set i none) := by
  have at_ : ∀ {α : Type} {l : List (Option α)} {j : Nat} {x : α}, (l.set i none)[j]? = some (some x) → i ≠ j ∧ l[j]? = some (some x) := fun {α l j x} h => by
    by_cases hj : i = j
    · subst hj
      have hl : i < l.length := by
        have := (List.getElem?_eq_some_iff.mp h).1
        simpa using this
      rw [List.getElem?_set_self hl] at h
      cases h
    · rw [List.getElem?_set_ne hj] at h
      exact ⟨hj, h⟩
  refine ⟨r.bh, r.gh, by simp [r.len], fun j d h => ?_, fun j d h => ?_, fun j k d e a h1 h2 h3 h4 => ?_⟩
  · obtain ⟨hj, h⟩ := at_ h
    rw [List.getElem?_set_ne hj]
    exact r.shr j d h
  · obtain ⟨hj, h⟩ := at_ h
    rw [List.getElem?_set_ne hj]
    exact r.own j d h
  · obtain ⟨hj, h1⟩ := at_ h1
    obtain ⟨hk, h2⟩ := at_ h2
    rw [List.getElem?_set_ne hj] at h3
    rw [List.getElem?_set_ne hk] at h4
    exact r.sep j k d e a h1 h2 h3 h4
theorem Rp.wipe {W : Wd} {B G H : Hp} {ρ : Env} {σ : St} (r : Rp W B G H ρ σ) : ∀ vs : List Nat, Rp W B G H (wipeE ρ vs) (L2.wipe σ vs)
  | [] => r
  | _ :: vs => (Rp.wipe r vs).unset
theorem wipe_set {σ : St} {i : Nat} {v : Option V} : ∀ {vs : List Nat}, i ∈ vs → L2.wipe (σ.set i v) vs = L2.wipe σ vs
  | [], h => by cases h
  | j :: vs, h => by
    unfold L2.wipe
    by_cases hm : i ∈ vs
    · rw [wipe_set hm]
    · have e : i = j := by
        rcases List.mem_cons.mp h with h | h
        · exact h
        · exact absurd h hm
      subst e
      have out : ∀ {vs : List Nat}, i ∉ vs → L2.wipe (σ.set i v) vs = (L2.wipe σ vs).set i v := by
        intro vs
        induction vs with
        | nil => intro _; rfl
        | cons k vs ih =>
          intro hk
          have hk1 : k ≠ i := fun z => hk (by rw [z]; exact List.mem_cons_self)
          have hk2 : i ∉ vs := fun z => hk (List.mem_cons_of_mem _ z)
          unfold L2.wipe
          rw [ih hk2, List.set_comm _ _ (Ne.symm hk1)]
      rw [out hm, List.set_set]
theorem wipe_wipe {σ : St} : ∀ {vs : List Nat}, L2.wipe (L2.wipe σ vs) vs = L2.wipe σ vs := by
  intro vs
  have gen : ∀ us : List Nat, (∀ u ∈ us, u ∈ vs) → L2.wipe (L2.wipe σ us) vs = L2.wipe σ vs := by
    intro us
    induction us with
    | nil => intro _; rfl
    | cons u us ih =>
      intro h
      show L2.wipe ((L2.wipe σ us).set u none) vs = _
      rw [wipe_set (h u List.mem_cons_self)]
      exact ih fun w hw => h w (List.mem_cons_of_mem _ hw)
  exact gen vs fun _ h => h
/-- a target of a comprehension: it stores into vs alone -/
def tGc (W : Wd) (vs : List Nat) (F : FG) : TG := fun v σ H Q => ∃ B G ρ d ρ', Rp W B G H ρ σ ∧ Rep W G d v ∧ F d ρ = some ρ' ∧ ∀ σ' , Rp W B G H ρ' σ' → L2.wipe σ' vs = L2.wipe σ vs → Q σ' H
def tGsc (W : Wd) (vs : List Nat) (F : List D → Env → Option Env) : TGs := fun v σ H Q => ∃ B G ρ ds ρ', Rp W B G H ρ σ ∧ Reps W G ds v ∧ F ds ρ = some ρ' ∧ ∀ σ' , Rp W B G H ρ' σ' → L2.wipe σ' vs = L2.wipe σ vs → Q σ' H
abbrev PGC (X : Cx) (vs : List Nat) (e : Expr) (F : FG) : Prop := PG X e (tGc X.wd vs F)
abbrev PGCs (X : Cx) (vs : List Nat) (e : List Expr) (F : List D → Env → Option Env) : Prop := PGs X e (tGsc X.wd vs F)
section
variable {X : Cx} {pos : Pos} {vs : List Nat}
theorem gc_name (i : Nat) {x : Str} (hN : X.N.Nodup) (hi : X.N[i]? = some x := by rfl) (hx : Loc X.env.scope x := by first | exact Or.inl rfl | exact Or.inr rfl) (hv : i ∈ vs := by decide) (hf : X.fn x = true ∨ X.env.scope.names.lookup x = some .local := by first | exact .inl rfl | exact .inr rfl | assumption) : PGC X vs (.Name x pos) (gN i) :=
  PG.weak (pg_name (i := i) hN hi hx hf) fun v σ H Q ⟨B, G, ρ, d, ρ', r, rv, k, q⟩ => by
    cases k
    exact q _ (r.set_shr rv) (wipe_set hv)
theorem gcs_nil : PGCs X vs [] gsN := PGs.weak pgs_nil fun vs σ H Q ⟨B, G, ρ, ds, ρ', r, rv, k, q⟩ => by
  cases rv with
  | nil => cases k; exact ⟨rfl, q _ r rfl⟩
  | cons _ _ => cases k
theorem gcs_cons {e : Expr} {es : List Expr} {g : FG} {h : List D → Env → Option Env} (h1 : PGC X vs e g) (h2 : PGCs X vs es h)
    (hs : (assignEach (e :: es) X.env).map (·.2) = assign e X.env :: (assignEach es X.env).map (·.2) := by rfl) : PGCs X vs (e :: es) (gsC g h) :=
  PGs.weak (pgs_cons h1 h2 hs) fun us σ H Q ⟨B, G, ρ, ds, ρ', r, rv, k, q⟩ => by
    cases rv with
    | nil => cases k
    | @cons d ds v us r1 r2 =>
      obtain ⟨ρ1, k1, k2⟩ := Option.bind_eq_some_iff.mp k
      exact ⟨v, us, rfl, B, G, ρ, d, ρ1, r, r1, k1, fun σ' r' e' => ⟨B, G, ρ1, ds, ρ', r', r2, k2, fun σ2 rr e2 => q σ2 rr (e2.trans e')⟩⟩
theorem gc_tup {es : List Expr} {k : Nat} {n : Nat} {h : List D → Env → Option Env} (hc : X.calm = true) (hh : PGCs X vs es h)
    (hn : (assignEach es X.env).length = n := by rfl) (hst : (assignEach es X.env).findIdx? (·.1) = none := by rfl) : PGC X vs (.Tuple es k pos) (gT n h) :=
  PG.weak (pg_tup hc hh hn hst) fun v σ H Q ⟨B, G, ρ, d, ρ', r, rv, k, q⟩ => by
    unfold gT at k
    split at k
    · split at k
      · rename_i ds hl
        cases rv with
        | tup h1 h2 => exact ⟨_, _, rfl, SqT.of (r.gh _ _ h1), by rw [← h2.length]; exact hl, B, G, ρ, _, ρ', r, h2, k, q⟩
      · cases k
    · cases k
/-! ### lists -/
def lcL (g : FG) (t : FT) (e : FE) (ρ : Env) : List D → Option (List D)
  | [] => some []
  | d :: ds => (g d ρ).bind fun ρ1 => (t ρ1).bind fun b => if b = true then (e ρ1).bind fun y => (lcL g t e ρ ds).map fun ys => y :: ys else lcL g t e ρ ds
section
local instance (priority := 1000000) cdec9 (p : Prop) : Decidable p := Classical.propDecidable p
def eLc (vs : List Nat) (l : FI) (g : FG) (t : FT) (e : FE) : FE := fun ρ => (l ρ).bind fun ds => if ds.length ≤ sizeLine then (lcL g t e (wipeE ρ vs) ds).map .list else none
end
def tYs : FT := fun _ => some true
abbrev PTsD (X : Cx) (es : List Expr) (F : FT) : Prop := PTs X es (tT X.wd F)
theorem PTs.weak {es : List Expr} {t t' : TT} (h : PTs X es t) (i : ∀ σ H Q, t' σ H Q → t σ H Q) : PTs X es t' := ⟨fun pins s σ H Q I q => h.run pins s σ H Q I (i σ H Q q)⟩
theorem ts_nil : PTsD X [] tYs := PTs.weak pts_nil fun σ H Q ⟨B, G, ρ, b, r, k, q⟩ => by
  cases k
  exact q G H (Gw.refl r.gh)
theorem ts_one {c : Expr} {t : FT} (h : PTD X c t) : PTsD X [c] t := pts_one h
theorem Gw.atD {G H G' H' : Hp} {D : Addr} {o : HO} (w : Gw G H G' H') (hD : H D = none) (hg : G' D = none) : Gw G H G' (upd H' D o) where
  g := w.g
  h := fun b u e => by rw [upd_ne (ne_of_none e hD)]; exact w.h b u e
  gh := fun b u e => by rw [upd_ne (ne_of_none e hg)]; exact w.gh b u e
  new := w.new
theorem lc_read {W : Wd} {l : FI} {g : FG} {t : FT} {fe : FE} {σ : L2.St} {H : Hp} {Q : VK} (h : tN W (eLc vs l g t fe) σ H Q) : tLc (tI W l) (tGc W vs g) (tT W t) (tF W fe) vs σ H Q := by
  obtain ⟨B, G, ρ, d, r, k, q⟩ := h
  obtain ⟨ds, hd, k⟩ := Option.bind_eq_some_iff.mp k
  split at k
  · rename_i hz
    obtain ⟨ys, hy, k⟩ := Option.map_eq_some_iff.mp k
    subst k
    refine ⟨B, G, ρ, ds, r, hd, fun J G1 H1 w1 it L hL => ?_⟩
    have gL : G1 L = none := w1.gh.free hL
    have bL : B L = none := r.bh.free (w1.h.free hL)
    refine ⟨fun i m H => m = ds.length - i ∧ i ≤ ds.length ∧ ∃ G2 acc us zs, Gw G1 H1 G2 H ∧ H L = some (.lst us) ∧ G2 L = none ∧ acc.length ≤ i ∧ Reps W G2 acc us ∧ lcL g t fe (wipeE ρ vs) (ds.drop i) = some zs ∧ acc ++ zs = ys,
      ⟨_, rfl, Nat.zero_le _, G1, [], [], ys, (Gw.refl w1.gh).atD hL gL, upd_same, gL, Nat.le_refl _, .nil, hy, rfl⟩, ?_⟩
    rintro i m H2 ⟨rfl, hi, G2, acc, us, zs, w2, hL2, gL2, ha, ra, hzs, hyz⟩
    obtain ⟨hstop, hgo⟩ := it G2 H2 w2.g w2.gh i
    by_cases hlt : i < ds.length
    · have e : ds.drop i = ds[i] :: ds.drop (i + 1) := List.drop_eq_getElem_cons hlt
      rw [e] at hzs
      obtain ⟨ρ1, h1, hzs⟩ := Option.bind_eq_some_iff.mp hzs
      obtain ⟨b, h2, hzs⟩ := Option.bind_eq_some_iff.mp hzs
      obtain ⟨go, yld⟩ := hgo ds[i] (List.getElem?_eq_getElem hlt)
      refine .inr ⟨go, fun H => ∃ G2 acc us zs, Gw G1 H1 G2 H ∧ H L = some (.lst us) ∧ G2 L = none ∧ acc.length ≤ i + 1 ∧ Reps W G2 acc us ∧ lcL g t fe (wipeE ρ vs) (ds.drop (i + 1)) = some zs ∧ acc ++ zs = ys, fun H' z => ⟨_, by omega, rfl, hlt, z⟩, fun x H' y => ?_⟩
      obtain ⟨G3, w3, rx⟩ := yld x H' y
      have w13 := w2.trans w3
      have nL : ∀ {G4 H4 : Hp}, Gw G2 H2 G4 H4 → G4 L = none := fun {G4 H4} w => by
        cases z : G4 L with
        | none => rfl
        | some o =>
          rcases w.new L o z with z | z | ⟨xs, z⟩
          · rw [gL2] at z; cases z
          · rw [hL2] at z; cases z
          · rw [hL2] at z; cases z
      refine ⟨B, G3, wipeE ρ vs, ds[i], ρ1, ((r.step w1).step w13).wipe vs, rx, h1, fun σ4 r4 e4 => ⟨e4.trans wipe_wipe, B, G3, ρ1, b, r4, h2, fun G5 H5 w5 => ?_⟩⟩
      by_cases eb : b = true
      · rw [if_pos eb] at hzs ⊢
        obtain ⟨y1, hy1, hzs⟩ := Option.bind_eq_some_iff.mp hzs
        obtain ⟨zs', hzs', hzs⟩ := Option.map_eq_some_iff.mp hzs
        refine ⟨B, G5, ρ1, y1, r4.step w5, hy1, fun v G6 H6 w6 rv => ?_⟩
        have w26 := (w3.trans w5).trans w6
        refine ⟨us, w26.h _ _ hL2, by rw [← ra.length]; omega, G6, acc ++ [y1], us ++ [v], zs', (w2.trans w26).atD hL (nL w26), upd_same, nL w26, by simp; omega, (ra.mono w26.g).snoc rv, hzs', ?_⟩
        rw [← hyz, ← hzs]
        simp
      · rw [if_neg eb] at hzs ⊢
        have w25 := w3.trans w5
        exact ⟨G5, acc, us, zs, w2.trans w25, w25.h _ _ hL2, nL w25, by omega, ra.mono w25.g, hzs, hyz⟩
    · have e : i = ds.length := by omega
      subst e
      rw [List.drop_length] at hzs
      cases hzs
      rw [List.append_nil] at hyz
      subst hyz
      exact .inl ⟨hstop (Nat.le_refl _), q _ G2 H2 (w1.trans w2) ⟨L, rfl, w1.h.free hL, gL2, .lst hL2 ra⟩⟩
  · cases k
variable {elt tg iter : Expr} {ifs : List Expr} {scope : Scope} {own : List (Str × Nat)} {l : FI} {g : FG} {t : FT} {fe : FE}
theorem n_lc (own : List (Str × Nat)) (hc : X.calm = true) (hN : X.N.Nodup) (hi : PID X tg iter l) (ok : blkC X.N X.env.scope scope own = true)
    (hg : ∀ (s : Shared) (H : Hp) (C : Addr) (cl : List (Str × Addr)) (fp : List Addr), PGC (X.blk s H scope (compEnvC scope cl C X.env) fp) (own.map (·.2)) tg g) (ht : ∀ (s : Shared) (H : Hp) (C : Addr) (cl : List (Str × Addr)) (fp : List Addr), PTsD (X.blk s H scope (compEnvC scope cl C X.env) fp) ifs t)
    (he : ∀ (s : Shared) (H : Hp) (C : Addr) (cl : List (Str × Addr)) (fp : List Addr), PF (X.blk s H scope (compEnvC scope cl C X.env) fp) elt fe) (hs : ∀ x, foldedSetIterable iter X.env x = pure x := by intro _; rfl) :
    PN X (.ListComp elt [⟨tg, iter, ifs, 0⟩] scope pos) (eLc (own.map (·.2)) l g t fe) :=
  PE.weak (pe_lc hc hN hi (blkOk_by ok) hg ht he hs) fun _ _ _ h => lc_read h
/-- name = [..] on one line -/
theorem s_lc (i : Nat) (own : List (Str × Nat)) {y : Str} {py spos : Pos} (hc : X.calm = true) (hN : X.N.Nodup) (hi : PID X tg iter l) (ok : blkC X.N X.env.scope scope own = true)
    (hg : ∀ (s : Shared) (H : Hp) (C : Addr) (cl : List (Str × Addr)) (fp : List Addr), PGC (X.blk s H scope (compEnvC scope cl C X.env) fp) (own.map (·.2)) tg g) (ht : ∀ (s : Shared) (H : Hp) (C : Addr) (cl : List (Str × Addr)) (fp : List Addr), PTsD (X.blk s H scope (compEnvC scope cl C X.env) fp) ifs t)
    (he : ∀ (s : Shared) (H : Hp) (C : Addr) (cl : List (Str × Addr)) (fp : List Addr), PF (X.blk s H scope (compEnvC scope cl C X.env) fp) elt fe)
    (hsw : swapsWith (.ListComp elt [⟨tg, iter, ifs, 0⟩] scope pos) (some (.Name y py)) spos.line X.env = pure true := by exact sw_true rfl rfl rfl (by decide +kernel))
    (hy : X.N[i]? = some y := by rfl) (hyl : X.env.scope.names.lookup y = some .local := by rfl) (hs : ∀ x, foldedSetIterable iter X.env x = pure x := by intro _; rfl) :
    PSD X (.Assign [.Name y py] (.ListComp elt [⟨tg, iter, ifs, 0⟩] scope pos) spos) (sOwn i (eLc (own.map (·.2)) l g t fe)) :=
  PS.weak (ps_setLc hc hN hy hyl hsw hi (blkOk_by ok) hg ht he hs) fun E σ H ⟨B, G, ρ, o, r, k, a⟩ => by
    obtain ⟨d, hd, k⟩ := Option.map_eq_some_iff.mp k
    subst k
    refine lc_read ⟨B, G, ρ, d, r, hd, fun v G' H' w ⟨p, ev, hp, hg, t⟩ => ?_⟩
    subst ev
    refine a _ G' H' (w.gs r.bh) ((r.step w).set_own (r.bh.free hp) hg t fun j e' hj hσ => ?_)
    obtain ⟨b, h1, h2, h3, h4⟩ := r.own j e' hj
    rw [hσ] at h1
    cases h1
    obtain ⟨o, ho⟩ := h4.at
    rw [hp] at ho
    cases ho

/-! ### dicts, keys ints and texts -/
def dcL (g : FG) (t : FT) (fk fv : FE) (ρ : Env) : List D → List (D × D) → Option (List (D × D))
  | [], acc => some acc
  | d :: ds, acc => (g d ρ).bind fun ρ1 => (t ρ1).bind fun b => if b = true then (fk ρ1).bind fun k => (fv ρ1).bind fun v => (keyOf k).bind fun _ => dcL g t fk fv ρ ds (dput acc k v) else dcL g t fk fv ρ ds acc
section
local instance (priority := 1000000) cdec10 (p : Prop) : Decidable p := Classical.propDecidable p
def eDc (vs : List Nat) (l : FI) (g : FG) (t : FT) (fk fv : FE) : FE := fun ρ => (l ρ).bind fun ds => if ds.length ≤ sizeLine then (dcL g t fk fv (wipeE ρ vs) ds []).map fun kvs => .dict ((.none, .int 0) :: kvs) else none
end
theorem dput_len (kvs : List (D × D)) (k v : D) : (dput kvs k v).length ≤ kvs.length + 1 := by
  unfold dput
  split <;> simp
theorem dc_read {W : Wd} {l : FI} {g : FG} {t : FT} {fk fv : FE} {σ : L2.St} {H : Hp} {Q : VK} (h : tN W (eDc vs l g t fk fv) σ H Q) : tDc (tI W l) (tGc W vs g) (tT W t) (tF W fk) (tF W fv) vs σ H Q := by
  obtain ⟨B, G, ρ, d, r, k, q⟩ := h
  obtain ⟨ds, hd, k⟩ := Option.bind_eq_some_iff.mp k
  split at k
  · rename_i hz
    obtain ⟨ys, hy, k⟩ := Option.map_eq_some_iff.mp k
    subst k
    refine ⟨B, G, ρ, ds, r, hd, fun J G1 H1 w1 it L hL => ?_⟩
    have gL : G1 L = none := w1.gh.free hL
    refine ⟨fun i m H => m = ds.length - i ∧ i ≤ ds.length ∧ ∃ G2 acc kv, Gw G1 H1 G2 H ∧ H L = some (.dK kv) ∧ G2 L = none ∧ acc.length ≤ i ∧ acc.map (·.1) = kv.map (fun p => keyD p.1) ∧ Reps W G2 (acc.map (·.2)) (kv.map (·.2)) ∧ dcL g t fk fv (wipeE ρ vs) (ds.drop i) acc = some ys,
      ⟨_, rfl, Nat.zero_le _, G1, [], [], (Gw.refl w1.gh).atD hL gL, upd_same, gL, Nat.le_refl _, rfl, .nil, hy⟩, ?_⟩
    rintro i m H2 ⟨rfl, hi, G2, acc, kv, w2, hL2, gL2, ha, ka, ra, hzs⟩
    have la := congrArg List.length ka
    rw [List.length_map, List.length_map] at la
    obtain ⟨hstop, hgo⟩ := it G2 H2 w2.g w2.gh i
    by_cases hlt : i < ds.length
    · have e : ds.drop i = ds[i] :: ds.drop (i + 1) := List.drop_eq_getElem_cons hlt
      rw [e] at hzs
      obtain ⟨ρ1, h1, hzs⟩ := Option.bind_eq_some_iff.mp hzs
      obtain ⟨b, h2, hzs⟩ := Option.bind_eq_some_iff.mp hzs
      obtain ⟨go, yld⟩ := hgo ds[i] (List.getElem?_eq_getElem hlt)
      refine .inr ⟨go, fun H => ∃ G2 acc kv, Gw G1 H1 G2 H ∧ H L = some (.dK kv) ∧ G2 L = none ∧ acc.length ≤ i + 1 ∧ acc.map (·.1) = kv.map (fun p => keyD p.1) ∧ Reps W G2 (acc.map (·.2)) (kv.map (·.2)) ∧ dcL g t fk fv (wipeE ρ vs) (ds.drop (i + 1)) acc = some ys, fun H' z => ⟨_, by omega, rfl, hlt, z⟩, fun x H' y => ?_⟩
      obtain ⟨G3, w3, rx⟩ := yld x H' y
      have w13 := w2.trans w3
      have nL : ∀ {G4 H4 : Hp}, Gw G2 H2 G4 H4 → G4 L = none := fun {G4 H4} w => by
        cases z : G4 L with
        | none => rfl
        | some o =>
          rcases w.new L o z with z | z | ⟨xs, z⟩
          · rw [gL2] at z; cases z
          · rw [hL2] at z; cases z
          · rw [hL2] at z; cases z
      refine ⟨B, G3, wipeE ρ vs, ds[i], ρ1, ((r.step w1).step w13).wipe vs, rx, h1, fun σ4 r4 e4 => ⟨e4.trans wipe_wipe, B, G3, ρ1, b, r4, h2, fun G5 H5 w5 => ?_⟩⟩
      by_cases eb : b = true
      · rw [if_pos eb] at hzs ⊢
        obtain ⟨k1, hk1, hzs⟩ := Option.bind_eq_some_iff.mp hzs
        obtain ⟨v1, hv1, hzs⟩ := Option.bind_eq_some_iff.mp hzs
        obtain ⟨kk, hkk, hzs⟩ := Option.bind_eq_some_iff.mp hzs
        refine ⟨B, G5, ρ1, k1, r4.step w5, hk1, fun v G6 H6 w6 rk => ⟨B, G6, ρ1, v1, (r4.step w5).step w6, hv1, fun u G7 H7 w7 ru => ?_⟩⟩
        have w27 := ((w3.trans w5).trans w6).trans w7
        cases keyOf_some hkk
        obtain ⟨p1, p2⟩ := put_rel keq_key (k := kk) ru ka (ra.mono w27.g)
        refine ⟨kv, kk, Rep.key (k := kk) (H := G6) (.inl rk), w27.h _ _ hL2, by omega, G7, dput acc (keyD kk) v1, putK kv kk u, (w2.trans w27).atD hL (nL w27), upd_same, nL w27, Nat.le_trans (dput_len _ _ _) (by omega), p1, p2, hzs⟩
      · rw [if_neg eb] at hzs ⊢
        have w25 := w3.trans w5
        exact ⟨G5, acc, kv, w2.trans w25, w25.h _ _ hL2, nL w25, by omega, ka, ra.mono w25.g, hzs⟩
    · have e : i = ds.length := by omega
      subst e
      rw [List.drop_length] at hzs
      cases hzs
      exact .inl ⟨hstop (Nat.le_refl _), q _ G2 H2 (w1.trans w2) ⟨L, rfl, w1.h.free hL, gL2, .dcK hL2 ka ra⟩⟩
  · cases k
variable {kx vx : Expr} {fk fv : FE}
theorem n_dc (own : List (Str × Nat)) (hc : X.calm = true) (hN : X.N.Nodup) (hi : PID X tg iter l) (ok : blkC X.N X.env.scope scope own = true)
    (hg : ∀ (s : Shared) (H : Hp) (C : Addr) (cl : List (Str × Addr)) (fp : List Addr), PGC (X.blk s H scope (compEnvC scope cl C X.env) fp) (own.map (·.2)) tg g) (ht : ∀ (s : Shared) (H : Hp) (C : Addr) (cl : List (Str × Addr)) (fp : List Addr), PTsD (X.blk s H scope (compEnvC scope cl C X.env) fp) ifs t)
    (hk : ∀ (s : Shared) (H : Hp) (C : Addr) (cl : List (Str × Addr)) (fp : List Addr), PF (X.blk s H scope (compEnvC scope cl C X.env) fp) kx fk)
    (he : ∀ (s : Shared) (H : Hp) (C : Addr) (cl : List (Str × Addr)) (fp : List Addr), PF (X.blk s H scope (compEnvC scope cl C X.env) fp) vx fv) (hs : ∀ x, foldedSetIterable iter X.env x = pure x := by intro _; rfl) :
    PN X (.DictComp kx vx [⟨tg, iter, ifs, 0⟩] scope pos) (eDc (own.map (·.2)) l g t fk fv) :=
  PE.weak (pe_dc hc hN hi (blkOk_by ok) hg ht hk he hs) fun _ _ _ h => dc_read h
theorem sw_trueD {ka va : Expr} {gs : List Comprehension} {sc : Scope} {pd py : Pos} {y : Str} {l : Nat} {env : PySem.Env} (hk : env.scope.kind = .function) (hy : env.scope.names.lookup y = some .local) (hl : (py.line == pd.line) = true)
    (ha : (sc.names.any fun (n, k) => n == y && (k == .local || k == .cell)) = false) : swapsWith (.DictComp ka va gs sc pd) (some (.Name y py)) l env = pure true := by
  have h1 : env.kindOf y = some .local := hy
  have h2 : env.blockKind = .function := by
    unfold Env.blockKind
    rw [hk]
    rfl
  unfold swapsWith
  simp only [h2, h1, ha, Expr.pos, hl]
  rfl
/-- name = {..} on one line -/
theorem s_dc (i : Nat) (own : List (Str × Nat)) {y : Str} {py spos : Pos} (hc : X.calm = true) (hN : X.N.Nodup) (hi : PID X tg iter l) (ok : blkC X.N X.env.scope scope own = true)
    (hg : ∀ (s : Shared) (H : Hp) (C : Addr) (cl : List (Str × Addr)) (fp : List Addr), PGC (X.blk s H scope (compEnvC scope cl C X.env) fp) (own.map (·.2)) tg g) (ht : ∀ (s : Shared) (H : Hp) (C : Addr) (cl : List (Str × Addr)) (fp : List Addr), PTsD (X.blk s H scope (compEnvC scope cl C X.env) fp) ifs t)
    (hk : ∀ (s : Shared) (H : Hp) (C : Addr) (cl : List (Str × Addr)) (fp : List Addr), PF (X.blk s H scope (compEnvC scope cl C X.env) fp) kx fk)
    (he : ∀ (s : Shared) (H : Hp) (C : Addr) (cl : List (Str × Addr)) (fp : List Addr), PF (X.blk s H scope (compEnvC scope cl C X.env) fp) vx fv)
    (hsw : swapsWith (.DictComp kx vx [⟨tg, iter, ifs, 0⟩] scope pos) (some (.Name y py)) spos.line X.env = pure true := by exact sw_trueD rfl rfl rfl (by decide +kernel))
    (hy : X.N[i]? = some y := by rfl) (hyl : X.env.scope.names.lookup y = some .local := by rfl) (hs : ∀ x, foldedSetIterable iter X.env x = pure x := by intro _; rfl) :
    PSD X (.Assign [.Name y py] (.DictComp kx vx [⟨tg, iter, ifs, 0⟩] scope pos) spos) (sOwn i (eDc (own.map (·.2)) l g t fk fv)) := by
  refine ⟨fun pins s σ H E I ⟨B, G, ρ, o, r, k, a⟩ => ?_⟩
  obtain ⟨d, hd, k⟩ := Option.map_eq_some_iff.mp k
  subst k
  rw [exec_Assign_Name_used _ _ _ _ hsw]
  refine wpAny_bind (wpAny_standAt (wpAny_bind ?_))
  have rd := dc_read (W := X.wd) (vs := own.map (·.2)) (l := l) (g := g) (t := t) (fk := fk) (fv := fv) (σ := σ) (H := H) (Q := fun v H' => E.nx (σ.set i (some v)) H') ⟨B, G, ρ, d, r, hd, fun v G' H' w ⟨p, ev, hp, hg, t⟩ => by
    subst ev
    refine a _ G' H' (w.gs r.bh) ((r.step w).set_own (r.bh.free hp) hg t fun j e' hj hσ => ?_)
    obtain ⟨b, h1, h2, h3, h4⟩ := r.own j e' hj
    rw [hσ] at h1
    cases h1
    obtain ⟨o, ho⟩ := h4.at
    rw [hp] at ho
    cases ho⟩
  show wpAny _ X.A (do let _ ← comprehension (.DictComp kx vx [⟨tg, iter, ifs, 0⟩] scope pos) scope X.env (firstIterPos [⟨tg, iter, ifs, 0⟩] pos) newDict false (eval iter X.env) (some (assign (.Name y py) X.env))) _ _ s
  refine wpAny_bind (thn (dc_core (use := some (assign (.Name y py) X.env)) (Qf := fun _ st => SP X pins E .next st) hc hN I hi (blkOk_by ok) hg ht hk he hs rd fun A1 C1 s5 m5 H5 I5 q5 hn5 ⟨f0, f1, f2, f3, f4, f5⟩ => ?_) fun _ _ z => wpAny_pure (wpAny_pure z))
  refine wpAny_assign_Name (store_ok2 (v := V.ref A1) I5 hN hy (.inl hyl) rfl (fun s6 I6 ⟨b6, sb6, hb6⟩ => ?_) (.inr hyl))
  have ne : C1 ≠ b6 := hb6.elim (fun z => z ▸ f1) fun z q => f4 y b6 z q.symm
  exact ⟨m5, hn5.sameBut sb6 ne, fun h7 sb7 => ⟨_, H5, I6.turned (t' := s6.toks) (fun b o hb z => (sb7.2 b hb).trans z) f0 f1 f3 f4 f5, q5⟩⟩
end
end DV
end

set_option Elab.async false
set_option linter.all false
set_option maxRecDepth 100000
/-! DVj: stores into what is owned; more built-ins. -/
noncomputable section
namespace DV
open PySem PySem.Spec PyProof.Rows L2

section
variable {X : Cx}
theorem PSet.or {t t' : TSet} (h : PSet X t) (h' : PSet X t') : PSet X (fun o i v H Q => t o i v H Q ∨ t' o i v H Q) := by
  intro pins s σ H o i v ov iv u Q I ro ri rv q
  rcases q with q | q
  · exact h pins s σ H o i v ov iv u Q I ro ri rv q
  · exact h' pins s σ H o i v ov iv u Q I ro ri rv q
def rSetDict : V → V → V → Hp → (Hp → Prop) → Prop := fun o i v H Q => ∃ a H', o = .ref a ∧ DPut H a i v H' ∧ Q H'
theorem set_dict (hu : X.A.units + 1 < cLine) : PSet X rSetDict := by
  intro pins s σ H o i v ov iv u Q I ro ri rv q
  obtain ⟨a, H', rfl, g, q⟩ := q
  cases ro
  exact d_setItem hu I g ri rv fun s4 I4 => ⟨H', I4, q⟩
section
local instance (priority := 1000000) cdj1 (p : Prop) : Decidable p := Classical.propDecidable p
def putKv (kd : D) (kvs : List (D × D)) (k v : D) : Option D := if kvs.length < sizeLine then some (.dict ((.none, kd) :: dput kvs k v)) else none
end
def putO (d k v : D) : Option D := match d with
  | .list ds => match k with
    | .int j => (ixN ds.length j).map fun n => .list (ds.set n v)
    | _ => none
  | .dict ((.none, .int 0) :: kvs) => (keyOf k).bind fun _ => putKv (.int 0) kvs k v
  | .dict ((.none, .int 1) :: kvs) => (tkeyOf k).bind fun _ => putKv (.int 1) kvs k v
  | _ => none
def sPut (i : Nat) (Fk Fv : FE) : FS := fun ρ => (Fv ρ).bind fun v => (Fk ρ).bind fun k => match ρ[i]? with
  | some (some (.own d)) => (putO d k v).map fun d' => .nx (ρ.set i (some (.own d')))
  | _ => none
theorem put_ok {W : Wd} {G H : Hp} {d k v d' : D} {a : Addr} {kv' vv : V} {Q : Hp → Prop} (h : putO d k v = some d') (sg : Same G H) (t : Top W G H d a) (rk : Rep W G k kv') (rv : Rep W G v vv) (q : ∀ o, Top W G (upd H a o) d' a → Q (upd H a o)) :
    rSetL (.ref a) kv' vv H Q ∨ rSetDict (.ref a) kv' vv H Q := by
  unfold putO at h
  split at h
  · split at h
    · obtain ⟨n, hn, h⟩ := Option.map_eq_some_iff.mp h
      subst h
      cases rk
      cases t with
      | lst e r => exact .inl ⟨a, _, _, n, rfl, rfl, e, by rw [← r.length]; exact hn, q _ (.lst upd_same (r.set rv n))⟩
    · cases h
  · obtain ⟨kk, hk, h⟩ := Option.bind_eq_some_iff.mp h
    unfold putKv at h
    split at h
    · rename_i hz
      cases h
      cases keyOf_some hk
      cases t with
      | dcK e hk' r =>
        have l := congrArg List.length hk'
        rw [List.length_map, List.length_map] at l
        obtain ⟨p1, p2⟩ := put_rel keq_key (k := kk) rv hk' r
        refine .inr ⟨a, _, rfl, ?_, q _ (.dcK upd_same p1 p2)⟩
        rw [Rep.key (k := kk) (H := G) (.inl rk)]
        exact DPut.k e (by omega)
    · cases h
  · obtain ⟨kk, hk, h⟩ := Option.bind_eq_some_iff.mp h
    unfold putKv at h
    split at h
    · rename_i hz
      cases h
      cases tkeyOf_some hk
      cases t with
      | dcT e hk' r =>
        have l := congrArg List.length hk'
        rw [List.length_map, List.length_map] at l
        obtain ⟨p1, p2⟩ := put_rel (enc := fun k => .tuple (k.map keyD)) keq_tkey (k := kk) rv hk' r
        cases rk with
        | tup h1 h2 =>
          cases Reps.keys h2
          exact .inr ⟨a, _, rfl, DPut.t e (sg _ _ h1) (by omega), q _ (.dcT upd_same p1 p2)⟩
    · cases h
  · cases h
/-- x[k] = e, x owned -/
theorem s_put (i : Nat) {x : Str} {k e : Expr} {Fk Fe : FE} {npos tpos pos : Pos} (hu : X.A.units + 1 < cLine) (he : PF X e Fe) (hk : PF X k Fk) (hN : X.N[i]? = some x := by rfl) (hv : Vis X.env.scope x := by first | exact Or.inl rfl | exact Or.inr (Or.inl rfl) | exact Or.inr (Or.inr rfl)) (hd : (x == ("__debug__" : Str)) = false := by decide)
    (hcd : (x == ("__classdict__" : Str)) = false := by decide)
    (ha : ∀ v, assign (.Subscript (.Name x npos) k tpos) X.env v = (do
      let ov ← holding [v] (eval (.Name x npos) X.env)
      let iv ← holding [v, ov] (eval k X.env)
      standAt tpos
      holding [v, ov, iv] (setItem ov iv v)
      release [v, ov, iv] []) := by intro _; rfl)
    (hs : swapsWithSole [.Subscript (.Name x npos) k tpos] e pos.line X.env = pure false := by rfl) (hw : swappedStores [.Subscript (.Name x npos) k tpos] e X.env = pure none := by rfl)
    (h1 : (assignEach [.Subscript (.Name x npos) k tpos] X.env).map (·.2) = [assign (.Subscript (.Name x npos) k tpos) X.env] := by rfl) :
    PSD X (.Assign [.Subscript (.Name x npos) k tpos] e pos) (sPut i Fk Fe) :=
  PS.weak (ps_asg he (pg_sub (pe_var (i := i) hN hv hd hcd) hk (PSet.or set_list (set_dict hu)) ha) hs hw h1) fun E σ H ⟨B, G, ρ, o, r, q, a⟩ => by
    obtain ⟨v, hv, q⟩ := Option.bind_eq_some_iff.mp q
    obtain ⟨kd, hk, q⟩ := Option.bind_eq_some_iff.mp q
    refine ⟨B, G, ρ, v, r, hv, fun vv G1 H1 w1 rv => ?_⟩
    split at q
    · rename_i d hi
      obtain ⟨d', hp, q⟩ := Option.map_eq_some_iff.mp q
      subst q
      obtain ⟨l, h1, h2, h3, h4⟩ := r.own i _ hi
      refine ⟨_, h1, B, G1, ρ, kd, r.step w1, hk, fun kv G2 H2 w2 rk => ?_⟩
      have w := w1.trans w2
      exact put_ok hp w2.gh (h4.same w.g w.h) rk (rv.mono w2.g) fun o t => a σ G2 _ (w.gs r.bh) ((r.step w).upd_own hi h1 t)
    · cases q

/-! ### min, max of a list of ints; of two ints -/
def minL : List Int → Int
  | [] => 0
  | [x] => x
  | x :: xs => if minL xs < x then minL xs else x
def maxL : List Int → Int
  | [] => 0
  | [x] => x
  | x :: xs => if x < maxL xs then maxL xs else x
theorem minL_spec : ∀ {ns : List Int}, ns ≠ [] → minL ns ∈ ns ∧ ∀ y ∈ ns, minL ns ≤ y
  | [], h => absurd rfl h
  | [x], _ => ⟨by simp [minL], fun y hy => by simp at hy; subst hy; simp [minL]⟩
  | x :: y :: r, _ => by
    obtain ⟨h1, h2⟩ := minL_spec (ns := y :: r) (by simp)
    unfold minL
    split
    · exact ⟨List.mem_cons_of_mem _ h1, fun z hz => by
        rcases List.mem_cons.mp hz with rfl | hz
        · omega
        · exact h2 z hz⟩
    · exact ⟨List.mem_cons_self, fun z hz => by
        rcases List.mem_cons.mp hz with rfl | hz
        · exact Int.le_refl _
        · have := h2 z hz
          omega⟩
theorem maxL_spec : ∀ {ns : List Int}, ns ≠ [] → maxL ns ∈ ns ∧ ∀ y ∈ ns, y ≤ maxL ns
  | [], h => absurd rfl h
  | [x], _ => ⟨by simp [maxL], fun y hy => by simp at hy; subst hy; simp [maxL]⟩
  | x :: y :: r, _ => by
    obtain ⟨h1, h2⟩ := maxL_spec (ns := y :: r) (by simp)
    unfold maxL
    split
    · exact ⟨List.mem_cons_of_mem _ h1, fun z hz => by
        rcases List.mem_cons.mp hz with rfl | hz
        · omega
        · exact h2 z hz⟩
    · exact ⟨List.mem_cons_self, fun z hz => by
        rcases List.mem_cons.mp hz with rfl | hz
        · exact Int.le_refl _
        · have := h2 z hz
          omega⟩
def minF : List D → Option D
  | [.list ds] => (intsOf ds).bind fun ns => if ns = [] then none else some (.int (minL ns))
  | [.int i, .int j] => some (.int (if j < i then j else i))
  | _ => none
def maxF : List D → Option D
  | [.list ds] => (intsOf ds).bind fun ns => if ns = [] then none else some (.int (maxL ns))
  | [.int i, .int j] => some (.int (if j > i then j else i))
  | _ => none
variable {p pos : Pos} {e e' : Expr} {es : List Expr} {L : FL} {F : FE}
theorem mm_eq {ns : List Int} {a b : Int} (ha : a ∈ ns) (hb : b ∈ ns) (h1 : ∀ y ∈ ns, a ≤ y) (h2 : ∀ y ∈ ns, b ≤ y) : a = b := Int.le_antisymm (h1 b hb) (h2 a ha)
theorem f_min (hc : X.calm = true) (hm : X.mg "min" = none) (ha : PAB X (e :: es) L) (hg : Gl X "min" := by rfl)
    (he : starEach (e :: es) X.env = (false, eval e X.env) :: starEach es X.env := by rfl) (hpl : (backTo pos (starEach es X.env)).any (·.1) = false := by rfl) : PF X (.Call (.Name "min" p) (e :: es) [] pos) (eCall minF L) :=
  f_bc (CallR.or (cr_min hc) (call_min2 hc)) (fun ds d vs G H Q k bs sg q => by
    unfold minF at k
    split at k
    · obtain ⟨ns, hn, k⟩ := Option.bind_eq_some_iff.mp k
      split at k
      · cases k
      · rename_i hne
        cases k
        obtain ⟨v, rfl, b⟩ := bs.one
        obtain ⟨a, xs, rfl, h1, r1⟩ := b.lst' sg
        rw [intsOf_some hn] at r1
        cases r1.ints
        refine .inl ⟨_, ns, rfl, SqL.of h1, List.length_pos_iff.mpr hne, fun m hm hy => ?_⟩
        rw [mm_eq hm (minL_spec hne).1 hy (minL_spec hne).2]
        exact q _ G H (Gw.refl sg) (.int _)
    · cases k
      obtain ⟨v, u, rfl, b1, b2⟩ := bs.two
      cases b1.int'
      cases b2.int'
      exact .inr ⟨_, _, rfl, q _ G H (Gw.refl sg) (.int _)⟩
    · cases k) hm ha (by decide +kernel) hg (by decide) (by decide) he hpl
theorem f_max (hc : X.calm = true) (hm : X.mg "max" = none) (ha : PAB X (e :: es) L) (hg : Gl X "max" := by rfl)
    (he : starEach (e :: es) X.env = (false, eval e X.env) :: starEach es X.env := by rfl) (hpl : (backTo pos (starEach es X.env)).any (·.1) = false := by rfl) : PF X (.Call (.Name "max" p) (e :: es) [] pos) (eCall maxF L) :=
  f_bc (CallR.or (cr_max hc) (call_max2 hc)) (fun ds d vs G H Q k bs sg q => by
    unfold maxF at k
    split at k
    · obtain ⟨ns, hn, k⟩ := Option.bind_eq_some_iff.mp k
      split at k
      · cases k
      · rename_i hne
        cases k
        obtain ⟨v, rfl, b⟩ := bs.one
        obtain ⟨a, xs, rfl, h1, r1⟩ := b.lst' sg
        rw [intsOf_some hn] at r1
        cases r1.ints
        refine .inl ⟨_, ns, rfl, SqL.of h1, List.length_pos_iff.mpr hne, fun m hm hy => ?_⟩
        rw [Int.le_antisymm ((maxL_spec hne).2 m hm) (hy _ (maxL_spec hne).1)]
        exact q _ G H (Gw.refl sg) (.int _)
    · cases k
      obtain ⟨v, u, rfl, b1, b2⟩ := bs.two
      cases b1.int'
      cases b2.int'
      exact .inr ⟨_, _, rfl, q _ G H (Gw.refl sg) (.int _)⟩
    · cases k) hm ha (by decide +kernel) hg (by decide) (by decide) he hpl

/-! ### isinstance(x, T) -/
def tyS : D → Option String
  | .none => some "NoneType"
  | .bool _ => some "bool"
  | .int _ => some "int"
  | .str _ => some "str"
  | .list _ => some "list"
  | .tuple _ => some "tuple"
  | _ => none
def isiD (T : String) (d : D) : Option D := (tyS d).bind fun t => (kitB t T).map .bool
theorem Bor.ty {W : Wd} {G H : Hp} {d : D} {v : V} {t : String} (b : Bor W G H d v) (sg : Same G H) (h : tyS d = some t) : TyX W.K H v (.type t) := by
  unfold tyS at h
  split at h
  · cases h; cases b.non'; exact .base .non
  · cases h; cases b.bl'; exact .base (.bl _)
  · cases h; cases b.int'; exact .base (.int _)
  · cases h; cases b.str'; exact .base (.str _)
  · cases h
    obtain ⟨a, xs, rfl, h1, _⟩ := b.lst' sg
    exact .base (.lst h1)
  · cases h
    obtain ⟨a, xs, rfl, _, h1, _⟩ := b.tup' sg
    exact .base (.tup h1)
  · cases h
theorem f_isi (T : String) {y : Str} {p2 : Pos} (hm : X.mg "isinstance" = none) (hmT : X.mg y = none) (ha : PB X e F) (hvT : bootBuiltins y = some (.type T) := by decide +kernel) (hg : Gl X "isinstance" := by rfl) (hgT : Gl X y := by rfl) (hn : y ≠ "__name__" := by decide) (hdb : (y == ("__debug__" : Str)) = false := by decide)
    (hs1 : starEach [e, .Name y p2] X.env = (false, eval e X.env) :: starEach [.Name y p2] X.env := by rfl) (hs2 : starEach [.Name y p2] X.env = (false, eval (.Name y p2) X.env) :: starEach [] X.env := by rfl) (hpl : (backTo pos (starEach [.Name y p2] X.env)).any (·.1) = false := by rfl) :
    PF X (.Call (.Name "isinstance" p) [e, .Name y p2] [] pos) (o1 (isiD T) F) :=
  PE.weak (pe_callB call_isi hg hm (by decide +kernel) (pa_cons ha (pa_cons (pe_bltn (v := .ty T) hgT hmT hvT rfl hn hdb) pa_nil hs2) hs1) (by decide) (by decide) hs1 hpl) fun σ H Q ⟨B, G, ρ, d, r, k, q⟩ => by
    obtain ⟨x, hx, k⟩ := Option.bind_eq_some_iff.mp k
    obtain ⟨t, ht, k⟩ := Option.bind_eq_some_iff.mp k
    obtain ⟨b, hb, k⟩ := Option.map_eq_some_iff.mp k
    subst k
    refine ⟨B, G, ρ, x, r, hx, fun v G1 H1 w1 b1 => ?_⟩
    exact ⟨v, .ty T, .type t, .type T, b, rfl, .ty T, b1.ty w1.gh ht, kit_ty hb, q _ G1 H1 w1 (.bl _)⟩

/-! ### tuple(x), list(x) -/
def tupF : List D → Option D
  | [.list ds] => some (.tuple ds)
  | [.tuple ds] => some (.tuple ds)
  | _ => none
theorem f_tuple (hm : X.mg "tuple" = none) (ha : PAB X [e] L) (hg : Gl X "tuple" := by rfl)
    (he : starEach [e] X.env = (false, eval e X.env) :: starEach [] X.env := by rfl) (hpl : (backTo pos (starEach [] X.env)).any (·.1) = false := by rfl) : PF X (.Call (.Name "tuple" p) [e] [] pos) (eCall tupF L) :=
  f_bt call_tuple_of (fun ds d vs G H Q k bs sg q => by
    unfold tupF at k
    split at k
    · cases k
      obtain ⟨v, rfl, b⟩ := bs.one
      obtain ⟨a, xs, rfl, h1, r1⟩ := b.lst' sg
      exact ⟨_, _, rfl, .inl ⟨SqL.of h1, fin_tup sg r1 q⟩⟩
    · cases k
      obtain ⟨v, rfl, b⟩ := bs.one
      obtain ⟨a, xs, rfl, g1, h1, r1⟩ := b.tup' sg
      exact ⟨_, _, rfl, .inr ⟨SqT.of h1, q _ G H (Gw.refl sg) (.tup g1 r1)⟩⟩
    · cases k) hm ha (by decide +kernel) hg (by decide) (by decide) he hpl
def lstF : List D → Option D
  | [.list ds] => some (.list ds)
  | [.tuple ds] => some (.list ds)
  | [.dict ((.none, .int 0) :: kvs)] => some (.list (kvs.map (·.1)))
  | _ => none
theorem f_list (hc : X.calm = true) (hm : X.mg "list" = none) (ha : PAB X [e] L) (hg : Gl X "list" := by rfl)
    (he : starEach [e] X.env = (false, eval e X.env) :: starEach [] X.env := by rfl) (hpl : (backTo pos (starEach [] X.env)).any (·.1) = false := by rfl) : PF X (.Call (.Name "list" p) [e] [] pos) (eCall lstF L) :=
  f_bt (CallR.or call_list_of (call_listD hc)) (fun ds d vs G H Q k bs sg q => by
    unfold lstF at k
    split at k
    · cases k
      obtain ⟨v, rfl, b⟩ := bs.one
      obtain ⟨a, xs, rfl, h1, r1⟩ := b.lst' sg
      exact .inl ⟨_, _, rfl, .inl (SqL.of h1), fin_lst sg r1 q⟩
    · cases k
      obtain ⟨v, rfl, b⟩ := bs.one
      obtain ⟨a, xs, rfl, g1, h1, r1⟩ := b.tup' sg
      exact .inl ⟨_, _, rfl, .inr (SqT.of h1), fin_lst sg r1 q⟩
    · cases k
      obtain ⟨v, rfl, b⟩ := bs.one
      obtain ⟨a, kv, rfl, h1, h2, h3⟩ := b.dk sg
      exact .inr ⟨_, _, rfl, h1, fin_lst sg (reps_keys h2) q⟩
    · cases k) hm ha (by decide +kernel) hg (by decide) (by decide) he hpl

/-! ### methods of texts -/
/-- a built-in type's method by values -/
def eMeth (f : D → List D → Option D) (a : FE) (l : FL) : FE := fun ρ => (a ρ).bind fun x => (l ρ).bind fun xs => f x xs
def MethD (W : Wd) (T : String) (r : V → List V → Hp → VK → Prop) (f : D → List D → Option D) : Prop :=
  ∀ (x : D) (ds : List D) (d : D) (v : V) (vs : List V) (G H : Hp) (Q : VK), f x ds = some d → Bor W G H x v → Bors W G H ds vs → Same G H → (∀ z G' H', Gw G H G' H' → Rep W G' d z → Q z H') → r v vs H Q
theorem f_meth {T id : String} {name : Str} {o : Expr} {r : V → List V → Hp → VK → Prop} {f : D → List D → Option D} {apos cpos : Pos} {Fo : FE} (pa : PlainAttrs T) (slot : Slot T name id) (hty : typeOf (.builtin id) = pure (.type "method_descriptor")) (hm : MtR X id r) (hf : MethD X.wd T r f)
    (hT : ∀ x ds d, f x ds = some d → ∀ G H v, Bor X.wd G H x v → Same G H → tyV X.K T v H) (ho : PB X o Fo) (ha : PAB X (e :: es) L)
    (hbase : attributeBase o name X.env (eval o X.env) = eval o X.env := by rfl)
    (hfew : ((backTo cpos (starEach (e :: es) X.env)).all (fun x => !x.1) && (backToKw cpos (keywordEach [] X.env)).all (fun x => x.1.isSome)
      && decide ((e :: es).length + ([] : List Keyword).length + (if ([] : List Keyword).isEmpty then 0 else 1) < 30)) = true := by rfl)
    (hline : (apos.endLine == cpos.line) = true := by rfl) (hs : starEach (e :: es) X.env = (false, eval e X.env) :: starEach es X.env := by rfl) (hplain : (backTo cpos (starEach es X.env)).any (·.1) = false := by rfl) :
    PF X (.Call (.Attribute o name apos) (e :: es) [] cpos) (eMeth f Fo L) :=
  PE.weak (pe_bm pa slot hty hm ho ha hbase hfew hline hs hplain) fun σ H Q ⟨B, G, ρ, d, rp, k, q⟩ => by
    obtain ⟨x, hx, k⟩ := Option.bind_eq_some_iff.mp k
    obtain ⟨ds, hd, k⟩ := Option.bind_eq_some_iff.mp k
    refine ⟨B, G, ρ, x, rp, hx, fun v G1 H1 w1 b1 => ⟨hT x ds d k G1 H1 v b1 w1.gh, B, G1, ρ, ds, rp.step w1, hd, fun vs G2 H2 w2 bs => ?_⟩⟩
    exact hf x ds d v vs G2 H2 Q k (b1.step w2) bs w2.gh fun z G' H' w rz => q z G' H' ((w1.trans w2).trans w) rz
section
local instance (priority := 1000000) cdj2 (p : Prop) : Decidable p := Classical.propDecidable p
def joinF : D → List D → Option D
  | .str a, [.list ds] => (strsOf ds).bind fun ys => if (ys.map (·.length)).sum + ys.length * a.length ≤ 16777216 then some (.str (Txt.join a ys)) else none
  | _, _ => none
end
theorem f_join {o : Expr} {Fo : FE} {apos cpos : Pos} (ho : PB X o Fo) (ha : PAB X [e] L)
    (hbase : attributeBase o "join" X.env (eval o X.env) = eval o X.env := by rfl)
    (hfew : ((backTo cpos (starEach [e] X.env)).all (fun x => !x.1) && (backToKw cpos (keywordEach [] X.env)).all (fun x => x.1.isSome)
      && decide (([e] : List Expr).length + ([] : List Keyword).length + (if ([] : List Keyword).isEmpty then 0 else 1) < 30)) = true := by rfl)
    (hline : (apos.endLine == cpos.line) = true := by rfl) (hs : starEach [e] X.env = (false, eval e X.env) :: starEach [] X.env := by rfl) (hplain : (backTo cpos (starEach [] X.env)).any (·.1) = false := by rfl) :
    PF X (.Call (.Attribute o "join" apos) [e] [] cpos) (eMeth joinF Fo L) :=
  f_meth PySem.F.plainAttrs_str PySem.F.slot_str_join PySem.F.type_str_join mt_join (fun x ds d v vs G H Q k b bs sg q => by
    unfold joinF at k
    split at k
    · obtain ⟨ys, hy, k⟩ := Option.bind_eq_some_iff.mp k
      split at k
      · rename_i hz
        cases k
        cases b.str'
        obtain ⟨u, rfl, b1⟩ := bs.one
        obtain ⟨a, xs, rfl, h1, r1⟩ := b1.lst' sg
        rw [strsOf_some hy] at r1
        cases r1.strs
        exact ⟨_, _, ys, rfl, rfl, .inl (SqL.of h1), hz, q _ G H (Gw.refl sg) (.str _)⟩
      · cases k
    · cases k) (fun x ds d k G H v b sg => by
      unfold joinF at k
      split at k
      · cases b.str'; rfl
      · cases k) ho ha hbase hfew hline hs hplain
end

/-! ### a slot's thing frozen behind a statement; a def that calls itself -/
def thenF (i : Nat) (F : FS) : FS := fun ρ => (F ρ).map fun o => match o with
  | .nx ρ' => .nx (frzE i ρ')
  | o => o
theorem s_thenF (i : Nat) {X : Cx} {st : Stmt} {F : FS} (h : PSD X st F) : PSD X st (thenF i F) := by
  refine ⟨fun pins s σ H E I ⟨B, G, ρ, o, r, k, a⟩ => ?_⟩
  obtain ⟨o1, ho, k⟩ := Option.map_eq_some_iff.mp k
  subst k
  refine thn (h.run pins s σ H { nx := fun σ' H' => ∃ ρ' G', o1 = .nx ρ' ∧ Gs B G G' ∧ Rp X.wd B G' H' ρ' σ', rt := E.rt, bk := E.bk, ct := E.ct } I ⟨B, G, ρ, o1, r, ho, ?_⟩) fun f s1 q => ?_
  · cases o1 with
    | nx ρ' => exact fun σ' G' H' g r' => ⟨ρ', G', rfl, g, r'⟩
    | rt d => exact a
    | bk ρ' => exact a
    | ct ρ' => exact a
  · cases f with
    | next =>
      obtain ⟨σ', H', I', ρ', G', rfl, g, r'⟩ := q
      obtain ⟨G2, H2, I2, r2, g2⟩ := frz_run (i := i) I' r'
      exact ⟨σ', H2, I2, a σ' G2 H2 (g.trans g2) r2⟩
    | brk => exact q
    | cont => exact q
    | ret v => exact q
theorem DefD.nil {P : Program} {w : World} {K : PySem.W.Frag} {mg : Str → Option Value} {base : Heap} {k : Nat} {x : Str} {st : Stmt} {ps : List Str} (T : TopF K mg x st ps) : DefD P w K mg base k x (fun _ => none) :=
  let ⟨f, fd, F, hm, hb⟩ := T.ex
  ⟨f, fd, ps, ⟨fun vs H Q E h => h.1, fun A outer s H args us vs Q E _ _ _ _ h => let ⟨_, _, _, _, _, _, z, _⟩ := h; nomatch z⟩, hm, F.kp, hb, fun _ _ h => nomatch h⟩
/-- the law: a list of at most 63 ints is handed in, True comes out -/
def spLaw (K : PySem.W.Frag) : Sp := fun vs H Q _ => ∃ (a : Addr) (ns : List Int), vs = [.ref a] ∧ SqL K H a (ns.map V.int) ∧ ns.length ≤ 63 ∧ ∀ H', Q (.bl true) H'
theorem law_imp {P : Program} {w : World} {K : PySem.W.Frag} {mg : Str → Option Value} {base : Heap} {k : Nat} {Ff : List D → Option D} {fa : Addr} {fd : FuncData} {ps : List Str} (F : FnOk P w K mg base CX0 k fa fd ps (spD ⟨P, w, K⟩ 1 Ff)) (ht : ∀ ns : List Int, ns.length ≤ 63 → Ff [scrD ns] = some (.bool true)) :
    FnOk P w K mg base CX0 k fa fd ps (spLaw K) := F.imp fun vs H Q E q => by
  obtain ⟨a, ns, rfl, hs, hz, q⟩ := q
  refine ⟨rfl, H, [scrD ns], _, Same.refl _, .cons (.scr hs) .nil, ht ns hz, fun v G' H' w rv => ?_⟩
  cases rv
  exact q H'
theorem room65 {k : Nat} {A : Around} (r : Room k A) : A.units + 65 < cLine := by
  have := r.un
  omega
end DV
end

set_option Elab.async false
set_option linter.all false
set_option maxRecDepth 100000
/-! DVk: text.index, slices with a step, `in` a written tuple of the module. -/
noncomputable section
namespace DV
open PySem PySem.Spec PyProof.Rows L2
section
variable {X : Cx} {e : Expr} {pos p2 : Pos} {F Fo : FE} {L : FL}
/-! ### text.index -/
def indexF : D → List D → Option D
  | .str a, [.str b] => match Builtin.Str.occurrences a b 0 a.length 1 with
    | i :: _ => some (.int (i : Nat))
    | [] => none
  | _, _ => none
theorem f_index {o : Expr} {apos cpos : Pos} (ho : PB X o Fo) (ha : PAB X [e] L)
    (hbase : attributeBase o "index" X.env (eval o X.env) = eval o X.env := by rfl)
    (hfew : ((backTo cpos (starEach [e] X.env)).all (fun x => !x.1) && (backToKw cpos (keywordEach [] X.env)).all (fun x => x.1.isSome)
      && decide (([e] : List Expr).length + ([] : List Keyword).length + (if ([] : List Keyword).isEmpty then 0 else 1) < 30)) = true := by rfl)
    (hline : (apos.endLine == cpos.line) = true := by rfl) (hs : starEach [e] X.env = (false, eval e X.env) :: starEach [] X.env := by rfl) (hplain : (backTo cpos (starEach [] X.env)).any (·.1) = false := by rfl) :
    PF X (.Call (.Attribute o "index" apos) [e] [] cpos) (eMeth indexF Fo L) :=
  f_meth PySem.F.plainAttrs_str PySem.F.slot_str_index PySem.F.type_str_index mt_sindex (fun x ds d v vs G H Q k b bs sg q => by
    unfold indexF at k
    split at k
    · split at k
      · rename_i i rest hi
        cases k
        cases b.str'
        obtain ⟨u, rfl, b1⟩ := bs.one
        cases b1.str'
        exact ⟨_, _, i, rest, rfl, rfl, hi, q _ G H (Gw.refl sg) (.int _)⟩
      · cases k
    · cases k) (fun x ds d k G H v b sg => by
      unfold indexF at k
      split at k
      · cases b.str'; rfl
      · cases k) ho ha hbase hfew hline hs hplain

/-! ### a list's slice with a step -/
def pickD {α : Type} (xs : List α) (lo hi st : Option Int) : List α :=
  (sliceRange (sliceBounds lo hi st xs.length).1 (sliceBounds lo hi st xs.length).2.1 (sliceBounds lo hi st xs.length).2.2).filterMap (xs[·]?)
theorem pick_eq (vs : List Value) (lo hi st : Option Int) : slicePick vs.toArray lo hi st = (pickD vs lo hi st).toArray := by
  unfold slicePick pickD
  simp
theorem vals_pick {xs : List V} {vs : List Value} (r : Vals xs vs) : ∀ l : List Nat, Vals (l.filterMap (xs[·]?)) (l.filterMap (vs[·]?))
  | [] => .nil
  | i :: l => by
    have hl := r.length
    have ih := vals_pick r l
    cases hx : xs[i]? with
    | none =>
      have hv : vs[i]? = none := by
        rw [List.getElem?_eq_none_iff] at hx ⊢
        omega
      rw [List.filterMap_cons_none hx, List.filterMap_cons_none hv]
      exact ih
    | some x =>
      obtain ⟨v, hv, rv⟩ := r.get hx
      rw [List.filterMap_cons_some hx, List.filterMap_cons_some hv]
      exact .cons rv ih
theorem reps_pick {W : Wd} {G : Hp} {ds : List D} {xs : List V} (r : Reps W G ds xs) : ∀ l : List Nat, Reps W G (l.filterMap (ds[·]?)) (l.filterMap (xs[·]?))
  | [] => .nil
  | i :: l => by
    have hl := r.length
    have ih := reps_pick r l
    cases hx : ds[i]? with
    | none =>
      have hv : xs[i]? = none := by
        rw [List.getElem?_eq_none_iff] at hx ⊢
        omega
      rw [List.filterMap_cons_none hx, List.filterMap_cons_none hv]
      exact ih
    | some x =>
      obtain ⟨v, hv, rv⟩ := r.get hx
      rw [List.filterMap_cons_some hx, List.filterMap_cons_some hv]
      exact .cons rv ih
def tSlS (K : PySem.W.Frag) (te : TE) (tl th ts : TO) : TE := fun σ H Q => te σ H fun x H1 => tl σ H1 fun lo H2 => th σ H2 fun hi H3 => ts σ H3 fun st H4 => ∃ a xs, x = .ref a ∧ st ≠ some 0 ∧ SqL K H4 a xs ∧ ∀ p, H4 p = none → Q (.ref p) (upd H4 p (.lst (pickD xs lo hi st)))
theorem pe_slS {te : TE} {tl th ts : TO} {lo hi : Option Expr} {es : Expr} (he : PE X e te) (hl : PO X lo tl) (hu : PO X hi th) (hst : PO X (some es) ts) : PE X (.Subscript e (.Slice lo hi (some es) p2) pos) (tSlS X.K te tl th ts) := by
  refine ⟨fun pins s σ H Q I h => ?_⟩
  refine Subscript_ (thn (he.run pins s σ H _ I h) fun v s1 ⟨x, H1, I1, r1, q1⟩ => ?_)
  refine wpAny_Slice (thn (hl.run pins s1 σ H1 _ I1 q1) fun vl s2 ⟨l, H2, I2, pl, q2⟩ => thn (hu.run pins s2 σ H2 _ I2 q2) fun vu s3 ⟨u, H3, I3, pu, q3⟩ => thn (hst.run pins s3 σ H3 _ I3 q3) fun vs s4 ⟨o, H4, I4, ps, q4⟩ => ?_)
  obtain ⟨a, xs, ex, h0, hx, q⟩ := q4
  subst ex
  cases r1
  have I5 : Inv X pins σ H4 { s4 with heap := s4.heap.push { cls := .type "slice", data := .fields #[vl, vu, vs] } } := I4.kept (t' := s4.toks) fun b ob q => Heap.get?_push_of_some _ q
  obtain ⟨its, r, ht, hz⟩ := I5.list hx
  have hlen := r.length
  show wpAny (model X.prog X.w) X.A (subscriptTail e (.Slice lo hi (some es) p2) (.ref a) (.ref s4.heap.objs.size)) (EP X pins σ Q) X.xe { s4 with heap := s4.heap.push { cls := .type "slice", data := .fields #[vl, vu, vs] } }
  refine tail_any (ops := [.ref a, .ref s4.heap.objs.size]) ht.isList.typeIs (PySem.slot_list_getitem.lookup) ?_ (by with_unfolding_all rfl)
  refine wpAny_getItem_list_slice ht.isList (Heap.IsSliceOf.new _ vl vu vs) pl pu ps h0 ?_ (by rw [List.size_toArray]; omega)
  have hsz := slicePick_size_le its.toArray l u o
  rw [pick_eq] at hsz ⊢
  have rp : Vals (pickD xs l u o) (pickD its l u o) := by
    unfold pickD
    rw [hlen]
    exact vals_pick r _
  refine ⟨.ref _, _, I5.laid (t' := s4.toks) (o := .lst (pickD xs l u o)) (fun b ob q => Heap.get?_push_of_some _ q) (Nat.le_refl _) ?_, rfl, q _ (I5.hok.fresh (Nat.le_refl _))⟩
  refine ⟨?_, _, 0, rp, Heap.get?_push_size _ rfl⟩
  have := rp.length
  simp at hsz
  omega
theorem Reps.pick {W : Wd} {G : Hp} {ds : List D} {xs : List V} (r : Reps W G ds xs) (lo hi st : Option Int) : Reps W G (pickD ds lo hi st) (pickD xs lo hi st) := by
  unfold pickD
  rw [r.length]
  exact reps_pick r _
def slsD : D → Option Int → Option Int → Option Int → Option D
  | .list ds, lo, hi, st => if st = some 0 then none else some (.list (pickD ds lo hi st))
  | _, _, _, _ => none
def eSlS (a : FE) (lo hi st : FP) : FE := fun ρ => (a ρ).bind fun x => (lo ρ).bind fun l => (hi ρ).bind fun h => (st ρ).bind fun o => slsD x l h o
theorem f_slS {lo hi : Option Expr} {es : Expr} {L U S : FP} (he : PB X e F) (hl : POD X lo L) (hu : POD X hi U) (hs : POD X (some es) S) : PF X (.Subscript e (.Slice lo hi (some es) p2) pos) (eSlS F L U S) :=
  PE.weak (pe_slS he hl hu hs) fun σ H Q ⟨B, G, ρ, d, r, k, q⟩ => by
    obtain ⟨x, hx, k⟩ := Option.bind_eq_some_iff.mp k
    obtain ⟨l, hl, k⟩ := Option.bind_eq_some_iff.mp k
    obtain ⟨h, hh, k⟩ := Option.bind_eq_some_iff.mp k
    obtain ⟨o, ho, k⟩ := Option.bind_eq_some_iff.mp k
    refine ⟨B, G, ρ, x, r, hx, fun v G1 H1 w1 b1 => ⟨B, G1, ρ, l, r.step w1, hl, fun G2 H2 w2 => ⟨B, G2, ρ, h, (r.step w1).step w2, hh, fun G3 H3 w3 => ⟨B, G3, ρ, o, ((r.step w1).step w2).step w3, ho, fun G4 H4 w4 => ?_⟩⟩⟩⟩
    have b4 := ((b1.step w2).step w3).step w4
    have w := ((w1.trans w2).trans w3).trans w4
    have q' : ∀ z G' H', Gw G4 H4 G' H' → Rep X.wd G' d z → Q z H' := fun z G' H' w' rz => q z G' H' (w.trans w') rz
    unfold slsD at k
    split at k
    · split at k
      · cases k
      · rename_i h0
        cases k
        obtain ⟨a, xs, rfl, h1, r1⟩ := b4.lst' w4.gh
        exact ⟨_, _, rfl, h0, SqL.of h1, fin_lst w4.gh (r1.pick l h o) q'⟩
    · cases k

/-! ### in, not in: a written tuple of texts of the module -/
structure KTup (K : PySem.W.Frag) (mg : Str → Option Value) (x : Str) (ks : List Str) : Prop where
  ex : ∃ (t : Addr) (o : Obj) (its : Array Value) (n : Nat), mg x = some (.ref t) ∧ K.lookup t = some o ∧ o.cls = .type "tuple" ∧ o.data = .seq its n ∧ its.size ≤ sizeLine ∧ Vals (ks.map V.str) its.toList
def inC (ks : List Str) : D → Option D
  | .str z => some (.bool (decide (z ∈ ks)))
  | _ => none
def ninC (ks : List Str) : D → Option D
  | .str z => some (.bool (!decide (z ∈ ks)))
  | _ => none
theorem inV_strs (z : Str) (ks : List Str) : inV (.str z) (ks.map V.str) = decide (z ∈ ks) := by
  induction ks with
  | nil => rfl
  | cons k ks ih =>
    rw [List.map_cons]
    unfold inV at ih ⊢
    rw [List.any_cons, ih]
    show ((k == z) || decide (z ∈ ks)) = decide (z ∈ k :: ks)
    by_cases h : k = z
    · subst h; simp
    · have h' : ¬ z = k := fun e => h e.symm
      rw [beq_eq_false_iff_ne.mpr h]
      simp [h']
theorem f_ninG {x : Str} {ks : List Str} {a : Expr} {Fa : FE} {p : Pos} (ha : PB X a Fa) (T : KTup X.K X.mg x ks) (hg : Gl X x) (hd : (x == ("__debug__" : Str)) = false := by decide) (hm : behindInMarks .NotIn (.Name x p) = false := by with_unfolding_all rfl) :
    PF X (.Compare a [.NotIn] [.Name x p] pos) (o1 (ninC ks) Fa) := by
  obtain ⟨t, o, its, n, h1, h2, h3, h4, h5, h6⟩ := T.ex
  refine PE.weak (pe_cmpR op_notIn_seq ha (pe_glob (v := V.ref t) hg h1 rfl hd) hm) fun σ H Q ⟨B, G, ρ, d, r, k, q⟩ => ?_
  obtain ⟨y, hy, k⟩ := Option.bind_eq_some_iff.mp k
  refine ⟨B, G, ρ, y, r, hy, fun v G1 H1 w1 b1 => ?_⟩
  unfold ninC at k
  split at k
  · cases k
    cases b1.str'
    refine ⟨t, ks.map V.str, rfl, .inr (.inr ⟨o, its, n, h2, h3, h4, h5, h6⟩), rfl, ?_, ?_⟩
    · simp [flatV]
    · rw [inV_strs]
      exact q _ G1 H1 w1 (.bl _)
  · cases k
end
end DV
end

set_option Elab.async false
set_option linter.all false
set_option maxRecDepth 100000
/-! DVl: sorted(.., key=own def), the keys being pairs of an int and a text. -/
noncomputable section
namespace DV
open PySem PySem.Spec PyProof.Rows L2
/-! ### the order -/
def kLt (p q : Int × Str) : Bool := if p.1 = q.1 then decide (p.2.cps.toList < q.2.cps.toList) else decide (p.1 < q.1)
theorem cps_inj {a b : Str} (h : a.cps.toList = b.cps.toList) : a = b := by
  obtain ⟨a⟩ := a
  obtain ⟨b⟩ := b
  simp only at h
  rw [Array.toList_inj.mp h]
theorem lst_asym {a b : List Nat} (h : a < b) : ¬ b < a := fun z => absurd (List.lt_trans h z) (List.lt_irrefl a)
theorem lst_tri (a b : List Nat) : a < b ∨ a = b ∨ b < a := by
  by_cases h : a < b
  · exact .inl h
  · rcases (List.le_iff_lt_or_eq (l₁ := b) (l₂ := a)).mp (List.not_lt.mp h) with e | e
    · exact .inr (.inr e)
    · exact .inr (.inl e.symm)
theorem kLt_iff {p q : Int × Str} : kLt p q = true ↔ p.1 < q.1 ∨ (p.1 = q.1 ∧ p.2.cps.toList < q.2.cps.toList) := by
  unfold kLt
  by_cases h : p.1 = q.1
  · rw [if_pos h]
    simp only [decide_eq_true_eq]
    constructor
    · exact fun z => .inr ⟨h, z⟩
    · rintro (z | z)
      · omega
      · exact z.2
  · rw [if_neg h]
    simp only [decide_eq_true_eq]
    constructor
    · exact fun z => .inl z
    · rintro (z | z)
      · exact z
      · exact absurd z.1 h
theorem kLt_no {p q : Int × Str} : kLt p q = false ↔ q.1 < p.1 ∨ (p.1 = q.1 ∧ ¬ p.2.cps.toList < q.2.cps.toList) := by
  rw [← Bool.not_eq_true, kLt_iff]
  constructor
  · intro h
    by_cases e : p.1 = q.1
    · exact .inr ⟨e, fun z => h (.inr ⟨e, z⟩)⟩
    · refine .inl ?_
      have : ¬ p.1 < q.1 := fun z => h (.inl z)
      omega
  · rintro (z | z) (y | y)
    · omega
    · omega
    · omega
    · exact z.2 y.2
theorem kLt_swo {α : Type} (k : α → Int × Str) : SrtO.Swo (fun v u : α => kLt (k v) (k u)) := by
  refine ⟨fun x y h => ?_, fun x y z h1 h2 => ?_⟩
  · rcases kLt_iff.mp h with a | ⟨a, b⟩
    · exact kLt_no.mpr (.inl a)
    · exact kLt_no.mpr (.inr ⟨a.symm, lst_asym b⟩)
  · rcases kLt_no.mp h1 with a | ⟨a, a'⟩ <;> rcases kLt_no.mp h2 with b | ⟨b, b'⟩
    · exact kLt_no.mpr (.inl (by omega))
    · exact kLt_no.mpr (.inl (by omega))
    · exact kLt_no.mpr (.inl (by omega))
    · refine kLt_no.mpr (.inr ⟨b.trans a, ?_⟩)
      exact List.not_lt.mpr (List.le_trans (List.not_lt.mp a') (List.not_lt.mp b'))
theorem kLt_anti {p q : Int × Str} (h1 : kLt p q = false) (h2 : kLt q p = false) : p = q := by
  rcases kLt_no.mp h1 with a | ⟨a, a'⟩ <;> rcases kLt_no.mp h2 with b | ⟨b, b'⟩
  · omega
  · omega
  · omega
  · rcases lst_tri p.2.cps.toList q.2.cps.toList with e | e | e
    · exact absurd e a'
    · exact Prod.ext a (cps_inj e)
    · exact absurd e b'
/-! ### keys in the machine's heap -/
def IsKey (h : Heap) (v : Value) (p : Int × Str) : Prop := ∃ a o t u n, v = .ref a ∧ h.get? a = some o ∧ o.cls = .type "tuple" ∧ o.data = .seq #[.int p.1 t, .str p.2 u] n
theorem IsKey.uniq {h : Heap} {v : Value} {p q : Int × Str} (x : IsKey h v p) (y : IsKey h v q) : p = q := by
  obtain ⟨a, o, t, u, n, e, ho, _, hd⟩ := x
  obtain ⟨a', o', t', u', n', e', ho', _, hd'⟩ := y
  rw [e] at e'
  cases e'
  rw [ho] at ho'
  cases ho'
  rw [hd] at hd'
  cases p
  cases q
  cases hd'
  rfl
theorem IsKey.keeps {h h' : Heap} {v : Value} {p : Int × Str} (x : IsKey h v p) (k : ∀ b o, h.get? b = some o → o.cls = .type "tuple" → h'.get? b = some o) : IsKey h' v p := by
  obtain ⟨a, o, t, u, n, e, ho, hc, hd⟩ := x
  exact ⟨a, o, t, u, n, e, k _ _ ho hc, hc, hd⟩
section
variable {prog : Program} {w : World} {A : Around} {s : Shared}
theorem key_cmp {ks : List Value} {k : Value → Int × Str} (hp : ∀ v ∈ ks, IsKey s.heap v (k v)) : SrtO.Cmp prog w A s (tuples' true) (fun p => p.1 ∈ ks) (SrtO.lt2 fun v u => kLt (k v) (k u)) := by
  intro p q hm hm'
  have h1 := hp _ hm
  have h2 := hp _ hm'
  show wpAny (model prog w) A (keyLt' (tuples' true) p.1 q.1) (fun r s' => s' = s ∧ r = kLt (k p.1) (k q.1)) (fun _ _ => False) s
  unfold kLt
  generalize k p.1 = x at h1 ⊢
  generalize k q.1 = y at h2 ⊢
  obtain ⟨x, y'⟩ := x
  obtain ⟨x2, y2⟩ := y
  obtain ⟨a, o, t, u, n, e, ho, hc, hd⟩ := h1
  obtain ⟨a', o', t', u', n', e', ho', hc', hd'⟩ := h2
  rw [e, e']
  refine PySem.W.kat_lt ho hd ho' hd' ?_
  show PySem.W.KatLex prog w A true (decide (2 < 2)) _ [(.int x t, .int x2 t'), (.str y' u, .str y2 u')] 0 s
  refine PySem.W.kat_cons (SeqAt.EqAt.int_int x t x2 t' prog w _ _ ?_)
  refine PySem.W.kat_go (fun e1 => ?_) (fun e1 => ?_)
  · have ex : x = x2 := by simpa using e1
    refine PySem.W.kat_yes (PySem.W.kat_cons (SeqAt.EqAt.str_str y' u y2 u' prog w _ _ ?_))
    refine PySem.W.kat_go (fun e2 => ?_) (fun e2 => ?_)
    · have ey : y' = y2 := by simpa using e2
      have e3 : (if x = x2 then decide (y'.cps.toList < y2.cps.toList) else decide (x < x2)) = false := by
        rw [if_pos ex, ey]
        exact decide_eq_false (List.lt_irrefl _)
      exact PySem.W.kat_yes (PySem.W.kat_nil ⟨rfl, e3.symm⟩)
    · have e3 : (if x = x2 then decide (y'.cps.toList < y2.cps.toList) else decide (x < x2)) = decide (y'.cps.toList < y2.cps.toList) := if_pos ex
      refine PySem.W.kat_no (PySem.W.kat_one _ _ (lt_str ?_))
      exact (show s = s ∧ decide (y'.cps.toList < y2.cps.toList) = (if x = x2 then decide (y'.cps.toList < y2.cps.toList) else decide (x < x2)) from ⟨rfl, e3.symm⟩)
  · have ex : ¬ x = x2 := by simpa using e1
    have e3 : (if x = x2 then decide (y'.cps.toList < y2.cps.toList) else decide (x < x2)) = decide (x < x2) := if_neg ex
    exact PySem.W.kat_no (oneLt_int ⟨rfl, e3.symm⟩)
theorem key_firsts {h : Heap} : ∀ {vs : List Value}, (∀ v ∈ vs, ∃ p, IsKey h v p) → ∃ fs : List Value, PySem.W.KatTups h vs fs ∧ fs.length = vs.length ∧ ∀ f ∈ fs, ∃ x t, f = Value.int x t
  | [], _ => ⟨[], PySem.W.KatTups.nil, rfl, fun _ hm => by simp at hm⟩
  | v :: vs, hp => by
    obtain ⟨fs, h1, h2, h3⟩ := key_firsts (vs := vs) fun v' hm => hp v' (List.mem_cons_of_mem _ hm)
    obtain ⟨⟨x, y⟩, a, o, t, u, n, e, ho, hc, hd⟩ := hp v (List.mem_cons_self ..)
    subst e
    refine ⟨.int x t :: fs, PySem.W.KatTups.cons ho hc hd rfl h1, by rw [List.length_cons, List.length_cons, h2], fun f hm => ?_⟩
    rcases List.mem_cons.mp hm with rfl | hm
    · exact ⟨x, t, rfl⟩
    · exact h3 f hm
theorem key_kind {ks : List Value} {Q : SortKind → Shared → Prop} {E : Value → Shared → Prop} (h0 : 0 < ks.length) (hp : ∀ v ∈ ks, ∃ p, IsKey s.heap v p) (hq : Q (tuples' true) s) : wpAny (model prog w) A (keyKind' ks.toArray) Q E s := by
  obtain ⟨fs, h1, h2, h3⟩ := key_firsts hp
  refine PySem.W.kat_kind (T := .type "int") h1 (by omega) (fun f hm => ?_) (by rfl) ?_
  · obtain ⟨x, t, rfl⟩ := h3 f hm
    exact PySem.W.Looks.now
  · have e : (Value.type "int" != Value.type "tuple") = true := by first | decide +kernel | rfl | decide
    rw [e]
    exact hq
end
end DV
end

set_option Elab.async false
set_option linter.all false
set_option maxRecDepth 100000
set_option maxHeartbeats 4000000
/-! DVs: sorted(xs, key=own def) as a rule. -/
noncomputable section
namespace DV
open PySem PySem.Spec PyProof.Rows L2
/-! ### one sorted list -/
theorem srt_uniq {α : Type} {lt : α → α → Bool} : ∀ {l m : List α}, (∀ a ∈ l, ∀ b ∈ l, lt a b = false → lt b a = false → a = b) → l.Perm m → l.Pairwise (fun a b => lt b a = false) → m.Pairwise (fun a b => lt b a = false) → l = m
  | [], m, _, h, _, _ => (List.Perm.eq_nil h.symm).symm
  | x :: l, [], _, h, _, _ => absurd h.length_eq (by simp)
  | x :: l, y :: m, ha, h, h1, h2 => by
    have hy : y ∈ x :: l := h.mem_iff.mpr List.mem_cons_self
    have hx : x ∈ y :: m := h.mem_iff.mp List.mem_cons_self
    have e : x = y := by
      rcases List.mem_cons.mp hy with e | hy'
      · exact e.symm
      · rcases List.mem_cons.mp hx with e | hx'
        · exact e
        · exact ha x List.mem_cons_self y hy ((List.pairwise_cons.mp h2).1 x hx') ((List.pairwise_cons.mp h1).1 y hy')
    subst e
    rw [srt_uniq (fun a h3 b h4 => ha a (List.mem_cons_of_mem _ h3) b (List.mem_cons_of_mem _ h4)) h.cons_inv (List.pairwise_cons.mp h1).2 (List.pairwise_cons.mp h2).2]
/-! ### what it gives -/
def kpar : D → Option (Int × Str)
  | .tuple [.int n, .str z] => some (n, z)
  | _ => none
def kD (p : Int × Str) : D := .tuple [.int p.1, .str p.2]
theorem kpar_some {d : D} {p : Int × Str} (h : kpar d = some p) : d = kD p := by
  unfold kpar at h
  split at h
  · cases h; rfl
  · cases h
def keyO (Ff : List D → Option D) (d : D) : Int × Str := (((Ff [d]).bind kpar).getD (0, Str.empty))
section
local instance (priority := 1000000) cds1 (p : Prop) : Decidable p := Classical.propDecidable p
def sortKF (Ff : List D → Option D) : D → Option D
  | .list ds => if (∀ d ∈ ds, Ff [d] = some (kD (keyO Ff d))) ∧ (∀ a ∈ ds, ∀ b ∈ ds, keyO Ff a = keyO Ff b → a = b) then some (.list (ds.mergeSort fun a b => !kLt (keyO Ff b) (keyO Ff a))) else none
  | _ => none
end
theorem sortKF_some {Ff : List D → Option D} {ds : List D} {out : D} (h : sortKF Ff (.list ds) = some out) : (∀ d ∈ ds, Ff [d] = some (kD (keyO Ff d))) ∧ (∀ a ∈ ds, ∀ b ∈ ds, keyO Ff a = keyO Ff b → a = b) ∧ out = .list (ds.mergeSort fun a b => !kLt (keyO Ff b) (keyO Ff a)) := by
  simp only [sortKF] at h
  split at h
  · rename_i hc
    cases h
    exact ⟨hc.1, hc.2, rfl⟩
  · cases h
theorem sortK_spec {Ff : List D → Option D} {ds l : List D} (hi : ∀ a ∈ ds, ∀ b ∈ ds, keyO Ff a = keyO Ff b → a = b) (hp : l.Perm ds) (hs : l.Pairwise fun a b => kLt (keyO Ff b) (keyO Ff a) = false) : (ds.mergeSort fun a b => !kLt (keyO Ff b) (keyO Ff a)) = l := by
  have O := kLt_swo (keyO Ff)
  have h1 := List.pairwise_mergeSort (le := fun a b => !kLt (keyO Ff b) (keyO Ff a)) (fun a b c x y => by
    simp only [Bool.not_eq_true'] at x y ⊢
    exact O.tr a b c x y) (fun a b => by
    cases e : kLt (keyO Ff b) (keyO Ff a) with
    | false => simp
    | true =>
      have e' : kLt (keyO Ff a) (keyO Ff b) = false := O.asym b a e
      simp [e']) ds
  have h2 := List.mergeSort_perm ds (fun a b => !kLt (keyO Ff b) (keyO Ff a))
  refine (srt_uniq (lt := fun a b => kLt (keyO Ff a) (keyO Ff b)) (fun a ha b hb x y => ?_) (hp.trans h2.symm) hs (h1.imp fun z => by simpa using z)).symm
  exact hi a (hp.mem_iff.mp ha) b (hp.mem_iff.mp hb) (kLt_anti x y)
section
variable {X : Cx} {k : Nat} {f : Addr} {fd : FuncData} {ps : List Str} {Ff : List D → Option D} {pins : List (Addr × Obj)} {σ : L2.St} {G H : Hp} {s : Shared}
/-- the def called from within a built-in -/
theorem call_in {A' : Around} {E : Value → Shared → Prop} {d kd : D} {xv : V} {u : Value} (F : FnOk X.prog X.w X.K X.mg X.base CX0 k f fd ps (spD X.wd ps.length Ff)) (hb : Binds X.K fd ps []) (hl : ∀ ds d, Ff ds = some d → ds.length = ps.length) (hr : Room k A')
    (he : Env0 X.prog X.w X.K X.mg X.base A' X.stack s H) (I : L2.Inv X pins σ H s) (sg : Same G H) (r : Rep X.wd G d xv) (ru : RelV xv u) (hk : Ff [d] = some kd) :
    wpAny (model X.prog X.w) A' (call (.ref f) [u]) (fun u' s' => ∃ kv G' H', L2.Inv X pins σ H' s' ∧ DV.Gw G H G' H' ∧ Rep X.wd G' kd kv ∧ RelV kv u') E s := by
  have hlen : ([u] ++ ([] : List Value)).length = ps.length := by
    have := hl _ _ hk
    simpa using this
  have hlen2 : [xv].length = ps.length := by
    have := hl _ _ hk
    simpa using this
  refine wpAny_call (codeAny_mono (F.run A' X.stack s H ⟨[u], []⟩ ([u] ++ []) [xv] (fun v H' => ∃ G', DV.Gw G H G' H' ∧ Rep X.wd G' kd v) (fun _ _ _ => False) hr he (hb s [u] I.kIn hlen) (.cons ru .nil)
    ⟨hlen2, G, [d], kd, sg, .cons r .nil, hk, fun v G' H' w rz => ⟨G', w, rz⟩⟩) fun r s' hq => ?_)
  cases r with
  | error e => exact hq.elim
  | ok fl =>
    cases fl with
    | ret u' =>
      obtain ⟨v, H', I', rv, G', w, rz⟩ := I.after hq
      exact ⟨v, G', H', I', w, rz, rv⟩
    | next => exact False.elim hq
    | brk => exact False.elim hq
    | cont => exact False.elim hq
theorem keys_of {h : Heap} {W : Wd} {key : D → Int × Str} {P : Program} {w : World} (sg : Same G H) (hok : HOk P w H h) : ∀ {ds : List D} {ks : List V} {kl : List Value}, Reps W G (ds.map fun d => kD (key d)) ks → Vals ks kl → Paired (fun d v => IsKey h v (key d)) ds kl
  | [], _, _, r, rv => by
    cases r
    cases rv
    exact .nil
  | d :: ds, _, _, r, rv => by
    cases r with
    | cons r1 r2 =>
      cases rv with
      | cons v1 v2 =>
        refine .cons ?_ (keys_of sg hok r2 v2)
        cases r1 with
        | tup h1 h2 =>
          cases h2 with
          | cons a1 a2 =>
            cases a1
            cases a2 with
            | cons b1 b2 =>
              cases b1
              cases b2
              cases v1
              obtain ⟨_, its2, r2, o, ho, hc, n, hd⟩ := hok _ _ (sg _ _ h1)
              obtain ⟨u1, u2, rfl, ri, rj⟩ := vals2 r2
              obtain ⟨t1, rfl⟩ := ri
              obtain ⟨t2, rfl⟩ := rj
              exact ⟨_, o, t1, t2, n, rfl, ho, hc, hd⟩
theorem quads {h : Heap} {W : Wd} {key : D → Int × Str} : ∀ {ds : List D} {xs : List V} {its kl : List Value}, Reps W G ds xs → Vals xs its → Paired (fun d v => IsKey h v (key d)) ds kl →
    ∃ L : List (D × V × Value × Value), L.map (·.1) = ds ∧ L.map (fun t => (t.2.2.2, t.2.2.1)) = kl.zip its ∧ ∀ t ∈ L, Rep W G t.1 t.2.1 ∧ RelV t.2.1 t.2.2.1 ∧ IsKey h t.2.2.2 (key t.1)
  | [], _, _, _, r, rv, pk => by
    cases r
    cases rv
    cases pk
    exact ⟨[], rfl, rfl, fun t ht => by cases ht⟩
  | d :: ds, _, _, _, r, rv, pk => by
    cases r with
    | cons r1 r2 =>
      rename_i x xs
      cases rv with
      | cons v1 v2 =>
        rename_i i its
        cases pk with
        | cons p1 p2 =>
          rename_i kv kl
          obtain ⟨L, e1, e2, e3⟩ := quads r2 v2 p2
          refine ⟨(d, x, i, kv) :: L, by rw [List.map_cons, e1], by rw [List.map_cons, e2]; rfl, fun t ht => ?_⟩
          rcases List.mem_cons.mp ht with rfl | ht
          · exact ⟨r1, v1, p1⟩
          · exact e3 t ht
end
end DV
end

set_option Elab.async false
set_option linter.all false
set_option maxRecDepth 100000
set_option maxHeartbeats 4000000
/-! DVt: the run of sorted(xs, key=own def). -/
noncomputable section
namespace DV
open PySem PySem.Spec PyProof.Rows L2
section
variable {X : Cx} {k : Nat} {f : Addr} {fd : FuncData} {ps : List Str} {Ff : List D → Option D} {pins : List (Addr × Obj)} {σ : L2.St} {G H : Hp} {s : Shared}
/-- behind the keys: the order is made, the list is filled -/
theorem end_run {E : Value → Shared → Prop} {P : PySem.Fin → Shared → Prop} {A' : Around} {ds : List D} {xs : List V} {its : List Value} {ks : List V} {kA : Array Value} {e e1 : Nat} {a kS : Addr} {out : D} {Q : VK}
    (I : L2.Inv X (pins ++ [(kS, seqObj "list" kA e), (a, seqObj "list" #[] e1)]) σ H s) (sg : Same G H) (r : Reps X.wd G ds xs) (rv : Vals xs its) (hz : its.length ≤ sizeLine)
    (hka : kS ≠ a) (fk : FpOk X pins H kS) (fa : FpOk X pins H a) (rk : Reps X.wd G (ds.map fun d => kD (keyO Ff d)) ks) (vk : Vals ks kA.toList) (hs : sortKF Ff (.list ds) = some out)
    (q : ∀ z G' H', DV.Gw G H G' H' → Rep X.wd G' out z → Q z H') (hP : ∀ s', EP X pins σ Q (.ref a) s' → P (.done (.ret .none)) s') :
    wpAny (model X.prog X.w) A' (ksk_end a false its.toArray e1 (.ref kS) kA) P E s := by
  have nk := (I.pin (kS, seqObj "list" kA e) (by simp)).1
  have na := (I.pin (a, seqObj "list" #[] e1) (by simp)).1
  have pk := keys_of (key := keyO Ff) sg I.hok rk vk
  obtain ⟨L, l1, l2, l3⟩ := quads r rv pk
  have hkl : kA.toList.length = its.length := by
    have h1 := vk.length
    have h2 := rk.length
    have h3 := r.length
    have h4 := rv.length
    simp at h2
    simp at h1 ⊢
    omega
  have hks : ∀ v ∈ kA.toList, ∃ p, IsKey s.heap v p := fun v hv => by
    obtain ⟨i, hi, e⟩ := List.getElem_of_mem hv
    have : (v, its[i]'(by omega)) ∈ L.map (fun t => (t.2.2.2, t.2.2.1)) := by
      rw [l2]
      have : (kA.toList.zip its)[i]'(by simp; simp at hi hkl; omega) = (v, its[i]'(by omega)) := by
        rw [List.getElem_zip, e]
      rw [← this]
      exact List.getElem_mem _
    obtain ⟨t, ht, et⟩ := List.mem_map.mp this
    obtain ⟨_, _, z⟩ := l3 t ht
    have et1 : t.2.2.2 = v := congrArg Prod.fst et
    rw [et1] at z
    exact ⟨_, z⟩
  haveI : Nonempty (Int × Str) := ⟨(0, Str.empty)⟩
  let kf : Value → Int × Str := fun v => Classical.epsilon fun p => IsKey s.heap v p
  have kf_eq : ∀ {v p}, IsKey s.heap v p → kf v = p := fun {v p} z => IsKey.uniq (Classical.epsilon_spec (p := fun p => IsKey s.heap v p) ⟨p, z⟩) z
  have hks' : ∀ v ∈ kA.toList, IsKey s.heap v (kf v) := fun v hv => by
    obtain ⟨p, z⟩ := hks v hv
    rw [kf_eq z]
    exact z
  have O : SrtO.Swo (SrtO.lt2 fun v u => kLt (kf v) (kf u)) := SrtO.swo2 (kLt_swo kf)
  have hzip : (kA.zip its.toArray).toList = kA.toList.zip its := ksk_zip kA its
  have hsz : kA.size = its.length := by simpa using hkl
  -- the end, whatever the sort's state
  have fin : ∀ st : SortSt, SrtO.Srtd (SrtO.lt2 fun v u => kLt (kf v) (kf u)) (arrOf st).toList → (arrOf st).toList.Perm (kA.zip its.toArray).toList → failedOf st = none →
      wpAny (model X.prog X.w) A' (ksk_tail a false e1 (.ref kS) st) P E s := fun st hs1 hs2 hfl => by
    rw [hzip, ← l2] at hs2
    obtain ⟨L', p1, p2⟩ := perm_lift (fun t : D × V × Value × Value => (t.2.2.2, t.2.2.1)) hs2 L rfl
    have l3' : ∀ t ∈ L', Rep X.wd G t.1 t.2.1 ∧ RelV t.2.1 t.2.2.1 ∧ IsKey s.heap t.2.2.2 (keyO Ff t.1) := fun t ht => l3 t (p1.mem_iff.mp ht)
    have eout : ((arrOf st).map (·.2)).toList = L'.map (·.2.2.1) := by
      rw [Array.toList_map, ← p2, List.map_map]
      rfl
    have elen : L'.length = its.length := by
      have h1 := p1.length_eq
      have h2 := congrArg List.length l1
      have h3 := r.length
      have h4 := rv.length
      simp at h2
      omega
    have rp : ∀ M : List (D × V × Value × Value), (∀ t ∈ M, Rep X.wd G t.1 t.2.1 ∧ RelV t.2.1 t.2.2.1 ∧ IsKey s.heap t.2.2.2 (keyO Ff t.1)) → Reps X.wd G (M.map (·.1)) (M.map (·.2.1)) ∧ Vals (M.map (·.2.1)) (M.map (·.2.2.1)) := by
      intro M
      induction M with
      | nil => exact fun _ => ⟨.nil, .nil⟩
      | cons t M ih =>
        intro h
        obtain ⟨h1, h2⟩ := ih fun t ht => h t (List.mem_cons_of_mem _ ht)
        obtain ⟨g1, g2, _⟩ := h t List.mem_cons_self
        exact ⟨.cons g1 h1, .cons g2 h2⟩
    obtain ⟨rr, rvv⟩ := rp L' l3'
    have eo : out = .list (L'.map (·.1)) := by
      obtain ⟨_, hc2, rfl⟩ := sortKF_some hs
      rw [sortK_spec hc2 (l := L'.map (·.1)) (by rw [← l1]; exact p1.map _) ?_]
      rw [List.pairwise_map]
      rw [← p2] at hs1
      have hs1' := List.pairwise_map.mp hs1
      refine List.Pairwise.imp_of_mem (fun {x y} hx hy z => ?_) hs1'
      have z' : kLt (kf y.2.2.2) (kf x.2.2.2) = false := z
      rw [kf_eq (l3' y hy).2.2, kf_eq (l3' x hx).2.2] at z'
      exact z'
    have s1 := Heap.SameBut.update s.heap kS (Obj.mapSeq fun _ => (#[] : Array Value))
    have na1 : (s.heap.update kS (Obj.mapSeq fun _ => (#[] : Array Value))).get? a = some (seqObj "list" #[] e1) := (s1.2 a hka.symm).trans na
    have s2 := Heap.SameBut.update (s.heap.update kS (Obj.mapSeq fun _ => (#[] : Array Value))) a (Obj.mapSeq fun _ => (arrOf st).map (·.2))
    obtain ⟨c2, hc2⟩ : ∃ c2, ((s.heap.update kS (Obj.mapSeq fun _ => (#[] : Array Value))).update a (Obj.mapSeq fun _ => (arrOf st).map (·.2))).get? a = some (seqObj "list" ((arrOf st).map (·.2)) c2) :=
      ⟨_, get?_update_seq na1 fun _ => (arrOf st).map (·.2)⟩
    have hout : ((arrOf st).map (·.2)).size = its.length := by
      have := congrArg List.length eout
      simp at this
      simp
      omega
    unfold ksk_tail
    try dsimp only
    refine wpAny_bind (listUpdate_at nk rfl ?_ (by rw [hsz]; exact hz) (Nat.zero_le _))
    refine wpAny_bind (wpAny_letGo ?_)
    refine wpAny_bind (seqEpoch_at na1 rfl ?_)
    refine wpAny_bind (listUpdate_at na1 rfl ?_ (Nat.zero_le _) (Nat.le_trans (Nat.le_of_eq hout) (Nat.le_succ_of_le hz)))
    rw [hfl]
    simp only [bne_self_eq_false, Bool.false_eq_true, if_false]
    refine wpAny_pure (hP _ ?_)
    have I1 : L2.Inv X pins σ H s := I.unpinned
    have I2 : L2.Inv X pins σ H { s with heap := s.heap.update kS (Obj.mapSeq fun _ => (#[] : Array Value)) } := I1.turned (t' := s.toks) (it := kS) (fun b o hb ho => (s1.2 b hb).trans ho) fk.1 fk.2.1 fk.2.2.2.1 fk.2.2.2.2.1 fk.2.2.2.2.2
    have I3 := I2.take (t' := s.toks) (it := a) (o := .lst (L'.map (·.2.1))) (fun b ob hb ho => (s2.2 b hb).trans ho) fa ⟨by simpa [elen] using hz, L'.map (·.2.2.1), c2, rvv, by
      rw [← eout]
      exact hc2⟩
    refine ⟨.ref a, _, I3, rfl, ?_⟩
    refine fin_lst sg rr (fun z G' H' w rz => q z G' H' w (by rw [eo]; exact rz)) a fa.1
  unfold ksk_end
  try dsimp only
  simp only [Bool.false_eq_true, if_false]
  by_cases h2 : its.toArray.size < 2
  · rw [if_pos h2, if_pos h2]
    refine wpAny_bind (wpAny_pure ?_)
    rw [StateT.run_pure]
    refine wpAny_bind (wpAny_pure ?_)
    try dsimp only
    refine fin (SortSt.mk' general' (kA.zip its.toArray) #[] 7 none) ?_ (List.Perm.refl _) rfl
    show SrtO.Srtd _ (kA.zip its.toArray).toList
    have : (kA.zip its.toArray).toList.length < 2 := by
      rw [List.size_toArray] at h2
      rw [hzip, List.length_zip]
      omega
    match (kA.zip its.toArray).toList, this with
    | [], _ => exact List.Pairwise.nil
    | [v], _ => exact List.pairwise_singleton _ _
    | _ :: _ :: l, h => exact absurd h (by rw [List.length_cons, List.length_cons]; omega)
  · rw [if_neg h2, if_neg h2]
    rw [List.size_toArray] at h2
    have hk0 : 0 < kA.toList.length := by omega
    have hkk : ∀ (Q : SortKind → Shared → Prop) (E : Value → Shared → Prop), Q (tuples' true) s → wpAny (model X.prog X.w) A' (keyKind' kA) Q E s := fun Q E hq => by
      have := key_kind (prog := X.prog) (w := X.w) (A := A') (E := E) hk0 hks hq
      simpa using this
    refine wpAny_bind (hkk _ _ ?_)
    refine wpAny_bind (wpAny_mono (SrtO.wpS_sortO (st0 := SortSt.mk' (tuples' true) (kA.zip its.toArray) #[] 7 none)
      (Q := fun _ st' => SrtO.Srtd (SrtO.lt2 fun v u => kLt (kf v) (kf u)) (arrOf st').toList ∧ (arrOf st').toList.Perm (kA.zip its.toArray).toList ∧ failedOf st' = none) O (key_cmp hks') rfl (fun p hm => ?_) rfl rfl fun st' a1 a2 a3 => ⟨a1, a2.perm, a3⟩) ?_ fun _ _ e => e)
    · have hm' : p ∈ kA.toList.zip its := by rw [← hzip]; exact hm
      exact (List.of_mem_zip (a := p.1) (b := p.2) hm').1
    · rintro ⟨⟨⟩, st'⟩ s' ⟨rfl, hp1, hp2, hf⟩
      try dsimp only
      exact fin st' hp1 hp2 hf
end
end DV
end

set_option Elab.async false
set_option linter.all false
set_option maxRecDepth 100000
set_option maxHeartbeats 4000000
/-! DVu: sorted(xs, key=own def), the rule. -/
noncomputable section
namespace DV
open PySem PySem.Spec PyProof.Rows L2
section
variable {X : Cx} {k : Nat} {f : Addr} {fd : FuncData} {ps : List Str} {Ff : List D → Option D} {pins : List (Addr × Obj)} {σ : L2.St} {G H : Hp} {s : Shared}
theorem sort_in {A' : Around} {E : Value → Shared → Prop} {P : PySem.Fin → Shared → Prop} {ds : List D} {xs : List V} {its : List Value} {a : Addr} {n : Nat} {out : D} {Q : VK}
    (F : FnOk X.prog X.w X.K X.mg X.base CX0 k f fd ps (spD X.wd ps.length Ff)) (hb : Binds X.K fd ps []) (hl : ∀ ds d, Ff ds = some d → ds.length = ps.length) (hr : Room k A')
    (he : ∀ s' H', Env0 X.prog X.w X.K X.mg X.base X.A X.stack s' H' → Env0 X.prog X.w X.K X.mg X.base A' X.stack s' H')
    (I : L2.Inv X pins σ H s) (sg : Same G H) (r : Reps X.wd G ds xs) (rv : Vals xs its) (hz : its.length ≤ sizeLine) {h1 : Heap} (kp : ∀ b o, s.heap.get? b = some o → h1.get? b = some o) (ha : s.heap.objs.size ≤ a)
    (ho : h1.get? a = some (seqObj "list" its.toArray n)) (hs : sortKF Ff (.list ds) = some out)
    (q : ∀ z G' H', DV.Gw G H G' H' → Rep X.wd G' out z → Q z H') (hP : ∀ s', EP X pins σ Q (.ref a) s' → P (.done (.ret .none)) s') :
    wpAny (model X.prog X.w) A' (Builtin.«list.sort» ⟨[.ref a], [(Str.ofString "key", .ref f)]⟩) P E { s with heap := h1 } := by
  obtain ⟨hc1, hc2, eout⟩ := sortKF_some hs
  rw [ksk_t1]
  have ha1 : a < h1.objs.size := Heap.lt_size ho
  have s1 := Heap.SameBut.update h1 a (Obj.mapSeq fun _ => (#[] : Array Value))
  obtain ⟨e1, ho1⟩ : ∃ e1, (h1.update a (Obj.mapSeq fun _ => (#[] : Array Value))).get? a = some (seqObj "list" #[] e1) := ⟨_, get?_update_seq ho fun _ => #[]⟩
  have hkS : ((h1.update a (Obj.mapSeq fun _ => (#[] : Array Value))).push (seqObj "tuple" its.toArray 0)).objs.size = h1.objs.size + 1 := by rw [size_push', Heap.size_update]
  have hsz1 : s.heap.objs.size ≤ h1.objs.size := Nat.le_trans ha (Nat.le_of_lt ha1)
  unfold ksk_tree
  refine wpAny_bind (listItems_at ho rfl ?_)
  refine wpAny_bind (listUpdate_at ho rfl ?_ (by rw [List.size_toArray]; exact hz) (Nat.zero_le _))
  refine wpAny_bind (seqEpoch_at ho1 rfl ?_)
  refine wpAny_bind (wpAny_newTuple ?_ (by show its.length ≤ _; exact hz))
  refine wpAny_bind (wpAny_newList ?_ (Nat.zero_le _))
  refine wpAny_holding ?_
  -- the heap in which the keys are asked for
  let hB : Heap := ((h1.update a (Obj.mapSeq fun _ => (#[] : Array Value))).push (seqObj "tuple" its.toArray 0)).push (seqObj "list" #[] 0)
  let kS : Addr := ((h1.update a (Obj.mapSeq fun _ => (#[] : Array Value))).push (seqObj "tuple" its.toArray 0)).objs.size
  have kpB : ∀ b o, s.heap.get? b = some o → hB.get? b = some o := fun b o z => by
    have hb : b ≠ a := Nat.ne_of_lt (Nat.lt_of_lt_of_le (Heap.lt_size z) ha)
    exact Heap.get?_push_of_some _ (Heap.get?_push_of_some _ ((s1.2 b hb).trans (kp b o z)))
  have hoB : hB.get? a = some (seqObj "list" #[] e1) := Heap.get?_push_of_some _ (Heap.get?_push_of_some _ ho1)
  have hkB : hB.get? kS = some (seqObj "list" #[] 0) := Heap.get?_push_size _ rfl
  have hkge : s.heap.objs.size ≤ kS := by
    show _ ≤ ((h1.update a (Obj.mapSeq fun _ => (#[] : Array Value))).push (seqObj "tuple" its.toArray 0)).objs.size
    rw [hkS]; omega
  have hka : kS ≠ a := by
    show ((h1.update a (Obj.mapSeq fun _ => (#[] : Array Value))).push (seqObj "tuple" its.toArray 0)).objs.size ≠ a
    rw [hkS]
    exact Nat.ne_of_gt (Nat.lt_succ_of_lt ha1)
  have IB0 : L2.Inv X pins σ H { s with heap := hB } := I.kept (t' := s.toks) kpB
  have nl : ∀ b, s.heap.objs.size ≤ b → H b = none ∧ b ≠ X.env.locals ∧ b ∉ X.fs := fun b hb' => ⟨I.hok.fresh hb', Nat.ne_of_gt (Nat.lt_of_lt_of_le I.lt hb'), I.nofs hb'⟩
  have fk0 : FpOk X pins H kS := I.fpOk hkge (nl kS hkge).1
  have fa0 : FpOk X pins H a := I.fpOk ha (nl a ha).1
  have repin : ∀ {H' : Hp} {s' : Shared} {kA : Array Value} {e : Nat}, L2.Inv X pins σ H' s' → s'.heap.get? kS = some (seqObj "list" kA e) → s'.heap.get? a = some (seqObj "list" #[] e1) → H' kS = none → H' a = none → L2.Inv X (pins ++ [(kS, seqObj "list" kA e), (a, seqObj "list" #[] e1)]) σ H' s' := fun {H' s' kA e} I' g1 g2 n1 n2 => I'.pins_of fun p hp => by
    rcases List.mem_append.mp hp with hp | hp
    · exact I'.pin p (List.mem_append_right _ hp)
    · rcases List.mem_cons.mp hp with rfl | hp
      · exact ⟨g1, n1, (nl kS hkge).2.1, (nl kS hkge).2.2, fun v z => by cases z⟩
      · rw [List.mem_singleton.mp hp]
        exact ⟨g2, n2, (nl a ha).2.1, (nl a ha).2.2, fun v z => by cases z⟩
  have fp' : ∀ {H' : Hp} {b : Addr}, FpOk X pins H b → H' b = none → FpOk X pins H' b := fun {H' b} z n => ⟨n, z.2⟩
  show wpAny (model X.prog X.w) A' (ksk_rest a (.ref f) false its.toArray e1 (.ref kS)) P E { s with heap := hB }
  unfold ksk_rest
  refine wpAny_bind (wpAny_rule ?_)
  first
    | rw [List.forIn_toArray]
    | (rw [← Array.forIn_toList]; simp only [List.toList_toArray])
    | rw [← Array.forIn_toList]
  refine wpAny_bind (ksk_fold (fun i s' => ∃ G' H' kA e ks, L2.Inv X (pins ++ [(kS, seqObj "list" kA e), (a, seqObj "list" #[] e1)]) σ H' s' ∧ DV.Gw G H G' H' ∧ Reps X.wd G' ((ds.take i).map fun d => kD (keyO Ff d)) ks ∧ Vals ks kA.toList) its 0 _
    ⟨G, H, #[], 0, [], repin IB0 hkB hoB (nl kS hkge).1 (nl a ha).1, DV.Gw.refl sg, .nil, .nil⟩ ?step ?done)
  case step =>
    rintro j u s' hu ⟨G', H', kA, e, ks, I', gw, rk, vk⟩
    simp only [Nat.zero_add] at rk ⊢
    have hj : j < its.length := (List.getElem?_eq_some_iff.mp hu).1
    have hjd : j < ds.length := by rw [r.length, rv.length]; exact hj
    obtain ⟨xv, hx, rx⟩ := r.get (List.getElem?_eq_getElem hjd)
    obtain ⟨u', hu', ru⟩ := rv.get hx
    rw [hu] at hu'
    cases hu'
    have hkA : kA.size ≤ j := by
      have h1 := vk.length
      have h2 := rk.length
      simp at h1 h2
      omega
    refine wpAny_bind (wpAny_attempt (wpAny_mono (call_in (E := fun _ _ => False) F hb hl hr (he s' H' I'.env0) I' gw.gh (rx.mono gw.g) ru (hc1 _ (List.getElem_mem hjd))) (fun v s'' hv => ?_) fun _ _ hF => hF.elim))
    obtain ⟨kv, G2, H2, I2, gw2, rk2, rv2⟩ := hv
    try dsimp only
    have nk := I2.pin (kS, seqObj "list" kA e) (by simp)
    have na := I2.pin (a, seqObj "list" #[] e1) (by simp)
    have t1 := Heap.SameBut.update s''.heap kS (Obj.mapSeq (·.push v))
    obtain ⟨c2, hc2'⟩ : ∃ c2, (s''.heap.update kS (Obj.mapSeq (·.push v))).get? kS = some (seqObj "list" (kA.push v) c2) := ⟨_, get?_update_seq nk.1 (·.push v)⟩
    have ea : (kA.push v).toList = kA.toList ++ [v] := by simp
    have ed : (ds.take (j + 1)).map (fun d => kD (keyO Ff d)) = (ds.take j).map (fun d => kD (keyO Ff d)) ++ [kD (keyO Ff ds[j])] := by
      rw [List.take_add_one, List.getElem?_eq_getElem hjd, List.map_append]
      rfl
    refine wpAny_bind (listUpdate_at nk.1 rfl ?_ (by omega) (Nat.le_trans (Nat.le_of_eq (Array.size_push ..)) (by omega)))
    have I3 : L2.Inv X pins σ H2 { s'' with heap := s''.heap.update kS (Obj.mapSeq (·.push v)) } := I2.unpinned.turned (t' := s''.toks) (it := kS) (fun b o hb ho => (t1.2 b hb).trans ho) nk.2.1 fk0.2.1 fk0.2.2.2.1 fk0.2.2.2.2.1 fk0.2.2.2.2.2
    refine wpAny_pure ⟨rfl, G2, H2, kA.push v, c2, ks ++ [kv], repin I3 hc2' ((t1.2 a hka.symm).trans na.1) nk.2.1 na.2.1, gw.trans gw2, ?_, ?_⟩
    · rw [ed]
      exact (rk.mono gw2.g).snoc rk2
    · rw [ea]
      exact vk.append (.cons rv2 .nil)
  case done =>
    rintro s' ⟨G', H', kA, e, ks, I', gw, rk, vk⟩
    rw [List.take_of_length_le (by rw [r.length, rv.length]; omega)] at rk
    have nk := I'.pin (kS, seqObj "list" kA e) (by simp)
    have na := I'.pin (a, seqObj "list" #[] e1) (by simp)
    try dsimp only
    refine wpAny_bind (listItems_at nk.1 rfl ?_)
    exact end_run I' gw.gh (r.mono gw.g) rv hz hka (fp' fk0 nk.2.1) (fp' fa0 na.2.1) rk vk hs (fun z G2 H2 w rz => q z G2 H2 (gw.trans w) rz) hP
end
end DV
end

set_option Elab.async false
set_option linter.all false
set_option maxRecDepth 100000
set_option maxHeartbeats 4000000
/-! DVv: sorted(xs, key=own def) as a rule of data. -/
noncomputable section
namespace DV
open PySem PySem.Spec PyProof.Rows L2
def rSortK (W : Wd) (f : Addr) (Ff : List D → Option D) : List V → List V → Hp → VK → Prop := fun vs zs H Q => ∃ (la : V) (G : Hp) (d out : D), vs = [la] ∧ zs = [V.ref f] ∧ Same G H ∧ Bor W G H d la ∧ sortKF Ff d = some out ∧ ∀ z G' H', DV.Gw G H G' H' → Rep W G' out z → Q z H'
section
variable {X : Cx} {k : Nat} {f : Addr} {fd : FuncData} {ps : List Str} {Ff : List D → Option D}
theorem cr_sortK (F : FnOk X.prog X.w X.K X.mg X.base CX0 k f fd ps (spD X.wd ps.length Ff)) (hb : Binds X.K fd ps []) (hl : ∀ ds d, Ff ds = some d → ds.length = ps.length) (hr : Room (k + 2) X.A) :
    CallRK X (.builtin "sorted") [Str.ofString "key"] (rSortK X.wd f Ff) := by
  intro pins s σ H vs zs us ws Q I rv rz h
  obtain ⟨la, G, d, out, rfl, rfl, sg, b, hs, q⟩ := h
  obtain ⟨ds, rfl⟩ : ∃ ds, d = .list ds := by
    unfold sortKF at hs
    split at hs
    · exact ⟨_, rfl⟩
    · cases hs
  obtain ⟨l, xs, rfl, h1, r1⟩ := b.lst' sg
  obtain rfl := Vals.ref1 rv
  obtain ⟨w1, rfl, e1⟩ := vals1 rz
  obtain rfl : w1 = Value.ref f := e1
  obtain ⟨its, ri, hl', hz⟩ := I.list (SqL.of h1)
  have hz' : its.length ≤ sizeLine := by rw [← ri.length]; exact hz
  show wpAny (model X.prog X.w) X.A (call (.builtin "sorted") [.ref l] [(Str.ofString "key", .ref f)]) (EP X pins σ Q) X.xe s
  refine call_function_entry_kw kind_sorted plain_sorted entry_sorted (PyProof.Rows.ksk_s1 _ _) ?_
  unfold Builtin.«sorted»
  refine wpAny_bind (m := checkCount "sorted" 1 1 _) (wpAny_pure ?_)
  refine wpAny_bind (collect_list hl'.isList ?_ hz')
  refine wpAny_bind (wpAny_newList ?_ hz')
  have hsz : ((s.heap.push (seqObj "list" #[] 0)).update s.heap.objs.size (Obj.mapSeq (· ++ its.toArray))).objs.size = s.heap.objs.size + 1 := by
    rw [Heap.size_update, size_push']
  have hoL : (((s.heap.push (seqObj "list" #[] 0)).update s.heap.objs.size (Obj.mapSeq (· ++ its.toArray))).push (seqObj "list" its.toArray 0)).get? (s.heap.objs.size + 1) = some (seqObj "list" its.toArray 0) := by
    rw [← hsz]; exact Heap.get?_push_size _ rfl
  have keep : ∀ b o, s.heap.get? b = some o → (((s.heap.push (seqObj "list" #[] 0)).update s.heap.objs.size (Obj.mapSeq (· ++ its.toArray))).push (seqObj "list" its.toArray 0)).get? b = some o := fun b o q => by
    have hlt : b < s.heap.objs.size := Heap.lt_size q
    rw [Heap.get?_push_ne _ _ _ (by rw [hsz]; exact Nat.ne_of_lt (Nat.lt_succ_of_lt hlt)), Heap.get?_update_ne _ _ _ _ (Nat.ne_of_lt hlt), Heap.get?_push_ne _ _ _ (Nat.ne_of_lt hlt)]
    exact q
  show wpAny _ _ _ _ _ { s with heap := ((s.heap.push (seqObj "list" #[] 0)).update s.heap.objs.size (Obj.mapSeq (· ++ its.toArray))).push (seqObj "list" its.toArray 0) }
  rw [hsz]
  refine wpAny_bind (wpAny_holding (wpAny_call_entry_kw slot_list_sort ⟨_, hoL, rfl⟩ entry_list_sort ?body (PyProof.Rows.ksk_l1 _ _)))
  case body =>
    show wpAny (model X.prog X.w) X.A.in1.in1 (Builtin.«list.sort» ⟨[.ref (s.heap.objs.size + 1)], [(Str.ofString "key", .ref f)]⟩) _ _ _
    refine sort_in F hb hl hr.in1.in1 (fun s' H' e => e.in1.in1) I sg r1 ri hz' keep (Nat.le_succ _) hoL hs q fun s' hq => ⟨_, rfl, ?_⟩
    exact wpAny_pure ⟨_, rfl, hq⟩
end
section
variable {X : Cx} {k : Nat} {fn x : Str} {p p' pos kpos : Pos} {e : Expr} {es : List Expr} {L : FL} {Ff : List D → Option D}
def sortF (Ff : List D → Option D) : List D → Option D
  | [d] => sortKF Ff d
  | _ => none
theorem f_sortK (F : DefD X.prog X.w X.K X.mg X.base k fn Ff) (hr : Room (k + 2) X.A) (hm : X.mg "sorted" = none) (ha : PAB X [e] L) (hgf : Gl X fn := by rfl) (hd : (fn == ("__debug__" : Str)) = false := by decide)
    (hg : Gl X "sorted" := by rfl) (hv : bootBuiltins "sorted" = some (.builtin "sorted") := by decide +kernel)
    (he : backTo pos (starEach [e] X.env) = (false, eval e X.env) :: backTo pos (starEach [] X.env) := by rfl) (hpl : (backTo pos (starEach [e] X.env)).any (·.1) = false := by rfl)
    (hall : (backToKw pos (keywordEach [⟨some "key", .Name fn p', kpos⟩] X.env)).all (·.1.isSome) = true := by rfl) (hnone : (backToKw pos (keywordEach [⟨some "key", .Name fn p', kpos⟩] X.env)).any (·.1.isNone) = false := by rfl)
    (hks : (backToKw pos (keywordEach [⟨some "key", .Name fn p', kpos⟩] X.env)).filterMap (·.1) = [Str.ofString "key"] := by rfl) :
    PF X (.Call (.Name "sorted" p) [e] [⟨some "key", .Name fn p', kpos⟩] pos) (eCall (sortF Ff) L) := by
  obtain ⟨f, fd, ps, F, hmf, hk, hb, hl⟩ := F.ex
  refine PE.weak (pe_callBK (cr_sortK F hb hl hr) hg hm hv ha (pk_cons (pe_glob (v := V.ref f) hgf hmf rfl hd) pk_nil) (by decide) (by decide) he hpl hall hnone hks) fun σ H Q ⟨B, G, ρ, d, r, q, z⟩ => ?_
  obtain ⟨ds, hd', q⟩ := Option.bind_eq_some_iff.mp q
  refine ⟨B, G, ρ, ds, r, hd', fun vs G1 H1 w1 bs => ?_⟩
  unfold sortF at q
  split at q
  · obtain ⟨v, rfl, b⟩ := bs.one
    exact ⟨v, G1, _, d, rfl, rfl, w1.gh, b, q, fun z' G2 H2 w2 rz => z z' G2 H2 (w1.trans w2) rz⟩
  · cases q
end
end DV
end

set_option Elab.async false
set_option linter.all false
set_option maxRecDepth 100000
/-! DVw: tests by a written tuple of the module. -/
noncomputable section
namespace DV
open PySem PySem.Spec PyProof.Rows L2
section
variable {X : Cx} {pos : Pos}
theorem t_ninG {x : Str} {ks : List Str} {a : Expr} {Fa : FE} {p : Pos} (ha : PB X a Fa) (T : KTup X.K X.mg x ks) (hg : Gl X x) (hd : (x == ("__debug__" : Str)) = false := by decide) (hm : behindInMarks .NotIn (.Name x p) = false := by with_unfolding_all rfl) :
    PTD X (.Compare a [.NotIn] [.Name x p] pos) (toT (o1 (ninC ks) Fa)) := by
  obtain ⟨t, o, its, n, h1, h2, h3, h4, h5, h6⟩ := T.ex
  refine PT.weak (pt_cmpR op_notIn_seq ha (pe_glob (v := V.ref t) hg h1 rfl hd) hm) fun σ H Q ⟨B, G, ρ, c, r, k, q⟩ => ?_
  obtain ⟨d, hd', k⟩ := Option.bind_eq_some_iff.mp k
  obtain ⟨y, hy, hd'⟩ := Option.bind_eq_some_iff.mp hd'
  refine ⟨B, G, ρ, y, r, hy, fun v G1 H1 w1 b1 => ?_⟩
  unfold ninC at hd'
  split at hd'
  · cases hd'
    cases k
    cases b1.str'
    refine ⟨t, ks.map V.str, rfl, .inr (.inr ⟨o, its, n, h2, h3, h4, h5, h6⟩), rfl, ?_, ?_⟩
    · simp [flatV]
    · rw [inV_strs]
      exact ⟨_, rfl, q G1 H1 w1⟩
  · cases hd'
end
end DV
end

set_option Elab.async false
set_option linter.all false
set_option maxRecDepth 100000
/-! DVx: dicts whose keys are nested tuples (kind N): the keys. -/
noncomputable section
namespace DV
open PySem PySem.Spec PyProof.Rows L2
mutual
def nkO : D → Option NestedKey
  | .none => some .none
  | .int i => some (.num i)
  | .str x => some (.text x)
  | .tuple ds => (nkOs ds).map .tup
  | _ => none
def nkOs : List D → Option (List NestedKey)
  | [] => some []
  | d :: ds => (nkO d).bind fun k => (nkOs ds).map fun ks => k :: ks
end
mutual
theorem nkO_some : ∀ (d : D) (k : NestedKey), nkO d = some k → d = nkD k
  | .none, k, h => by cases h; rfl
  | .int i, k, h => by cases h; rfl
  | .str x, k, h => by cases h; rfl
  | .tuple ds, k, h => by
    obtain ⟨ks, hk, rfl⟩ := Option.map_eq_some_iff.mp h
    rw [nkOs_some ds ks hk]
    rfl
  | .bool _, _, h => by cases h
  | .list _, _, h => by cases h
  | .dict _, _, h => by cases h
theorem nkOs_some : ∀ (ds : List D) (ks : List NestedKey), nkOs ds = some ks → ds = nkDs ks
  | [], ks, h => by cases h; rfl
  | d :: ds, ks, h => by
    obtain ⟨k, hk, h⟩ := Option.bind_eq_some_iff.mp h
    obtain ⟨ks', hks, rfl⟩ := Option.map_eq_some_iff.mp h
    rw [nkO_some d k hk, nkOs_some ds ks' hks]
    rfl
end
mutual
theorem keq_nk : ∀ (a b : NestedKey), keq (nkD a) (nkD b) = decide (a = b)
  | .none, b => by cases b <;> simp [nkD, keq]
  | .num i, b => by cases b <;> simp [nkD, keq]
  | .text x, b => by cases b <;> simp [nkD, keq]
  | .tup ks, b => by
    cases b with
    | tup ls =>
      rw [nkD, nkD, keq, keqs_nk ks ls, Bool.eq_iff_iff]
      simp
    | _ => simp [nkD, keq]
theorem keqs_nk : ∀ (a b : List NestedKey), keqs (nkDs a) (nkDs b) = decide (a = b)
  | [], [] => by simp [nkDs, keqs]
  | [], _ :: _ => by simp [nkDs, keqs]
  | _ :: _, [] => by simp [nkDs, keqs]
  | a :: as, b :: bs => by
    rw [nkDs, nkDs, keqs, keq_nk a b, keqs_nk as bs, Bool.eq_iff_iff]
    simp
end
section
variable {W : Wd} {G H : Hp} {P : Program} {w : World} {h : Heap}
mutual
theorem nk_is (sg : Same G H) (hok : HOk P w H h) : ∀ (k : NestedKey) (v : V) (u : Value), Rep W G (nkD k) v → RelV v u → NestedIs h k u
  | .none, v, u, r, rv => by
    cases r
    cases rv
    exact .none
  | .num i, v, u, r, rv => by
    cases r
    obtain ⟨t, rfl⟩ := rv
    exact .int i t
  | .text x, v, u, r, rv => by
    cases r
    obtain ⟨t, rfl⟩ := rv
    exact .text x t
  | .tup ks, v, u, r, rv => by
    cases r with
    | tup h1 h2 =>
      cases rv
      obtain ⟨_, its, r2, o, ho, hc, n, hd⟩ := hok _ _ (sg _ _ h1)
      exact .tup ho hc hd (nks_is sg hok ks _ _ h2 (by simpa using r2))
theorem nks_is (sg : Same G H) (hok : HOk P w H h) : ∀ (ks : List NestedKey) (vs : List V) (us : List Value), Reps W G (nkDs ks) vs → Vals vs us → NestedAll h ks us
  | [], vs, us, r, rv => by
    cases r
    cases rv
    exact .nil
  | k :: ks, vs, us, r, rv => by
    cases r with
    | cons r1 r2 =>
      cases rv with
      | cons v1 v2 => exact .cons (nk_is sg hok k _ _ r1 v1) (nks_is sg hok ks _ _ r2 v2)
end
end
section
local instance (priority := 1000000) cdx1 (p : Prop) : Decidable p := Classical.propDecidable p
def nkey : D → Option NestedKey
  | .tuple ds => (nkO (.tuple ds)).bind fun k => if k.depth ≤ 8 then some k else none
  | _ => none
end
theorem nkey_some {d : D} {k : NestedKey} (e : nkey d = some k) : d = nkD k ∧ k.depth ≤ 8 ∧ ∃ ks, k = .tup ks := by
  unfold nkey at e
  split at e
  · obtain ⟨k', hk, e⟩ := Option.bind_eq_some_iff.mp e
    split at e
    · rename_i hd
      cases e
      refine ⟨nkO_some _ _ hk, hd, ?_⟩
      obtain ⟨ks, _, rfl⟩ := Option.map_eq_some_iff.mp hk
      exact ⟨ks, rfl⟩
    · cases e
  · cases e
end DV
end

set_option Elab.async false
set_option linter.all false
set_option maxRecDepth 100000
/-! DVy: dicts whose keys are nested tuples: what is read. -/
noncomputable section
namespace DV
open PySem PySem.Spec PyProof.Rows L2
def RelN (p : NestedKey × Addr × V) (q : NestedKey × Addr × Value) : Prop := p.1 = q.1 ∧ p.2.1 = q.2.1 ∧ RelV p.2.2 q.2.2
theorem at_rel (k : NestedKey) : ∀ {kv : List (NestedKey × Addr × V)} {vs : List (NestedKey × Addr × Value)}, Paired RelN kv vs →
    (∀ x, valV (kv.map fun p => (p.1, p.2.2)) k = some x → ∃ p, atKey vs k = some p ∧ RelV x p.2) ∧ (valV (kv.map fun p => (p.1, p.2.2)) k = none → atKey vs k = none)
  | [], _, r => by
    cases r
    exact ⟨(fun x h => by cases h), fun _ => rfl⟩
  | p :: kv, _, r => by
    cases r with
    | cons r1 r2 =>
      rename_i q vs
      obtain ⟨h1, h2⟩ := at_rel k r2
      obtain ⟨e1, e2, e3⟩ := r1
      by_cases e : p.1 = k
      · have e' : q.1 = k := e1 ▸ e
        have a : atKey (q :: vs) k = some q.2 := by simp [atKey, e']
        rw [List.map_cons, valV_pos (p := (p.1, p.2.2)) e]
        refine ⟨fun x hx => ⟨q.2, a, ?_⟩, fun h => by cases h⟩
        cases hx
        exact e3
      · have e' : ¬ q.1 = k := fun z => e (e1.trans z)
        have a : atKey (q :: vs) k = atKey vs k := by simp [atKey, e']
        rw [List.map_cons, valV_neg (p := (p.1, p.2.2)) e, a]
        exact ⟨h1, h2⟩
section
variable {X : Cx} {pins : List (Addr × Obj)} {σ : L2.St} {G H : Hp} {s : Shared}
theorem Bor.dn {W : Wd} {G H : Hp} {kvs : List (D × D)} {v : V} (sg : Same G H) (b : Bor W G H (.dict ((.none, .int 2) :: kvs)) v) : ∃ a kv, v = .ref a ∧ H a = some (.ext (rawN W a kv)) ∧ kvs.map (·.1) = kv.map (fun p => nkD p.1) ∧ Reps W G (kvs.map (·.1)) (kv.map fun p => .ref p.2.1) ∧ Reps W G (kvs.map (·.2)) (kv.map (·.2.2)) := by
  rcases b with b | ⟨p, e, t⟩
  · cases b with
    | dcN h1 h2 h3 h4 => exact ⟨_, _, rfl, sg _ _ h1, h2, h3, h4⟩
  · cases t with
    | dcN h1 h2 h3 h4 => exact ⟨_, _, e, h1, h2, h3, h4⟩
theorem keys_is {h : Heap} (sg : Same G H) (hok : HOk X.prog X.w H h) : ∀ {kvs : List (D × D)} {kv : List (NestedKey × Addr × V)} {vs : List (NestedKey × Addr × Value)}, (∀ p ∈ kvs, (nkey p.1).isSome = true) → kvs.map (·.1) = kv.map (fun p => nkD p.1) → Reps X.wd G (kvs.map (·.1)) (kv.map fun p => .ref p.2.1) → Paired RelN kv vs →
    ∀ x ∈ vs, (nestedKind X.prog X.w).is h x.1 x.2.1
  | [], kv, vs, _, e, _, r => by
    cases kv with
    | nil => cases r; exact fun x hx => by cases hx
    | cons _ _ => cases e
  | q :: kvs, kv, vs, hk, e, rk, r => by
    cases kv with
    | nil => cases e
    | cons p kv =>
      cases r with
      | cons r1 r2 =>
        rename_i w vs
        rw [List.map_cons, List.map_cons] at e rk
        injection e with e1 e2
        cases rk with
        | cons k1 k2 =>
          intro x hx
          rcases List.mem_cons.mp hx with rfl | hx
          · obtain ⟨k, hkk⟩ := Option.isSome_iff_exists.mp (hk q List.mem_cons_self)
            obtain ⟨g1, g2, _⟩ := nkey_some hkk
            have ek : k = p.1 := by
              have h1 : keq (nkD k) (nkD p.1) = true := by rw [← g1, ← e1, g1, keq_nk, decide_eq_true rfl]
              rw [keq_nk] at h1
              exact of_decide_eq_true h1
            rw [e1] at k1
            refine ⟨?_, ?_⟩
            · have := nk_is sg hok p.1 _ (.ref x.2.1) k1 (by rw [← r1.2.1]; rfl)
              rw [r1.1] at this
              exact this
            · rw [← r1.1, ← ek]
              exact g2
          · exact keys_is sg hok (fun y hy => hk y (List.mem_cons_of_mem _ hy)) e2 k2 r2 x hx
theorem rel_keys : ∀ {kv : List (NestedKey × Addr × V)} {vs : List (NestedKey × Addr × Value)}, Paired RelN kv vs → vs.map (·.1) = kv.map (·.1)
  | [], _, r => by cases r; rfl
  | p :: kv, _, r => by
    cases r with
    | cons r1 r2 => rw [List.map_cons, List.map_cons, rel_keys r2, r1.1]
theorem dn_read {kvs : List (D × D)} {v : V} (I : L2.Inv X pins σ H s) (sg : Same G H) (b : Bor X.wd G H (.dict ((.none, .int 2) :: kvs)) v) (hk : ∀ p ∈ kvs, (nkey p.1).isSome = true) :
    ∃ a kv vs, v = .ref a ∧ H a = some (.ext (rawN X.wd a kv)) ∧ kvs.map (·.1) = kv.map (fun p => nkD p.1) ∧ Reps X.wd G (kvs.map (·.1)) (kv.map fun p => .ref p.2.1) ∧ Reps X.wd G (kvs.map (·.2)) (kv.map (·.2.2)) ∧ (a == sysModules) = false ∧ s.heap.DictOfH (nestedKind X.prog X.w) a vs ∧ Paired RelN kv vs ∧ kv.length ≤ sizeLine := by
  obtain ⟨a, kv, rfl, h1, h2, h3, h4⟩ := b.dn sg
  obtain ⟨⟨vs, o, es, ep, r, ho, he, hd, hes, hsy, hn, hz⟩, _⟩ := I.hok a _ h1
  have r' : Paired RelN kv vs := r
  have en := rel_keys r'
  exact ⟨a, kv, vs, rfl, h1, h2, h3, h4, hsy, ⟨o, es, ep, ho, he, hd, hes, keys_is sg I.hok hk h2 h3 r', by rw [en]; exact hn⟩, r', hz⟩
/-! ### in, not in, d[k] -/
end
section
local instance (priority := 1000000) cdy1 (p : Prop) : Decidable p := Classical.propDecidable p
def onN (kvs : List (D × D)) (x : Option D) : Option D := if ∀ p ∈ kvs, (nkey p.1).isSome = true then x else none
theorem onN_some {kvs : List (D × D)} {x : Option D} {d : D} (h : onN kvs x = some d) : (∀ p ∈ kvs, (nkey p.1).isSome = true) ∧ x = some d := by
  unfold onN at h
  split at h
  · rename_i hk
    exact ⟨hk, h⟩
  · cases h
theorem onN_of {kvs : List (D × D)} {x : Option D} (h : ∀ p ∈ kvs, (nkey p.1).isSome = true) : onN kvs x = x := if_pos h
end
def ninND : D → D → Option D
  | x, .dict ((.none, .int 2) :: kvs) => onN kvs ((nkey x).map fun _ => .bool (!(dget kvs x).isSome))
  | _, _ => none
def ixND : D → D → Option D
  | .dict ((.none, .int 2) :: kvs), x => onN kvs ((nkey x).bind fun _ => dget kvs x)
  | _, _ => none
section
variable {X : Cx}
theorem key_ref {W : Wd} {G H : Hp} {x : D} {k : NestedKey} {v : V} {u : Value} {P : Program} {w : World} {h : Heap} (hk : nkey x = some k) (sg : Same G H) (hok : HOk P w H h) (b : Bor W G H x v) (ru : RelV v u) : ∃ a, u = .ref a ∧ (nestedKind P w).is h k a := by
  obtain ⟨e, hd, ks, rfl⟩ := nkey_some hk
  subst e
  have r : Rep W H (nkD (.tup ks)) v := by
    rcases b with b | ⟨p, e, t⟩
    · exact b.mono sg
    · cases t
  have i := nk_is (Same.refl H) hok _ _ _ r ru
  cases i with
  | tup h1 h2 h3 h4 => exact ⟨_, rfl, .tup h1 h2 h3 h4, hd⟩
def rNinN (W : Wd) : R2 := fun x y H Q => ∃ G d e c, Same G H ∧ Bor W G H d x ∧ Bor W G H e y ∧ ninND d e = some (.bool c) ∧ Q (.bl c) H
theorem op_ninN (hu : X.A.units + 64 < cLine) : OpR X (compareOp .NotIn) (rNinN X.wd) := by
  intro pins s σ H x y v u Q I rx ry h
  obtain ⟨G, d, e, c, sg, bd, be, hc, q⟩ := h
  unfold ninND at hc
  split at hc
  · rename_i kvs
    · obtain ⟨hk, hc⟩ := onN_some hc
      obtain ⟨k, hkk, hc⟩ := Option.map_eq_some_iff.mp hc
      cases hc
      obtain ⟨a, kv, vs, rfl, h1, h2, h3, h4, h5, h6, h7, _⟩ := dn_read I sg be hk
      cases ry
      obtain ⟨b, rfl, hb⟩ := key_ref hkk sg I.hok bd rx
      obtain ⟨e1, _, ks, _⟩ := nkey_some hkk
      have g := get_rel (W := X.wd) (G := G) (enc := nkD) keq_nk k (kv := kv.map fun p => (p.1, p.2.2)) (by rw [h2, List.map_map]; rfl) (by rw [List.map_map]; exact h4)
      obtain ⟨a1, a2⟩ := at_rel k h7
      refine notIn_keyed (knd := nestedKind X.prog X.w) (k := k) (kvs := pairsH vs) (show X.A.units + 1 + 8 < cLine by omega) hb h5 ⟨vs, h6, rfl⟩ ⟨.bl _, H, I.tok _, ?_, q⟩
      show Value.bool _ = Value.bool _
      congr 2
      rw [valueAt_pairsH, Option.isSome_map, e1, RepO.isSome g]
      cases hv : valV (kv.map fun p => (p.1, p.2.2)) k with
      | none => rw [a2 hv]; rfl
      | some x => obtain ⟨p, hp, _⟩ := a1 x hv; rw [hp]; rfl
  · cases hc
theorem c_ninN (hu : X.A.units + 64 < cLine) : CmpR X .NotIn ninND := ⟨_, op_ninN hu, fun x y d v u G H Q k bx bY sg q => by
  obtain ⟨c, rfl⟩ : ∃ c, d = .bool c := by
    unfold ninND at k
    split at k
    · obtain ⟨_, k⟩ := onN_some k
      obtain ⟨_, _, k⟩ := Option.map_eq_some_iff.mp k
      exact ⟨_, k.symm⟩
    · cases k
  exact ⟨G, x, y, c, sg, bx, bY, k, q _ G H (Gw.refl sg) (.bl _)⟩⟩
end
end DV
end

set_option Elab.async false
set_option linter.all false
set_option maxRecDepth 100000
/-! DVz: dicts whose keys are nested tuples: d[k]. -/
noncomputable section
namespace DV
open PySem PySem.Spec PyProof.Rows L2
section
variable {X : Cx}
def rIxN (W : Wd) : R2 := fun x y H Q => ∃ G d e z, Same G H ∧ Bor W G H d x ∧ Bor W G H e y ∧ ixND d e = some z ∧ ∀ v, Rep W G z v → Q v H
theorem ix_N (hu : X.A.units + 64 < cLine) : IxR X (rIxN X.wd) := by
  intro value slice pins s σ H x y v u Q I rx ry h hs
  obtain ⟨G, d, e, z, sg, bd, be, hc, q⟩ := h
  unfold ixND at hc
  split at hc
  · rename_i kvs
    obtain ⟨hk, hc⟩ := onN_some hc
    obtain ⟨k, hkk, hc⟩ := Option.bind_eq_some_iff.mp hc
    obtain ⟨a, kv, vs, rfl, h1, h2, h3, h4, h5, h6, h7, _⟩ := dn_read I sg bd hk
    cases rx
    obtain ⟨b, rfl, hb⟩ := key_ref hkk sg I.hok be ry
    obtain ⟨e1, _, ks, _⟩ := nkey_some hkk
    have g := get_rel (W := X.wd) (G := G) (enc := nkD) keq_nk k (kv := kv.map fun p => (p.1, p.2.2)) (by rw [h2, List.map_map]; rfl) (by rw [List.map_map]; exact h4)
    rw [← e1, hc] at g
    obtain ⟨w, ew, rw'⟩ := g.some
    obtain ⟨p, hp, rp⟩ := (at_rel k h7).1 w ew
    refine tail_any h6.typeIs PySem.F.slot_dict_getitem.lookup ?_ hs
    exact wpAny_getItem_heap (knd := nestedKind X.prog X.w) (k := k) (show X.A.units + 1 + 8 < cLine by omega) hb h6 hp ⟨w, H, I.tok _, rp, q w rw'⟩
  · cases hc
theorem f_ixN {a b : Expr} {pos : Pos} {Fa Fb : FE} (hu : X.A.units + 64 < cLine) (ha : PB X a Fa) (hb : PB X b Fb) (hs : PlainIx b := by exact fun _ _ => rfl) : PF X (.Subscript a b pos) (o2 ixND Fa Fb) :=
  PE.weak (pe_ix (ix_N hu) ha hb hs) fun _ _ _ h => two (a := a) (b := b) (fun x y d v u G H Q k bx bY sg q => ⟨G, x, y, d, sg, bx, bY, k, fun w rw' => q w G H (Gw.refl sg) rw'⟩) h
end
end DV
end

set_option Elab.async false
set_option linter.all false
set_option maxRecDepth 100000
/-! DVz2: dicts whose keys are nested tuples: d[k] = v. -/
noncomputable section
namespace DV
open PySem PySem.Spec PyProof.Rows L2
def putNV (kv : List (NestedKey × Addr × V)) (k : NestedKey) (b : Addr) (v : V) : List (NestedKey × Addr × V) :=
  if (kv.any fun p => decide (p.1 = k)) = true then kv.map (fun p => if p.1 = k then (p.1, p.2.1, v) else p) else kv ++ [(k, b, v)]
theorem rel_any (k : NestedKey) : ∀ {kv : List (NestedKey × Addr × V)} {vs : List (NestedKey × Addr × Value)}, Paired RelN kv vs → (atKey vs k).isSome = kv.any fun p => decide (p.1 = k)
  | [], _, r => by cases r; rfl
  | p :: kv, _, r => by
    cases r with
    | cons r1 r2 =>
      rename_i q vs
      rw [List.any_cons, ← rel_any k r2]
      by_cases e : p.1 = k
      · have e' : q.1 = k := r1.1 ▸ e
        have a : atKey (q :: vs) k = some q.2 := by simp [atKey, e']
        rw [a, decide_eq_true e]
        rfl
      · have e' : ¬ q.1 = k := fun z => e (r1.1.trans z)
        have a : atKey (q :: vs) k = atKey vs k := by simp [atKey, e']
        rw [a, decide_eq_false e, Bool.false_or]
theorem rel_map {k : NestedKey} {v : V} {u : Value} (rv : RelV v u) : ∀ {kv : List (NestedKey × Addr × V)} {vs : List (NestedKey × Addr × Value)}, Paired RelN kv vs → Paired RelN (kv.map fun p => if p.1 = k then (p.1, p.2.1, v) else p) (vs.map (putAt k u))
  | [], _, r => by cases r; exact .nil
  | p :: kv, _, r => by
    cases r with
    | cons r1 r2 =>
      rename_i q vs
      refine .cons ?_ (rel_map rv r2)
      unfold putAt
      show RelN (if p.1 = k then (p.1, p.2.1, v) else p) (if q.1 = k then (q.1, q.2.1, u) else q)
      by_cases e : p.1 = k
      · have e' : q.1 = k := r1.1 ▸ e
        rw [if_pos e, if_pos e']
        exact ⟨r1.1, r1.2.1, rv⟩
      · have e' : ¬ q.1 = k := fun z => e (r1.1.trans z)
        rw [if_neg e, if_neg e']
        exact r1
theorem rel_snoc {p : NestedKey × Addr × V} {q : NestedKey × Addr × Value} (h : RelN p q) : ∀ {kv : List (NestedKey × Addr × V)} {vs : List (NestedKey × Addr × Value)}, Paired RelN kv vs → Paired RelN (kv ++ [p]) (vs ++ [q])
  | [], _, r => by cases r; exact .cons h .nil
  | _ :: kv, _, r => by
    cases r with
    | cons r1 r2 => exact .cons r1 (rel_snoc h r2)
theorem rel_put {k : NestedKey} {b : Addr} {v : V} {u : Value} (rv : RelV v u) {kv : List (NestedKey × Addr × V)} {vs : List (NestedKey × Addr × Value)} (r : Paired RelN kv vs) : Paired RelN (putNV kv k b v) (storedH vs k b u) := by
  unfold putNV storedH
  rw [rel_any k r]
  split
  · exact rel_map rv r
  · exact rel_snoc ⟨rfl, rfl, rv⟩ r
theorem putNV_len (kv : List (NestedKey × Addr × V)) (k : NestedKey) (b : Addr) (v : V) : (putNV kv k b v).length ≤ kv.length + 1 := by
  unfold putNV
  split <;> simp
theorem putNV_pairs (kv : List (NestedKey × Addr × V)) (k : NestedKey) (b : Addr) (v : V) : (putNV kv k b v).map (fun p => (p.1, p.2.2)) = putK (kv.map fun p => (p.1, p.2.2)) k v := by
  unfold putNV putK
  have e : ((kv.map fun p => (p.1, p.2.2)).any fun kv => decide (kv.1 = k)) = kv.any fun p => decide (p.1 = k) := by
    rw [List.any_map]
    rfl
  rw [e]
  split
  · rw [List.map_map, List.map_map]
    refine List.map_congr_left fun p _ => ?_
    simp only [Function.comp_def]
    split <;> rfl
  · simp
theorem rawN_of {W : Wd} {h : Heap} {a : Addr} {kv : List (NestedKey × Addr × V)} {vs : List (NestedKey × Addr × Value)} (r : Paired RelN kv vs) (hs : (a == sysModules) = false) (dd : h.DictOfH (nestedKind W.P W.w) a vs) (hz : kv.length ≤ sizeLine) : rawN W a kv h := by
  obtain ⟨o, es, ep, ho, he, hd, hes, _, hn⟩ := dd
  exact ⟨vs, o, es, ep, r, ho, he, hd, hes, hs, by rw [← rel_keys r]; exact hn, hz⟩
theorem rawN_at {W : Wd} {h1 h2 : Heap} {a : Addr} {kv : List (NestedKey × Addr × V)} (r : rawN W a kv h1) (k : ∀ o, h1.get? a = some o → h2.get? a = some o) : rawN W a kv h2 := by
  obtain ⟨vs, o, es, ep, r1, ho, r2⟩ := r
  exact ⟨vs, o, es, ep, r1, k _ ho, r2⟩
end DV
end

set_option Elab.async false
set_option linter.all false
set_option maxRecDepth 100000
/-! DVz3: d[k] = v, d owned, of kind N. -/
noncomputable section
namespace DV
open PySem PySem.Spec PyProof.Rows L2
section
variable {X : Cx}
def rSetN (W : Wd) : V → V → V → Hp → (Hp → Prop) → Prop := fun o i v H Q => ∃ (a b : Addr) (kv : List (NestedKey × Addr × V)) (kvs : List (D × D)) (G : Hp) (kd : D) (k : NestedKey), o = .ref a ∧ i = .ref b ∧ H a = some (.ext (rawN W a kv)) ∧ nkey kd = some k ∧ Same G H ∧ Rep W G kd (.ref b) ∧
  kvs.map (·.1) = kv.map (fun p => nkD p.1) ∧ Reps W G (kvs.map (·.1)) (kv.map fun p => .ref p.2.1) ∧ (∀ p ∈ kvs, (nkey p.1).isSome = true) ∧ kv.length < sizeLine ∧ Q (upd H a (.ext (rawN W a (putNV kv k b v))))
theorem set_N (hu : X.A.units + 64 < cLine) : PSet X (rSetN X.wd) := by
  intro pins s σ H o i v ov iv u Q I ro ri rv h
  obtain ⟨a, b, kv, kvs, G, kd, k, rfl, rfl, ha, hk, sg, rk, h2, h3, hks, hz, q⟩ := h
  cases ro
  cases ri
  obtain ⟨⟨vs, ob, es, ep, r, ho, he, hd, hes, hsy, hn, hz2⟩, _⟩ := I.hok a _ ha
  have r' : Paired RelN kv vs := r
  have en := rel_keys r'
  have dd : s.heap.DictOfH (nestedKind X.prog X.w) a vs := ⟨ob, es, ep, ho, he, hd, hes, keys_is sg I.hok hks h2 h3 r', by rw [en]; exact hn⟩
  obtain ⟨b', eb, hb⟩ := key_ref (u := .ref b) hk sg I.hok (.inl rk) rfl
  cases eb
  have hl : vs.length ≤ sizeLine := by
    have := congrArg List.length en
    simp at this
    omega
  refine wpAny_setItem_heap (knd := nestedKind X.prog X.w) (k := k) (hsz := hl) (show X.A.units + 1 + 8 < cLine by omega) hb dd fun h' dd' hs => ⟨_, ?_, q⟩
  obtain ⟨q', es', ep', hq, _⟩ := id dd'
  have hl2 : (putNV kv k b v).length ≤ sizeLine := by
    have := putNV_len kv k b v
    omega
  exact d_write I (by rw [ha]; exact True.intro) hs ⟨q', hq⟩ ⟨rawN_of (W := X.wd) (rel_put rv r') hsy dd' hl2, ⟨q', hq⟩, fun h1 h2 z kp => rawN_at z kp⟩
end
end DV
end

set_option Elab.async false
set_option linter.all false
set_option maxRecDepth 100000
/-! DVz4: d[k] = v, d owned, of kind N, as a statement of data. -/
noncomputable section
namespace DV
open PySem PySem.Spec PyProof.Rows L2
section
local instance (priority := 1000000) cdz1 (p : Prop) : Decidable p := Classical.propDecidable p
def putNKv (kvs : List (D × D)) (k v : D) : Option D := if kvs.length < sizeLine then some (.dict ((.none, .int 2) :: dput kvs k v)) else none
theorem putNKv_some {kvs : List (D × D)} {k v d : D} (h : putNKv kvs k v = some d) : kvs.length < sizeLine ∧ d = .dict ((.none, .int 2) :: dput kvs k v) := by
  unfold putNKv at h
  split at h
  · rename_i hz
    cases h
    exact ⟨hz, rfl⟩
  · cases h
end
def putNO (d k v : D) : Option D := match d with
  | .dict ((.none, .int 2) :: kvs) => onN kvs ((nkey k).bind fun _ => putNKv kvs k v)
  | _ => none
def sPutN (i : Nat) (Fk Fv : FE) : FS := fun ρ => (Fv ρ).bind fun v => (Fk ρ).bind fun k => match ρ[i]? with
  | some (some (.own d)) => (putNO d k v).map fun d' => .nx (ρ.set i (some (.own d')))
  | _ => none
theorem keysN_rel {W : Wd} {G : Hp} {k : NestedKey} {b : Addr} {v : V} {d : D} {kvs : List (D × D)} {kv : List (NestedKey × Addr × V)} (rk : Rep W G (nkD k) (.ref b)) (h : kvs.map (·.1) = kv.map (fun p => nkD p.1)) (r : Reps W G (kvs.map (·.1)) (kv.map fun p => .ref p.2.1)) :
    Reps W G ((dput kvs (nkD k) d).map (·.1)) ((putNV kv k b v).map fun p => .ref p.2.1) := by
  have ea : (kvs.any fun p => keq p.1 (nkD k)) = kv.any fun q => decide (q.1 = k) := by
    have := any_rel (enc := nkD) keq_nk k (kvs := kvs) (kv := kv.map fun p => (p.1, p.2.2)) (by rw [h, List.map_map]; rfl)
    rw [this, List.any_map]
    rfl
  unfold dput putNV
  rw [ea]
  split
  · have e1 : (kvs.map fun p => if keq p.1 (nkD k) = true then (p.1, d) else p).map (·.1) = kvs.map (·.1) := by
      rw [List.map_map]
      refine List.map_congr_left fun p _ => ?_
      simp only [Function.comp_def]
      split <;> rfl
    have e2 : (kv.map fun p => if p.1 = k then (p.1, p.2.1, v) else p).map (fun p => V.ref p.2.1) = kv.map fun p => V.ref p.2.1 := by
      rw [List.map_map]
      refine List.map_congr_left fun p _ => ?_
      simp only [Function.comp_def]
      split <;> rfl
    rw [e1, e2]
    exact r
  · rw [List.map_append, List.map_append]
    exact r.append (.cons rk .nil)
section
variable {X : Cx}
theorem s_putN (i : Nat) {x : Str} {k e : Expr} {Fk Fe : FE} {npos tpos pos : Pos} (hu : X.A.units + 64 < cLine) (he : PF X e Fe) (hk : PF X k Fk) (hN : X.N[i]? = some x := by rfl) (hv : Vis X.env.scope x := by first | exact Or.inl rfl | exact Or.inr (Or.inl rfl) | exact Or.inr (Or.inr rfl)) (hd : (x == ("__debug__" : Str)) = false := by decide)
    (hcd : (x == ("__classdict__" : Str)) = false := by decide)
    (ha : ∀ v, assign (.Subscript (.Name x npos) k tpos) X.env v = (do
      let ov ← holding [v] (eval (.Name x npos) X.env)
      let iv ← holding [v, ov] (eval k X.env)
      standAt tpos
      holding [v, ov, iv] (setItem ov iv v)
      release [v, ov, iv] []) := by intro _; rfl)
    (hs : swapsWithSole [.Subscript (.Name x npos) k tpos] e pos.line X.env = pure false := by rfl) (hw : swappedStores [.Subscript (.Name x npos) k tpos] e X.env = pure none := by rfl)
    (h1 : (assignEach [.Subscript (.Name x npos) k tpos] X.env).map (·.2) = [assign (.Subscript (.Name x npos) k tpos) X.env] := by rfl) :
    PSD X (.Assign [.Subscript (.Name x npos) k tpos] e pos) (sPutN i Fk Fe) :=
  PS.weak (ps_asg he (pg_sub (pe_var (i := i) hN hv hd hcd) hk (set_N hu) ha) hs hw h1) fun E σ H ⟨B, G, ρ, o, r, q, a⟩ => by
    obtain ⟨v, hv, q⟩ := Option.bind_eq_some_iff.mp q
    obtain ⟨kd, hk, q⟩ := Option.bind_eq_some_iff.mp q
    refine ⟨B, G, ρ, v, r, hv, fun vv G1 H1 w1 rv => ?_⟩
    split at q
    · rename_i d hi
      obtain ⟨d', hp, q⟩ := Option.map_eq_some_iff.mp q
      subst q
      obtain ⟨l, h1, h2, h3, h4⟩ := r.own i _ hi
      refine ⟨_, h1, B, G1, ρ, kd, r.step w1, hk, fun kv G2 H2 w2 rk => ?_⟩
      have w := w1.trans w2
      have h4' := h4.same w.g w.h
      unfold putNO at hp
      split at hp
      · rename_i kvs
        obtain ⟨hks, hp⟩ := onN_some hp
        obtain ⟨key, hkey, hp⟩ := Option.bind_eq_some_iff.mp hp
        obtain ⟨hz, rfl⟩ := putNKv_some hp
        obtain ⟨e1, _, ks, eks⟩ := nkey_some hkey
        subst e1
        cases h4' with
        | @dcN _ kn _ e t1 t2 t3 =>
          obtain ⟨b, rfl⟩ : ∃ b, kv = .ref b := by
            rw [eks] at rk
            cases rk
            exact ⟨_, rfl⟩
          have hz2 : kn.length < sizeLine := by
            have := congrArg List.length t1
            simp at this
            omega
          refine ⟨l, b, kn, kvs, G2, nkD key, key, rfl, rfl, e, hkey, w2.gh, rk, t1, t2, hks, hz2, ?_⟩
          obtain ⟨p1, p2⟩ := put_rel (W := X.wd) (G := G2) (enc := nkD) keq_nk (k := key) (d := v) (v := vv) (rv.mono w2.g) (kvs := kvs) (kv := kn.map fun p => (p.1, p.2.2)) (by rw [t1, List.map_map]; rfl) (by rw [List.map_map]; exact t3)
          rw [← putNV_pairs kn key b vv, List.map_map] at p1 p2
          have sm : Same G2 G2 := Same.refl _
          exact a σ G2 _ (w.gs r.bh) ((r.step w).upd_own hi h1 (.dcN upd_same p1 (keysN_rel rk t1 t2) p2))
      · cases hp
    · cases q
end
end DV
end

set_option Elab.async false
set_option linter.all false
set_option maxRecDepth 100000
/-! DVz5: a new dict of kind N. -/
noncomputable section
namespace DV
open PySem PySem.Spec PyProof.Rows L2
section
variable {X : Cx} {pos : Pos}
def tDNewN (W : Wd) : TE := fun _ H Q => ∀ p, H p = none → Q (.ref p) (upd H p (.ext (rawN W p [])))
theorem rawN_empty {W : Wd} {h : Heap} (hb : sysModules < h.objs.size) : rawN W h.objs.size [] (h.push { cls := .type "dict", data := .dict #[] }) := by
  obtain ⟨o, es, ep, ho, he, hd, hes, hk, hn⟩ := Heap.DictOfH.new (knd := nestedKind W.P W.w) h
  exact ⟨[], o, es, ep, .nil, ho, he, hd, hes, beq_eq_false_iff_ne.mpr (Nat.ne_of_gt hb), .nil, Nat.zero_le _⟩
theorem pe_dnewN : PE X (.Dict [] [] pos) (tDNewN X.wd) := ⟨fun pins s σ H Q I h =>
  wpAny_Dict_empty ⟨.ref s.heap.objs.size, _, I.laid (a := s.heap.objs.size) (o := .ext (rawN X.wd s.heap.objs.size [])) (t' := s.toks) (fun _ _ q => Heap.get?_push_of_some _ q) (Nat.le_refl _)
    ⟨rawN_empty I.big, ⟨_, Heap.get?_push_size _ rfl⟩, fun h1 h2 z k => rawN_at z k⟩, rfl, h _ (I.hok.fresh (Nat.le_refl _))⟩⟩
theorem n_dN : PN X (.Dict [] [] pos) (eC (.dict [(.none, .int 2)])) := PE.weak pe_dnewN fun σ H Q ⟨B, G, ρ, d, r, k, q⟩ => by
  cases k
  intro p hp
  obtain ⟨w2, f⟩ := Frs.new (W := X.wd) (o := .ext (rawN X.wd p [])) (d := .dict [(.none, .int 2)]) (Gw.refl r.gh) hp (.dcN upd_same rfl .nil .nil)
  exact q _ _ _ w2 f
end
end DV
end

set_option Elab.async false
set_option linter.all false
set_option maxRecDepth 100000
/-! DVaa: ~n. -/
noncomputable section
namespace DV
open PySem PySem.Spec PyProof.Rows L2
section
variable {X : Cx} {pos : Pos} {a : Expr} {Fa : FE}
def invD : D → Option D
  | .int i => some (.int (Builtin.bitNot i))
  | _ => none
theorem f_inv (ha : PB X a Fa) : PF X (.UnaryOp .Invert a pos) (o1 invD Fa) := PE.weak (pe_un un_inv ha) fun σ H Q ⟨B, G, ρ, d, r, k, q⟩ => by
  obtain ⟨x, hx, k⟩ := Option.bind_eq_some_iff.mp k
  refine ⟨B, G, ρ, x, r, hx, fun v G1 H1 w1 b1 => ?_⟩
  unfold invD at k
  split at k
  · cases k
    cases b1.int'
    exact ⟨_, rfl, q _ G1 H1 w1 (.int _)⟩
  · cases k
end
end DV
end

set_option Elab.async false
set_option linter.all false
set_option maxRecDepth 100000
/-! DVbb: sorted(xs) of ints, of fewer than 64 texts. -/
noncomputable section
namespace DV
open PySem PySem.Spec PyProof.Rows L2
def leS (a b : Str) : Bool := !decide (b.cps.toList < a.cps.toList)
def leI (a b : Int) : Bool := decide (a ≤ b)
def sortedF : List D → Option D
  | [.list ds] => match intsOf ds with
    | some ns => some (.list ((ns.mergeSort leI).map .int))
    | none => (strsOf ds).bind fun xs => if xs.length < 64 then some (.list ((xs.mergeSort leS).map .str)) else none
  | _ => none
theorem leS_no {a b : Str} : leS a b = true ↔ ¬ b.cps.toList < a.cps.toList := by simp [leS]
theorem rising_pair : ∀ (r : List Str) (p : Str), risingS p r = true → (p :: r).Pairwise fun a b => leS a b = true
  | [], p, _ => by simp
  | x :: r, p, h => by
    have h : (!ltCps x.cps.toList p.cps.toList && risingS x r) = true := h
    rw [Bool.and_eq_true] at h
    have h1 : leS p x = true := by
      rw [leS_no]
      have := h.1
      rw [ltCps_eq] at this
      simpa using this
    have h2 := rising_pair r x h.2
    refine List.pairwise_cons.mpr ⟨fun y hy => ?_, h2⟩
    rcases List.mem_cons.mp hy with rfl | hy
    · exact h1
    · have h3 := (List.pairwise_cons.mp h2).1 y hy
      rw [leS_no] at h1 h3 ⊢
      exact List.not_lt.mpr (List.le_trans (List.not_lt.mp h1) (List.not_lt.mp h3))
theorem sortedS_pair : ∀ {l : List Str}, sortedS l = true → l.Pairwise fun a b => leS a b = true
  | [], _ => .nil
  | x :: r, h => rising_pair r x h
theorem sortS_spec {l xs : List Str} (hp : l.Perm xs) (hs : l.Pairwise fun a b => leS a b = true) : xs.mergeSort leS = l := by
  have h1 := List.pairwise_mergeSort (le := leS) (fun a b c x y => by
    rw [leS_no] at x y ⊢
    exact List.not_lt.mpr (List.le_trans (List.not_lt.mp x) (List.not_lt.mp y))) (fun a b => by
    rw [Bool.or_eq_true, leS_no, leS_no]
    rcases lst_tri a.cps.toList b.cps.toList with z | z | z
    · exact .inl (lst_asym z)
    · left; rw [z]; exact List.lt_irrefl _
    · exact .inr (lst_asym z)) xs
  have h2 := List.mergeSort_perm xs leS
  refine (srt_uniq (lt := fun a b => !leS b a) (fun a ha b hb x y => ?_) (hp.trans h2.symm) (hs.imp fun z => by simpa using z) (h1.imp fun z => by simpa using z)).symm
  simp only [Bool.not_eq_false', leS_no] at x y
  rcases lst_tri a.cps.toList b.cps.toList with z | z | z
  · exact absurd z x
  · exact cps_inj z
  · exact absurd z y
theorem sortI_spec {l xs : List Int} (hp : l.Perm xs) (hs : l.Pairwise fun a b => a ≤ b) : xs.mergeSort leI = l := by
  have h1 := List.pairwise_mergeSort (le := leI) (fun a b c x y => by
    simp only [leI, decide_eq_true_eq] at x y ⊢
    omega) (fun a b => by
    simp only [leI, Bool.or_eq_true, decide_eq_true_eq]
    omega) xs
  have h2 := List.mergeSort_perm xs leI
  refine (srt_uniq (lt := fun a b => !leI b a) (fun a ha b hb x y => ?_) (hp.trans h2.symm) (hs.imp fun z => by simpa [leI] using z) (h1.imp fun z => by simpa using z)).symm
  simp only [Bool.not_eq_false', leI, decide_eq_true_eq] at x y
  omega
section
variable {X : Cx} {p pos : Pos} {e : Expr} {L : FL}
theorem f_sorted (hm : X.mg "sorted" = none) (ha : PAB X [e] L) (hg : Gl X "sorted" := by rfl)
    (he : starEach [e] X.env = (false, eval e X.env) :: starEach [] X.env := by rfl) (hpl : (backTo pos (starEach [] X.env)).any (·.1) = false := by rfl) : PF X (.Call (.Name "sorted" p) [e] [] pos) (eCall sortedF L) :=
  f_bc (CallR.or cr_sortedI cr_sortedS) (fun ds d vs G H Q k bs sg q => by
    unfold sortedF at k
    split at k
    · rename_i xs
      obtain ⟨v, rfl, b⟩ := bs.one
      obtain ⟨a, ys, rfl, h1, r1⟩ := b.lst' sg
      split at k
      · rename_i ns hn
        cases k
        rw [intsOf_some hn] at r1
        cases r1.ints
        refine .inl ⟨a, ns, rfl, SqL.of h1, fun ns' p hp hs hf => ?_⟩
        rw [sortI_spec hp hs] at q
        have hr : ∀ (l : List Int), Reps X.wd G (l.map PyData.int) (l.map V.int) := fun l => by
          induction l with
          | nil => exact .nil
          | cons x l ih => exact .cons (.int x) ih
        exact fin_lst sg (hr ns') q p hf
      · rename_i hn
        obtain ⟨ns, hs', k⟩ := Option.bind_eq_some_iff.mp k
        split at k
        · rename_i h64
          cases k
          rw [strsOf_some hs'] at r1
          cases r1.strs
          refine .inr ⟨a, ns, rfl, SqL.of h1, h64, fun ns' p hp hs hf => ?_⟩
          rw [sortS_spec hp (sortedS_pair hs)] at q
          have hr : ∀ (l : List Str), Reps X.wd G (l.map PyData.str) (l.map V.str) := fun l => by
            induction l with
            | nil => exact .nil
            | cons x l ih => exact .cons (.str x) ih
          exact fin_lst sg (hr ns') q p hf
        · cases k
    · cases k) hm ha (by decide +kernel) hg (by decide) (by decide) he hpl
end
end DV
end

set_option Elab.async false
set_option linter.all false
set_option maxRecDepth 100000
/-! DVcc: list(range(n)), tuple(range(n)). -/
noncomputable section
namespace DV
open PySem PySem.Spec PyProof.Rows L2
section
local instance (priority := 1000000) cdcc1 (p : Prop) : Decidable p := Classical.propDecidable p
def lrgF : List D → Option D
  | [.int n] => if 0 ≤ n ∧ n ≤ 16777216 then some (.list (rngL 0 n.toNat)) else none
  | _ => none
def trgF : List D → Option D
  | [.int n] => if 0 ≤ n ∧ n ≤ 16777216 then some (.tuple (rngL 0 n.toNat)) else none
  | _ => none
end
theorem rng_reps {W : Wd} {G : Hp} (n : Int) : Reps W G (rngL 0 n.toNat) (rgV 0 n) := by
  unfold rngL rgV
  rw [show n - 0 = n by omega]
  generalize List.range n.toNat = l
  induction l with
  | nil => exact .nil
  | cons i l ih => exact .cons (.int _) ih
section
variable {X : Cx} {a : Expr} {Fa : FE} {p p2 pos pos2 : Pos}
theorem f_lrg (hc : X.calm = true) (hm : X.mg "list" = none) (hr : X.mg "range" = none) (ha : PF X a Fa) (hg : Gl X "list" := by rfl) (hg2 : Gl X "range" := by rfl)
    (na : starEach [a] X.env = (false, eval a X.env) :: starEach [] X.env := by rfl) (ne : starEach [.Call (.Name "range" p2) [a] [] pos2] X.env = (false, eval (.Call (.Name "range" p2) [a] [] pos2) X.env) :: starEach [] X.env := by rfl) :
    PF X (.Call (.Name "list" p) [.Call (.Name "range" p2) [a] [] pos2] [] pos) (eCall lrgF (lC Fa lN)) :=
  PE.weak (pe_listRg hc hg hm (prg_1 hg2 hr ha na) ne) fun σ H Q ⟨B, G, ρ, d, r, k, q⟩ => by
    obtain ⟨ds, hd, k⟩ := Option.bind_eq_some_iff.mp k
    obtain ⟨x, hx, hd⟩ := Option.bind_eq_some_iff.mp hd
    cases hd
    refine ⟨B, G, ρ, x, r, hx, fun v G1 H1 w1 b1 => ?_⟩
    unfold lrgF at k
    split at k
    · rename_i n e
      cases e
      split at k
      · rename_i h
        cases k
        cases b1
        exact ⟨n, rfl, RgOk.of_le (by omega) h.2 (by omega) h.1, fun p hp => fin_lst w1.gh (rng_reps n) (fun z G' H' w2 rz => q z G' H' (w1.trans w2) rz) p hp⟩
      · cases k
    · cases k
theorem f_trg (hc : X.calm = true) (hm : X.mg "tuple" = none) (hr : X.mg "range" = none) (ha : PF X a Fa) (hg : Gl X "tuple" := by rfl) (hg2 : Gl X "range" := by rfl)
    (na : starEach [a] X.env = (false, eval a X.env) :: starEach [] X.env := by rfl) (ne : starEach [.Call (.Name "range" p2) [a] [] pos2] X.env = (false, eval (.Call (.Name "range" p2) [a] [] pos2) X.env) :: starEach [] X.env := by rfl) :
    PF X (.Call (.Name "tuple" p) [.Call (.Name "range" p2) [a] [] pos2] [] pos) (eCall trgF (lC Fa lN)) :=
  PE.weak (pe_tupRg hc hg hm (prg_1 hg2 hr ha na) ne) fun σ H Q ⟨B, G, ρ, d, r, k, q⟩ => by
    obtain ⟨ds, hd, k⟩ := Option.bind_eq_some_iff.mp k
    obtain ⟨x, hx, hd⟩ := Option.bind_eq_some_iff.mp hd
    cases hd
    refine ⟨B, G, ρ, x, r, hx, fun v G1 H1 w1 b1 => ?_⟩
    unfold trgF at k
    split at k
    · rename_i n e
      cases e
      split at k
      · rename_i h
        cases k
        cases b1
        exact ⟨n, rfl, RgOk.of_le (by omega) h.2 (by omega) h.1, fun p hp => fin_tup w1.gh (rng_reps n) (fun z G' H' w2 rz => q z G' H' (w1.trans w2) rz) p hp⟩
      · cases k
    · cases k
end
end DV
end

set_option Elab.async false
set_option linter.all false
set_option maxRecDepth 100000
/-! DVm: reckoning with functions of data: combinators by simp, words as lists of numbers, loops. -/
noncomputable section
namespace DV
open PySem L2
/-! strict forms: simp goes into what is reckoned next alone -/
def ap2 (f : D → D → Option D) : Option D → Option D → Option D
  | some x, some y => f x y
  | _, _ => none
def ap3 (f : D → Option Int → Option Int → Option D) : Option D → Option (Option Int) → Option (Option Int) → Option D
  | some x, some y, some z => f x y z
  | _, _, _ => none
def andO (x : Option Bool) (u : FT) (ρ : Env) : Option Bool := x.bind fun x => if x = true then u ρ else some false
def orO (x : Option Bool) (u : FT) (ρ : Env) : Option Bool := x.bind fun x => if x = true then some true else u ρ
def andV (x : Option Bool) (b : FE) (ρ : Env) : Option D := x.bind fun x => if x = true then b ρ else some (.bool false)
def orV (x : Option Bool) (b : FE) (ρ : Env) : Option D := x.bind fun x => if x = true then some (.bool true) else b ρ
def iteV (x : Option Bool) (a b : FE) (ρ : Env) : Option D := x.bind fun x => if x = true then a ρ else b ρ
def iteS (x : Option Bool) (a b : FS) (ρ : Env) : Option Out := x.bind fun x => if x = true then a ρ else b ρ
def mapB (f : Bool → D) (x : Option Bool) : Option D := x.map f
def consO : Option D → Option (List D) → Option (List D)
  | some x, some xs => some (x :: xs)
  | _, _ => none
section
local instance (priority := 1000000) cdec13 (p : Prop) : Decidable p := Classical.propDecidable p
def tupO (ds : List D) : Option D := if ds.length ≤ sizeLine then some (.tuple ds) else none
def lstO (ds : List D) : Option D := if ds.length ≤ sizeLine then some (.list ds) else none
end
def d1O : Option D → Option D → Option D
  | some x, some y => (keyOf x).map fun _ => .dict [(.none, .int 0), (x, y)]
  | _, _ => none
def thenS (o : Option Out) (b : FS) : Option Out := o.bind fun o => match o with
  | .nx ρ' => b ρ'
  | o => some o
def rtO (x : Option D) : Option Out := x.map .rt
def exO (x : Option D) (ρ : Env) : Option Out := x.map fun _ => .nx ρ
def nxO (x : Option Env) : Option Out := x.map .nx
def asgO (x : Option D) (k : FG) (ρ : Env) : Option Out := x.bind fun d => nxO (k d ρ)
def ownO (i : Nat) (x : Option D) (ρ : Env) : Option Out := x.map fun d => .nx (ρ.set i (some (.own d)))
section
local instance (priority := 1000000) cdec14 (p : Prop) : Decidable p := Classical.propDecidable p
def appS (i : Nat) (d : D) (ρ : Env) : Option (Option Sl) → Option Out
  | some (some (.own (.list ds))) => if ds.length < sizeLine then some (.nx (ρ.set i (some (.own (.list (ds ++ [d])))))) else none
  | _ => none
end
def appO (i : Nat) (x : Option D) (ρ : Env) : Option Out := x.bind fun d => appS i d ρ ρ[i]?
def putS (i : Nat) (k v : D) (ρ : Env) : Option (Option Sl) → Option Out
  | some (some (.own d)) => (putO d k v).map fun d' => .nx (ρ.set i (some (.own d')))
  | _ => none
def putSO (i : Nat) (v k : Option D) (ρ : Env) : Option Out := v.bind fun v => k.bind fun k => putS i k v ρ ρ[i]?
def forO (x : Option (List D)) (k : FG) (s : FS) (ρ : Env) : Option Out := x.bind fun ds => forL k s ds ρ
section
local instance (priority := 1000000) cdec15 (p : Prop) : Decidable p := Classical.propDecidable p
def lcO (x : Option (List D)) (k : FG) (t : FT) (a : FE) (ρ : Env) : Option D := x.bind fun ds => if ds.length ≤ sizeLine then (lcL k t a ρ ds).map .list else none
def dcO (x : Option (List D)) (k : FG) (t : FT) (a b : FE) (ρ : Env) : Option D := x.bind fun ds => if ds.length ≤ sizeLine then (dcL k t a b ρ ds []).map fun kvs => .dict ((.none, .int 0) :: kvs) else none
end
def getV : Option (Option Sl) → Option D
  | some (some (.shr d)) => some d
  | _ => none
def getW : Option (Option Sl) → Option D
  | some (some (.shr d)) => some d
  | some (some (.own d)) => some d
  | _ => none
def frzS (i : Nat) (ρ : Env) : Option (Option Sl) → Env
  | some (some (.own d)) => ρ.set i (some (.shr d))
  | _ => ρ
def thenFO (i : Nat) (x : Option Out) : Option Out := x.map fun o => match o with
  | .nx ρ' => .nx (frzE i ρ')
  | o => o
section
variable {f : D → D → Option D} {g : D → Option D} {a b c : FE} {t u : FT} {ρ : Env} {i : Nat} {d : D}
@[simp] theorem getV_s : getV (some (some (.shr d))) = some d := rfl
@[simp] theorem getW_s : getW (some (some (.shr d))) = some d := rfl
@[simp] theorem getW_o : getW (some (some (.own d))) = some d := rfl
@[simp] theorem eV_e : eV i ρ = getV ρ[i]? := by unfold eV getV; split <;> simp_all
@[simp] theorem eW_e : eW i ρ = getW ρ[i]? := by unfold eW getW; split <;> simp_all
@[simp] theorem eC_e : eC d ρ = some d := rfl
@[simp] theorem ap2_s {x y : D} : ap2 f (some x) (some y) = f x y := rfl
@[simp] theorem ap3_s {h : D → Option Int → Option Int → Option D} {x : D} {y z : Option Int} : ap3 h (some x) (some y) (some z) = h x y z := rfl
@[simp] theorem o1_e : o1 g a ρ = (a ρ).bind g := rfl
@[simp] theorem o2_e : o2 f a b ρ = ap2 f (a ρ) (b ρ) := by
  unfold o2 ap2
  cases a ρ <;> cases b ρ <;> rfl
@[simp] theorem toT_e : toT a ρ = (a ρ).bind asB := rfl
@[simp] theorem asB_b {k : Bool} : asB (.bool k) = some k := rfl
@[simp] theorem asI_i {k : Int} : asI (.int k) = some k := rfl
@[simp] theorem andO_t : andO (some true) u ρ = u ρ := rfl
@[simp] theorem andO_f : andO (some false) u ρ = some false := rfl
@[simp] theorem orO_t : orO (some true) u ρ = some true := rfl
@[simp] theorem orO_f : orO (some false) u ρ = u ρ := rfl
@[simp] theorem andV_t : andV (some true) b ρ = b ρ := rfl
@[simp] theorem andV_f : andV (some false) b ρ = some (.bool false) := rfl
@[simp] theorem orV_t : orV (some true) b ρ = some (.bool true) := rfl
@[simp] theorem orV_f : orV (some false) b ρ = b ρ := rfl
@[simp] theorem iteV_t : iteV (some true) a b ρ = a ρ := rfl
@[simp] theorem iteV_f : iteV (some false) a b ρ = b ρ := rfl
@[simp] theorem tAndF_e : tAndF t u ρ = andO (t ρ) u ρ := rfl
@[simp] theorem tOrF_e : tOrF t u ρ = orO (t ρ) u ρ := rfl
@[simp] theorem tNotF_e : tNotF t ρ = (t ρ).map not := rfl
@[simp] theorem eAnd_e : eAnd a b ρ = andV ((a ρ).bind asB) b ρ := rfl
@[simp] theorem eOr_e : eOr a b ρ = orV ((a ρ).bind asB) b ρ := rfl
@[simp] theorem eNot_e : eNot a ρ = mapB (fun x => .bool (!x)) ((a ρ).bind asB) := rfl
@[simp] theorem mapB_s {h : Bool → D} {k : Bool} : mapB h (some k) = some (h k) := rfl
@[simp] theorem eIf_e : eIf t a b ρ = iteV (t ρ) a b ρ := rfl
@[simp] theorem lN_e : lN ρ = some [] := rfl
@[simp] theorem consO_s {x : D} {xs : List D} : consO (some x) (some xs) = some (x :: xs) := rfl
@[simp] theorem lC_e {l : FL} : lC a l ρ = consO (a ρ) (l ρ) := by
  unfold lC consO
  cases a ρ <;> cases l ρ <;> rfl
@[simp] theorem o3c_e {f' : D → D → Option D} : o3c f f' a b c ρ = andV ((ap2 f (a ρ) (b ρ)).bind asB) (o2 f' b c) ρ := by
  unfold o3c andV o2 ap2
  cases a ρ <;> cases b ρ <;> rfl
@[simp] theorem eCall_e {h : List D → Option D} {l : FL} : eCall h l ρ = (l ρ).bind h := rfl
def apM (h : D → List D → Option D) : Option D → Option (List D) → Option D
  | some x, some xs => h x xs
  | _, _ => none
@[simp] theorem apM_s {h : D → List D → Option D} {x : D} {xs : List D} : apM h (some x) (some xs) = h x xs := rfl
@[simp] theorem eMeth_e {h : D → List D → Option D} {l : FL} : eMeth h a l ρ = apM h (a ρ) (l ρ) := by
  unfold eMeth apM
  cases a ρ <;> cases l ρ <;> rfl
theorem tupO_s {ds : List D} (h : ds.length ≤ 16777216) : tupO ds = some (.tuple ds) := if_pos (by rw [sizeLine_eq]; exact h)
theorem lstO_s {ds : List D} (h : ds.length ≤ 16777216) : lstO ds = some (.list ds) := if_pos (by rw [sizeLine_eq]; exact h)
@[simp] theorem tupO_0 : tupO [] = some (.tuple []) := tupO_s (by show 0 ≤ _; decide)
@[simp] theorem lstO_0 : lstO [] = some (.list []) := lstO_s (by show 0 ≤ _; decide)
@[simp] theorem tupO_1 {x : D} : tupO [x] = some (.tuple [x]) := tupO_s (by show 1 ≤ _; decide)
@[simp] theorem lstO_1 {x : D} : lstO [x] = some (.list [x]) := lstO_s (by show 1 ≤ _; decide)
@[simp] theorem tupO_2 {x y : D} : tupO [x, y] = some (.tuple [x, y]) := tupO_s (by show 2 ≤ _; decide)
@[simp] theorem lstO_2 {x y : D} : lstO [x, y] = some (.list [x, y]) := lstO_s (by show 2 ≤ _; decide)
@[simp] theorem tupO_3 {x y z : D} : tupO [x, y, z] = some (.tuple [x, y, z]) := tupO_s (by show 3 ≤ _; decide)
@[simp] theorem lstO_3 {x y z : D} : lstO [x, y, z] = some (.list [x, y, z]) := lstO_s (by show 3 ≤ _; decide)
@[simp] theorem tupO_4 {x y z w : D} : tupO [x, y, z, w] = some (.tuple [x, y, z, w]) := tupO_s (by show 4 ≤ _; decide)
@[simp] theorem lstO_4 {x y z w : D} : lstO [x, y, z, w] = some (.list [x, y, z, w]) := lstO_s (by show 4 ≤ _; decide)
@[simp] theorem tupO_5 {x y z w v : D} : tupO [x, y, z, w, v] = some (.tuple [x, y, z, w, v]) := tupO_s (by show 5 ≤ _; decide)
@[simp] theorem eTup_e {l : FL} : eTup l ρ = (l ρ).bind tupO := rfl
@[simp] theorem eLst_e {l : FL} : eLst l ρ = (l ρ).bind lstO := rfl
@[simp] theorem d1O_s {x y : D} : d1O (some x) (some y) = (keyOf x).map fun _ => .dict [(.none, .int 0), (x, y)] := rfl
@[simp] theorem eD1_e : eD1 a b ρ = d1O (a ρ) (b ρ) := by
  unfold eD1 d1O
  cases a ρ <;> cases b ρ <;> rfl
@[simp] theorem pN_e : pN ρ = some none := rfl
@[simp] theorem pS_e : pS a ρ = ((a ρ).bind asI).map some := rfl
@[simp] theorem eSl_e {p q : FP} : eSl a p q ρ = ap3 slD (a ρ) (p ρ) (q ρ) := by
  unfold eSl ap3
  cases a ρ <;> cases p ρ <;> cases q ρ <;> rfl
@[simp] theorem iAny_e : iAny a ρ = (a ρ).bind itemsD := rfl
@[simp] theorem iCall_e {h : List D → Option (List D)} {l : FL} : iCall h l ρ = (l ρ).bind h := rfl
@[simp] theorem tYs_e : tYs ρ = some true := rfl
@[simp] theorem gN_e : gN i d ρ = some (ρ.set i (some (.shr d))) := rfl
@[simp] theorem gT_e {n : Nat} {h : List D → Env → Option Env} {ds : List D} : gT n h (.tuple ds) ρ = if ds.length = n then h ds ρ else none := rfl
@[simp] theorem gsN_e : gsN [] ρ = some ρ := rfl
@[simp] theorem gsC_e {k : FG} {h : List D → Env → Option Env} {ds : List D} : gsC k h (d :: ds) ρ = (k d ρ).bind (h ds) := rfl
variable {s s' : FS}
@[simp] theorem thenS_nx : thenS (some (.nx ρ)) s = s ρ := rfl
@[simp] theorem thenS_rt : thenS (some (.rt d)) s = some (.rt d) := rfl
@[simp] theorem thenS_bk : thenS (some (.bk ρ)) s = some (.bk ρ) := rfl
@[simp] theorem thenS_ct : thenS (some (.ct ρ)) s = some (.ct ρ) := rfl
@[simp] theorem iteS_t : iteS (some true) s s' ρ = s ρ := rfl
@[simp] theorem iteS_f : iteS (some false) s s' ρ = s' ρ := rfl
theorem iteS_d {p : Prop} [Decidable p] : iteS (some (decide p)) s s' ρ = if p then s ρ else s' ρ := by
  by_cases h : p
  · rw [if_pos h, decide_eq_true h]; rfl
  · rw [if_neg h, decide_eq_false h]; rfl
@[simp] theorem sNx_e : sNx ρ = some (.nx ρ) := rfl
@[simp] theorem sBk_e : sBk ρ = some (.bk ρ) := rfl
@[simp] theorem sCt_e : sCt ρ = some (.ct ρ) := rfl
@[simp] theorem sSeq_e : sSeq s s' ρ = thenS (s ρ) s' := rfl
@[simp] theorem rtO_s : rtO (some d) = some (.rt d) := rfl
@[simp] theorem sRet_e : sRet a ρ = rtO (a ρ) := rfl
@[simp] theorem sRetN_e : sRetN ρ = some (.rt .none) := rfl
@[simp] theorem exO_s : exO (some d) ρ = some (.nx ρ) := rfl
@[simp] theorem sEx_e : sEx a ρ = exO (a ρ) ρ := rfl
@[simp] theorem sIf_e : sIf t s s' ρ = iteS (t ρ) s s' ρ := rfl
@[simp] theorem nxO_s : nxO (some ρ) = some (.nx ρ) := rfl
@[simp] theorem asgO_s {k : FG} : asgO (some d) k ρ = nxO (k d ρ) := rfl
@[simp] theorem sAsg_e {k : FG} : sAsg a k ρ = asgO (a ρ) k ρ := rfl
@[simp] theorem ownO_s : ownO i (some d) ρ = some (.nx (ρ.set i (some (.own d)))) := rfl
@[simp] theorem sOwn_e : sOwn i a ρ = ownO i (a ρ) ρ := rfl
@[simp] theorem sFrz_e : sFrz i s ρ = s (frzE i ρ) := rfl
@[simp] theorem frzS_o : frzS i ρ (some (some (.own d))) = ρ.set i (some (.shr d)) := rfl
@[simp] theorem frzS_s : frzS i ρ (some (some (.shr d))) = ρ := rfl
@[simp] theorem frzS_n : frzS i ρ (some none) = ρ := rfl
@[simp] theorem frzE_e : frzE i ρ = frzS i ρ ρ[i]? := by
  unfold frzE frzS
  split <;> simp_all
@[simp] theorem thenFO_nx : thenFO i (some (.nx ρ)) = some (.nx (frzE i ρ)) := rfl
@[simp] theorem thenFO_rt : thenFO i (some (.rt d)) = some (.rt d) := rfl
@[simp] theorem thenF_e : thenF i s ρ = thenFO i (s ρ) := rfl
theorem appS_s {ds : List D} (h : ds.length < 16777216) : appS i d ρ (some (some (.own (.list ds)))) = some (.nx (ρ.set i (some (.own (.list (ds ++ [d])))))) := if_pos (by rw [sizeLine_eq]; exact h)
@[simp] theorem appO_s : appO i (some d) ρ = appS i d ρ ρ[i]? := rfl
@[simp] theorem sApp_e : sApp i a ρ = appO i (a ρ) ρ := by
  unfold sApp appO
  cases a ρ with
  | none => rfl
  | some d =>
    simp only [Option.bind_some]
    unfold appS
    split <;> simp_all
@[simp] theorem putS_o {k v d : D} : putS i k v ρ (some (some (.own d))) = (putO d k v).map fun d' => .nx (ρ.set i (some (.own d'))) := rfl
@[simp] theorem putSO_s {k v : D} : putSO i (some v) (some k) ρ = putS i k v ρ ρ[i]? := rfl
@[simp] theorem sPut_e {k : FE} : sPut i k a ρ = putSO i (a ρ) (k ρ) ρ := by
  unfold sPut putSO
  cases a ρ with
  | none => rfl
  | some v =>
    cases k ρ with
    | none => rfl
    | some k =>
      simp only [Option.bind_some]
      unfold putS
      split <;> simp_all
@[simp] theorem forO_s {ds : List D} {k : FG} : forO (some ds) k s ρ = forL k s ds ρ := rfl
@[simp] theorem sFor_e {l : FI} {k : FG} : sFor l k s ρ = forO (l ρ) k s ρ := rfl
@[simp] theorem wipeE_nil : wipeE ρ [] = ρ := rfl
@[simp] theorem wipeE_cons {v : Nat} {vs : List Nat} : wipeE ρ (v :: vs) = (wipeE ρ vs).set v none := rfl
theorem lcO_s {ds : List D} {k : FG} (h : ds.length ≤ 16777216) : lcO (some ds) k t a ρ = (lcL k t a ρ ds).map .list := if_pos (by rw [sizeLine_eq]; exact h)
theorem dcO_s {ds : List D} {k : FG} (h : ds.length ≤ 16777216) : dcO (some ds) k t a b ρ = (dcL k t a b ρ ds []).map fun kvs => .dict ((.none, .int 0) :: kvs) := if_pos (by rw [sizeLine_eq]; exact h)
@[simp] theorem eLc_e {vs : List Nat} {l : FI} {k : FG} : eLc vs l k t a ρ = lcO (l ρ) k t a (wipeE ρ vs) := rfl
@[simp] theorem eDc_e {vs : List Nat} {l : FI} {k : FG} : eDc vs l k t a b ρ = dcO (l ρ) k t a b (wipeE ρ vs) := rfl
@[simp] theorem bind0_e {n : Nat} {ds : List D} : bind0 n ds = ds.map (fun d => some (.shr d)) ++ List.replicate (n - ds.length) none := rfl
def endF (o : Option Out) : Option D := o.bind fun o => match o with | .nx _ => some .none | .rt d => some d | _ => none
@[simp] theorem endF_nx : endF (some (.nx ρ)) = some .none := rfl
@[simp] theorem endF_rt : endF (some (.rt d)) = some d := rfl
theorem callF_1 {n : Nat} {x : D} : callF n 1 s [x] = endF (s (bind0 n [x])) := rfl
theorem callF_2 {n : Nat} {x y : D} : callF n 2 s [x, y] = endF (s (bind0 n [x, y])) := rfl
theorem callF_3 {n : Nat} {x y z : D} : callF n 3 s [x, y, z] = endF (s (bind0 n [x, y, z])) := rfl
theorem callF_4 {n : Nat} {x y z w : D} : callF n 4 s [x, y, z, w] = endF (s (bind0 n [x, y, z, w])) := rfl
theorem callF_5 {n : Nat} {x y z w v : D} : callF n 5 s [x, y, z, w, v] = endF (s (bind0 n [x, y, z, w, v])) := rfl
theorem forL_nil {k : FG} : forL k s [] ρ = some (.nx ρ) := rfl
/-- behind a turn -/
def turnS (o : Option Out) (r : FS) : Option Out := o.bind fun o => match o with
  | .nx ρ' => r ρ'
  | .ct ρ' => r ρ'
  | .bk ρ' => some (.nx ρ')
  | .rt d => some (.rt d)
@[simp] theorem turnS_nx {r : FS} : turnS (some (.nx ρ)) r = r ρ := rfl
@[simp] theorem turnS_ct {r : FS} : turnS (some (.ct ρ)) r = r ρ := rfl
@[simp] theorem turnS_bk {r : FS} : turnS (some (.bk ρ)) r = some (.nx ρ) := rfl
@[simp] theorem turnS_rt {r : FS} : turnS (some (.rt d)) r = some (.rt d) := rfl
theorem forL_cons {i : Nat} {ds : List D} : forL (gN i) s (d :: ds) ρ = turnS (s (ρ.set i (some (.shr d)))) (forL (gN i) s ds) := rfl
theorem forL_consG {k : FG} {ds : List D} : forL k s (d :: ds) ρ = (k d ρ).bind fun ρ1 => turnS (s ρ1) (forL k s ds) := rfl
theorem whileL_succ {n : Nat} : whileL t s (n + 1) ρ = iteS (t ρ) (fun ρ => turnS (s ρ) (whileL t s n)) sNx ρ := rfl
theorem whileL_t {n : Nat} (h : t ρ = some true) : whileL t s (n + 1) ρ = turnS (s ρ) (whileL t s n) := by rw [whileL_succ, h]; rfl
theorem whileL_f {n : Nat} (h : t ρ = some false) : whileL t s (n + 1) ρ = some (.nx ρ) := by rw [whileL_succ, h]; rfl
theorem lcL_nil {k : FG} : lcL k t a ρ [] = some [] := rfl
/-- one more item that is taken -/
def lcC (x : Option D) (r : Option (List D)) : Option (List D) := x.bind fun y => r.map fun ys => y :: ys
@[simp] theorem lcC_s {x : D} {r : Option (List D)} : lcC (some x) r = r.map fun ys => x :: ys := rfl
theorem lcL_y {i : Nat} {ds : List D} : lcL (gN i) tYs a ρ (d :: ds) = lcC (a (ρ.set i (some (.shr d)))) (lcL (gN i) tYs a ρ ds) := rfl
theorem lcL_t {i : Nat} {ds : List D} (h : t (ρ.set i (some (.shr d))) = some true) : lcL (gN i) t a ρ (d :: ds) = lcC (a (ρ.set i (some (.shr d)))) (lcL (gN i) t a ρ ds) := by
  show ((t _).bind _) = _
  rw [h]
  rfl
theorem lcL_f {i : Nat} {ds : List D} (h : t (ρ.set i (some (.shr d))) = some false) : lcL (gN i) t a ρ (d :: ds) = lcL (gN i) t a ρ ds := by
  show ((t _).bind _) = _
  rw [h]
  rfl
/-- a comprehension over items of one kind -/
theorem lcL_map {α : Type} {i : Nat} (enc : α → D) (h : α → D) : ∀ (xs : List α), (∀ x ∈ xs, a (ρ.set i (some (.shr (enc x)))) = some (h x)) → lcL (gN i) tYs a ρ (xs.map enc) = some (xs.map h)
  | [], _ => rfl
  | x :: xs, hh => by
    rw [List.map_cons, lcL_y, hh x List.mem_cons_self, lcC_s, lcL_map enc h xs fun y hy => hh y (List.mem_cons_of_mem _ hy)]
    rfl
theorem lcL_filter {α : Type} {i : Nat} (enc : α → D) (p : α → Bool) (h : α → D) : ∀ (xs : List α), (∀ x ∈ xs, t (ρ.set i (some (.shr (enc x)))) = some (p x)) → (∀ x ∈ xs, p x = true → a (ρ.set i (some (.shr (enc x)))) = some (h x)) → lcL (gN i) t a ρ (xs.map enc) = some ((xs.filter p).map h)
  | [], _, _ => rfl
  | x :: xs, ht, hh => by
    have ih := lcL_filter enc p h xs (fun y hy => ht y (List.mem_cons_of_mem _ hy)) (fun y hy => hh y (List.mem_cons_of_mem _ hy))
    cases hp : p x with
    | true =>
      rw [List.map_cons, lcL_t ((ht x List.mem_cons_self).trans (by rw [hp])), hh x List.mem_cons_self hp, lcC_s, ih]
      simp [List.filter_cons, hp]
    | false =>
      rw [List.map_cons, lcL_f ((ht x List.mem_cons_self).trans (by rw [hp])), ih]
      simp [List.filter_cons, hp]
end
/-! ### operators at ints -/
section
variable {i j : Int}
@[simp] theorem add_ii : addD (.int i) (.int j) = some (.int (i + j)) := rfl
@[simp] theorem sub_ii : subD (.int i) (.int j) = some (.int (i - j)) := rfl
theorem mul_ii (h : (-18446744073709551616 < i ∧ i < 18446744073709551616) ∨ (-18446744073709551616 < j ∧ j < 18446744073709551616)) : mulD (.int i) (.int j) = some (.int (i * j)) := if_pos h
theorem mod_ii (h : 0 < j) : modD (.int i) (.int j) = some (.int (i % j)) := if_pos h
theorem fdiv_ii (h : 0 < j) (h2 : j < 1073741824) : fdivD (.int i) (.int j) = some (.int (i / j)) := if_pos ⟨h, h2⟩
@[simp] theorem neg_i : negD (.int i) = some (.int (-i)) := rfl
@[simp] theorem lt_ii : ltD (.int i) (.int j) = some (.bool (decide (i < j))) := rfl
@[simp] theorem le_ii : leD (.int i) (.int j) = some (.bool (decide (i ≤ j))) := rfl
@[simp] theorem gt_ii : gtD (.int i) (.int j) = some (.bool (decide (j < i))) := rfl
@[simp] theorem ge_ii : geD (.int i) (.int j) = some (.bool (decide (j ≤ i))) := rfl
@[simp] theorem eq_ii : eqD (.int i) (.int j) = some (.bool (decide (i = j))) := rfl
@[simp] theorem ne_ii : neD (.int i) (.int j) = some (.bool (!decide (i = j))) := rfl
theorem pow_18 : powD (.int 10) (.int 18) = some (.int 1000000000000000000) := by
  simp only [powD]
  rw [if_pos (by decide)]
  rfl
theorem rng1_i (h : -4611686018427387904 ≤ j) (h2 : j < 4611686018427387904) : rng1 [.int j] = some (rngL 0 j.toNat) := if_pos ⟨h, h2⟩
theorem rng2_i (h : -4611686018427387904 ≤ i) (h2 : i < 4611686018427387904) (h3 : -4611686018427387904 ≤ j) (h4 : j < 4611686018427387904) : rng2 [.int i, .int j] = some (rngL i (j - i).toNat) := if_pos ⟨h, h2, h3, h4⟩
theorem rng3_i (h : -4611686018427387904 ≤ i) (h2 : i < 4611686018427387904) (h3 : -4611686018427387904 ≤ j) (h4 : j < 4611686018427387904) : rng3 [.int i, .int j, .int (-1)] = some (rngC i (-1) (i - j).toNat) := if_pos ⟨rfl, h, h2, h3, h4⟩
@[simp] theorem len_l {ds : List D} : lenF [.list ds] = some (.int ds.length) := rfl
@[simp] theorem len_t {ds : List D} : lenF [.tuple ds] = some (.int ds.length) := rfl
@[simp] theorem len_dk {kvs : List (D × D)} : lenF [.dict ((.none, .int 0) :: kvs)] = some (.int kvs.length) := rfl
@[simp] theorem len_scr {ns : List Int} : lenF [scrD ns] = some (.int ns.length) := by simp [scrD, lenF]
theorem sz (n : Nat) : (n ≤ sizeLine) = (n ≤ 16777216) := by rw [sizeLine_eq]
theorem szl (n : Nat) : (n < sizeLine) = (n < 16777216) := by rw [sizeLine_eq]
end
/-! ### words -/
def wd (l : List Nat) : Str := ⟨(l.map (· + 97)).toArray⟩
abbrev dW (l : List Nat) : D := .str (wd l)
theorem wd_len (l : List Nat) : (wd l).length = l.length := by simp [wd, Str.length]
theorem wd_cps (l : List Nat) : (wd l).cps.toList = l.map (· + 97) := by simp [wd]
theorem wd_app (l m : List Nat) : wd l ++ wd m = wd (l ++ m) := by
  show (⟨(wd l).cps ++ (wd m).cps⟩ : Str) = wd (l ++ m)
  simp [wd]
theorem wd_inj {l m : List Nat} (h : wd l = wd m) : l = m := by
  have e := congrArg (fun s : Str => s.cps.toList.map (· - 97)) h
  simpa [wd, Function.comp_def] using e
theorem wd_eq (l m : List Nat) : decide (wd l = wd m) = decide (l = m) := by
  by_cases e : l = m
  · subst e; simp
  · rw [decide_eq_false e, decide_eq_false fun z => e (wd_inj z)]
theorem abc_wd : (Str.ofString "abc") = wd [0, 1, 2] := by decide +kernel
theorem nil_wd : (Str.ofString "") = wd [] := by decide +kernel
theorem a_wd : (Str.ofString "a") = wd [0] := by decide +kernel
theorem items_wd (l : List Nat) : itemsD (dW l) = some (l.map fun c => dW [c]) := by
  simp [itemsD, wd, Function.comp_def]
theorem add_wd {l m : List Nat} (h : l.length + m.length ≤ 16777216) : addD (dW l) (dW m) = some (dW (l ++ m)) := by
  simp only [addD]
  rw [wd_len, wd_len, if_pos (by rw [sizeLine_eq]; exact h), wd_app]
theorem sl_wd {l : List Nat} (lo hi : Option Int) (h : l.length ≤ 16777216) : slD (dW l) lo hi = some (dW ((l.drop (HT.sIx l.length 0 lo)).take (HT.sIx l.length l.length hi - HT.sIx l.length 0 lo))) := by
  simp only [slD]
  rw [wd_len, if_pos (by rw [sizeLine_eq]; exact h)]
  unfold cutS
  rw [wd_len, wd_cps]
  simp [wd]
theorem in_wd (c : Nat) (l : List Nat) : inB (dW [c]) (dW l) = some (decide (c ∈ l)) := by
  show (match (wd [c]).cps.toList with | [c] => some (decide (c ∈ (wd l).cps.toList)) | _ => none) = _
  rw [wd_cps, wd_cps]
  simp
theorem eq_wd (l m : List Nat) : eqD (dW l) (dW m) = some (.bool (decide (l = m))) := by
  show some (PyData.bool (decide (wd l = wd m))) = _
  rw [wd_eq]
theorem len_wd {l : List Nat} (h : l.length ≤ 16777216) : lenF [dW l] = some (.int l.length) := by
  simp only [lenF, lenS]
  rw [wd_len, if_pos (by rw [sizeLine_eq]; exact h)]
theorem sIx_nil (n d : Nat) : HT.sIx n d none = d := rfl
/-- the first letters of the alphabet -/
theorem abc_sl {k : Nat} (h : k ≤ 3) : slD (dW [0, 1, 2]) none (some (k : Int)) = some (dW (List.range k)) := by
  rw [sl_wd _ _ (by decide)]
  rcases k with _ | _ | _ | _ | k
  · rfl
  · rfl
  · rfl
  · rfl
  · omega
theorem abc_itm {k : Nat} (h : k ≤ 3) : (slD (dW [0, 1, 2]) none (some (k : Int))).bind itemsD = some ((List.range k).map fun c => dW [c]) := by
  rw [abc_sl h, Option.bind_some, items_wd]
theorem ix_wd {l : List Nat} {i : Nat} (h : i < l.length) (hz : l.length ≤ 16777216) : ixD (dW l) (.int (i : Int)) = some (dW [l[i]]) := by
  simp only [ixD, ixS]
  rw [wd_len, if_pos (by rw [sizeLine_eq]; exact hz), wd_cps, atI_nat (v := l[i] + 97) (by rw [List.getElem?_map, List.getElem?_eq_getElem h]; rfl)]
  rfl
theorem ix_l {ds : List D} {i : Nat} {d : D} (h : ds[i]? = some d) : ixD (.list ds) (.int (i : Int)) = some d := atI_nat h
theorem ix_t {ds : List D} {i : Nat} {d : D} (h : ds[i]? = some d) : ixD (.tuple ds) (.int (i : Int)) = some d := atI_nat h
@[simp] theorem ix_t0 {x : D} {ds : List D} : ixD (.tuple (x :: ds)) (.int 0) = some x := ix_t (i := 0) rfl
@[simp] theorem ix_t1 {x y : D} {ds : List D} : ixD (.tuple (x :: y :: ds)) (.int 1) = some y := ix_t (i := 1) rfl
@[simp] theorem ix_t2 {x y z : D} {ds : List D} : ixD (.tuple (x :: y :: z :: ds)) (.int 2) = some z := ix_t (i := 2) rfl
@[simp] theorem ix_l0 {x : D} {ds : List D} : ixD (.list (x :: ds)) (.int 0) = some x := ix_l (i := 0) rfl
theorem strsOf_wd : ∀ ls : List (List Nat), strsOf (ls.map dW) = some (ls.map wd)
  | [] => rfl
  | l :: ls => by simp [strsOf, strsOf_wd ls]
theorem join_wd (ls : List (List Nat)) (h : (ls.map (·.length)).sum ≤ 16777216) : joinF (dW []) [.list (ls.map dW)] = some (dW ls.flatten) := by
  have e : ∀ (ls : List (List Nat)) (l : List Nat), Str.join (wd []) ((l :: ls).map wd) = wd (l ++ ls.flatten) := by
    intro ls
    induction ls with
    | nil => intro l; simp [Str.join]
    | cons m ls ih =>
      intro l
      have := ih m
      rw [List.map_cons, List.map_cons]
      show wd l ++ wd [] ++ Str.join (wd []) (wd m :: ls.map wd) = _
      rw [← List.map_cons (f := wd), this, wd_app, wd_app]
      simp
  have e2 : Txt.join (wd []) (ls.map wd) = wd ls.flatten := by
    rw [show Txt.join (wd []) (ls.map wd) = Str.join (wd []) (ls.map wd) from StrLaws.glued_eq_join _ _]
    cases ls with
    | nil => rfl
    | cons l ls => rw [e]; simp
  have hl : (List.map (·.length) (ls.map wd)) = ls.map (·.length) := by
    rw [List.map_map]
    exact List.map_congr_left fun l _ => wd_len l
  simp only [joinF]
  rw [strsOf_wd, Option.bind_some, hl, if_pos (by rw [wd_len]; simpa using h), e2]
theorem sl_take (p s : List Nat) (h : (p ++ s).length ≤ 16777216) : slD (dW (p ++ s)) none (some (p.length : Int)) = some (dW p) := by
  rw [sl_wd _ _ h, HT.sIx_nat, sIx_nil]
  simp
theorem sl_drop (p s : List Nat) (h : (p ++ s).length ≤ 16777216) : slD (dW (p ++ s)) (some (p.length : Int)) none = some (dW s) := by
  rw [sl_wd _ _ h, HT.sIx_nat, sIx_nil]
  simp
theorem keq_wd (a b : List Nat) : keq (dW a) (dW b) = decide (a = b) := by
  show decide (wd a = wd b) = _
  exact wd_eq a b
@[simp] theorem keyOf_wd (a : List Nat) : keyOf (dW a) = some (.inr (wd a)) := rfl
end DV
end

set_option Elab.async false
set_option linter.all false
set_option maxRecDepth 100000
/-! DVn: dicts of the kind K as lists of pairs. -/
noncomputable section
namespace DV
open PySem L2
/-- keys that are told apart by what they stand for -/
structure KeyE {α : Type} [DecidableEq α] (ek : α → D) : Prop where
  eq : ∀ a b, keq (ek a) (ek b) = decide (a = b)
  ok : ∀ a, ∃ k, keyOf (ek a) = some k
section
variable {α β : Type} [DecidableEq α] {ek : α → D} {ev : β → D}
def enM (ek : α → D) (ev : β → D) (m : List (α × β)) : List (D × D) := m.map fun p => (ek p.1, ev p.2)
abbrev dM (ek : α → D) (ev : β → D) (m : List (α × β)) : D := .dict ((.none, .int 0) :: enM ek ev m)
def mget (m : List (α × β)) (k : α) : Option β := (m.find? fun p => decide (p.1 = k)).map (·.2)
def mput (m : List (α × β)) (k : α) (v : β) : List (α × β) := if k ∈ m.map (·.1) then m.map (fun p => if p.1 = k then (p.1, v) else p) else m ++ [(k, v)]
theorem enM_len (m : List (α × β)) : (enM ek ev m).length = m.length := by simp [enM]
theorem dget_en (E : KeyE ek) (m : List (α × β)) (k : α) : dget (enM ek ev m) (ek k) = (mget m k).map ev := by
  unfold dget mget enM
  rw [List.find?_map]
  simp only [Function.comp_def, E.eq]
  cases m.find? (fun p => decide (p.1 = k)) <;> rfl
theorem dput_en (E : KeyE ek) (m : List (α × β)) (k : α) (v : β) : dput (enM ek ev m) (ek k) (ev v) = enM ek ev (mput m k v) := by
  unfold dput mput enM
  simp only [List.any_map, Function.comp_def, E.eq, List.any_eq_true, decide_eq_true_eq]
  by_cases h : k ∈ m.map (·.1)
  · have h' : ∃ x ∈ m, x.1 = k := by simpa using h
    rw [if_pos h, if_pos h', List.map_map, List.map_map]
    refine List.map_congr_left fun p _ => ?_
    simp only [Function.comp_def, E.eq, decide_eq_true_eq]
    by_cases e : p.1 = k
    · rw [if_pos e, if_pos e]
    · rw [if_neg e, if_neg e]
  · have h' : ¬ ∃ x ∈ m, x.1 = k := by simpa using h
    rw [if_neg h, if_neg h', List.map_append]
    rfl
theorem mget_none {m : List (α × β)} {k : α} : mget m k = none ↔ k ∉ m.map (·.1) := by
  unfold mget
  rw [Option.map_eq_none_iff, List.find?_eq_none]
  constructor
  · rintro h hm
    obtain ⟨p, hp, e⟩ := List.mem_map.mp hm
    exact h p hp (by simpa using e)
  · intro h p hp e
    exact h (List.mem_map.mpr ⟨p, hp, by simpa using e⟩)
theorem mput_keys (m : List (α × β)) (k : α) (v : β) : (mput m k v).map (·.1) = if k ∈ m.map (·.1) then m.map (·.1) else m.map (·.1) ++ [k] := by
  unfold mput
  by_cases h : k ∈ m.map (·.1)
  · rw [if_pos h, if_pos h, List.map_map]
    refine List.map_congr_left fun p _ => ?_
    simp only [Function.comp_def]
    by_cases e : p.1 = k
    · rw [if_pos e]
    · rw [if_neg e]
  · rw [if_neg h, if_neg h, List.map_append]
    rfl
theorem mput_nodup {m : List (α × β)} {k : α} {v : β} (h : (m.map (·.1)).Nodup) : ((mput m k v).map (·.1)).Nodup := by
  rw [mput_keys]
  split
  · exact h
  · rename_i e
    rw [List.nodup_append]
    exact ⟨h, by simp, fun a ha b hb => by
      simp at hb
      subst hb
      exact fun z => e (z ▸ ha)⟩
theorem mget_put (m : List (α × β)) (k : α) (v : β) (k' : α) : mget (mput m k v) k' = if k' = k then some v else mget m k' := by
  unfold mput
  by_cases h : k ∈ m.map (·.1)
  · rw [if_pos h]
    unfold mget
    rw [List.find?_map]
    have e1 : ((fun p : α × β => decide (p.1 = k')) ∘ fun p : α × β => if p.1 = k then (p.1, v) else p) = fun p : α × β => decide (p.1 = k') := by
      funext p
      simp only [Function.comp_def]
      by_cases e : p.1 = k
      · rw [if_pos e]
      · rw [if_neg e]
    rw [e1]
    by_cases e : k' = k
    · subst e
      rw [if_pos rfl]
      cases q : m.find? (fun p => decide (p.1 = k')) with
      | none =>
        have := mget_none (m := m) (k := k')
        exact absurd h (this.mp (by unfold mget; rw [q]; rfl))
      | some p =>
        have hp := List.find?_some q
        simp only [decide_eq_true_eq] at hp
        simp [hp]
    · rw [if_neg e]
      cases q : m.find? (fun p => decide (p.1 = k')) with
      | none => rfl
      | some p =>
        have hp := List.find?_some q
        simp only [decide_eq_true_eq] at hp
        simp [hp, e]
  · rw [if_neg h]
    unfold mget
    rw [List.find?_append]
    by_cases e : k' = k
    · subst e
      have q : m.find? (fun p => decide (p.1 = k')) = none := by
        have := mget_none (m := m) (k := k')
        simpa [mget] using this.mpr h
      rw [q, if_pos rfl]
      simp
    · rw [if_neg e]
      have e' : ¬ k = k' := fun z => e z.symm
      cases q : m.find? (fun p => decide (p.1 = k')) with
      | none => simp [e']
      | some p => simp
theorem mput_new {m : List (α × β)} {k : α} {v : β} (h : k ∉ m.map (·.1)) : mput m k v = m ++ [(k, v)] := if_neg h
theorem mget_of_mem {m : List (α × β)} (hn : (m.map (·.1)).Nodup) {k : α} {v : β} (h : (k, v) ∈ m) : mget m k = some v := by
  induction m with
  | nil => cases h
  | cons p m ih =>
    rw [List.map_cons, List.nodup_cons] at hn
    unfold mget
    rcases List.mem_cons.mp h with e | e
    · subst e
      simp
    · have hk : p.1 ≠ k := fun z => hn.1 (List.mem_map.mpr ⟨_, e, by simp [z]⟩)
      rw [List.find?_cons, decide_eq_false hk]
      exact ih hn.2 e
theorem ix_dM (E : KeyE ek) {m : List (α × β)} {k : α} {v : β} (h : mget m k = some v) : ixD (dM ek ev m) (ek k) = some (ev v) := by
  show ((keyOf (ek k)).bind fun _ => dget (enM ek ev m) (ek k)) = _
  obtain ⟨q, hq⟩ := E.ok k
  rw [hq, Option.bind_some, dget_en E, h]
  rfl
theorem put_dM (E : KeyE ek) {m : List (α × β)} {k : α} {v : β} (h : m.length < 16777216) : putO (dM ek ev m) (ek k) (ev v) = some (dM ek ev (mput m k v)) := by
  show ((keyOf (ek k)).bind fun _ => putKv (.int 0) (enM ek ev m) (ek k) (ev v)) = _
  obtain ⟨q, hq⟩ := E.ok k
  rw [hq, Option.bind_some]
  have e : putKv (.int 0) (enM ek ev m) (ek k) (ev v) = some (.dict ((.none, .int 0) :: dput (enM ek ev m) (ek k) (ev v))) := if_pos (by rw [sizeLine_eq, enM_len]; exact h)
  rw [e, dput_en E]
theorem items_dM (m : List (α × β)) : itemsD (dM ek ev m) = some ((m.map (·.1)).map ek) := by
  show some ((enM ek ev m).map (·.1)) = _
  simp [enM, Function.comp_def]
theorem len_dM (m : List (α × β)) : lenF [dM ek ev m] = some (.int m.length) := by
  show some (PyData.int (enM ek ev m).length) = _
  rw [enM_len]
/-- a dict comprehension over items of one kind -/
theorem dcL_map {γ : Type} (E : KeyE ek) {i : Nat} {ρ : Env} {fk fv : FE} (enc : γ → D) (kf : γ → α) (vf : γ → β) : ∀ (xs : List γ) (acc : List (α × β)),
    (∀ x ∈ xs, fk (ρ.set i (some (.shr (enc x)))) = some (ek (kf x))) → (∀ x ∈ xs, fv (ρ.set i (some (.shr (enc x)))) = some (ev (vf x))) →
    dcL (gN i) tYs fk fv ρ (xs.map enc) (enM ek ev acc) = some (enM ek ev (xs.foldl (fun m x => mput m (kf x) (vf x)) acc))
  | [], acc, _, _ => rfl
  | x :: xs, acc, h1, h2 => by
    obtain ⟨q, hq⟩ := E.ok (kf x)
    have ih := dcL_map E (ρ := ρ) (i := i) (fk := fk) (fv := fv) enc kf vf xs (mput acc (kf x) (vf x)) (fun y hy => h1 y (List.mem_cons_of_mem _ hy)) (fun y hy => h2 y (List.mem_cons_of_mem _ hy))
    rw [List.map_cons]
    show (fk (ρ.set i (some (.shr (enc x))))).bind (fun k => (fv (ρ.set i (some (.shr (enc x))))).bind fun v => (keyOf k).bind fun _ => dcL (gN i) tYs fk fv ρ (xs.map enc) (dput (enM ek ev acc) k v)) = _
    rw [h1 x List.mem_cons_self, Option.bind_some, h2 x List.mem_cons_self, Option.bind_some, hq, Option.bind_some, dput_en E, ih]
    rfl
theorem foldl_copy : ∀ (m acc : List (α × β)), ((acc ++ m).map (·.1)).Nodup → m.foldl (fun m p => mput m p.1 p.2) acc = acc ++ m
  | [], acc, _ => by simp
  | p :: m, acc, h => by
    have hp : p.1 ∉ acc.map (·.1) := fun z => by
      rw [List.map_append, List.nodup_append] at h
      exact h.2.2 _ z _ (by simp) rfl
    rw [List.foldl_cons, mput_new hp, foldl_copy m (acc ++ [(p.1, p.2)]) (by simpa using h)]
    simp
end
theorem key_letter : KeyE (fun c : Nat => dW [c]) := ⟨fun a b => by rw [keq_wd]; simp, fun a => ⟨_, rfl⟩⟩
theorem key_word : KeyE dW := ⟨fun a b => keq_wd a b, fun a => ⟨_, rfl⟩⟩
end DV
end

set_option Elab.async false
set_option linter.all false
set_option maxRecDepth 100000
set_option maxHeartbeats 4000000
/-! DVr: one name for the steps of reckoning (dv); loops by invariants. -/
noncomputable section
namespace DV
open PySem L2
theorem bind0_s {n : Nat} {ds : List D} : bind0 n ds = ds.map (fun d => some (.shr d)) ++ List.replicate (n - ds.length) none := rfl
/-- the steps -/
def dvx := (And.intro (And.intro (And.intro (And.intro (And.intro (And.intro (And.intro @getV_s @getW_s) (And.intro @getW_o @eV_e)) (And.intro (And.intro @eW_e @eC_e) (And.intro @ap2_s @ap3_s))) (And.intro (And.intro (And.intro @o1_e @o2_e) (And.intro @toT_e @asB_b)) (And.intro (And.intro @asI_i @andO_t) (And.intro @andO_f (And.intro @orO_t @orO_f))))) (And.intro (And.intro (And.intro (And.intro @andV_t @andV_f) (And.intro @orV_t @orV_f)) (And.intro (And.intro @iteV_t @iteV_f) (And.intro @tAndF_e (And.intro @tOrF_e @tNotF_e)))) (And.intro (And.intro (And.intro @eAnd_e @eOr_e) (And.intro @eNot_e @mapB_s)) (And.intro (And.intro @eIf_e @lN_e) (And.intro @consO_s (And.intro @lC_e @o3c_e)))))) (And.intro (And.intro (And.intro (And.intro (And.intro @eCall_e @apM_s) (And.intro @eMeth_e @tupO_0)) (And.intro (And.intro @lstO_0 @tupO_1) (And.intro @lstO_1 (And.intro @tupO_2 @lstO_2)))) (And.intro (And.intro (And.intro @tupO_3 @lstO_3) (And.intro @tupO_4 @lstO_4)) (And.intro (And.intro @tupO_5 @eTup_e) (And.intro @eLst_e (And.intro @d1O_s @eD1_e))))) (And.intro (And.intro (And.intro (And.intro @pN_e @pS_e) (And.intro @eSl_e @iAny_e)) (And.intro (And.intro @iCall_e @tYs_e) (And.intro @gN_e (And.intro @gT_e @gsN_e)))) (And.intro (And.intro (And.intro @gsC_e @thenS_nx) (And.intro @thenS_rt @thenS_bk)) (And.intro (And.intro @thenS_ct @iteS_t) (And.intro @iteS_f (And.intro @sNx_e @sBk_e))))))) (And.intro (And.intro (And.intro (And.intro (And.intro (And.intro @sCt_e @sSeq_e) (And.intro @rtO_s @sRet_e)) (And.intro (And.intro @sRetN_e @exO_s) (And.intro @sEx_e (And.intro @sIf_e @nxO_s)))) (And.intro (And.intro (And.intro @asgO_s @sAsg_e) (And.intro @ownO_s @sOwn_e)) (And.intro (And.intro @sFrz_e @frzS_o) (And.intro @frzS_s (And.intro @frzS_n @frzE_e))))) (And.intro (And.intro (And.intro (And.intro @thenFO_nx @thenFO_rt) (And.intro @thenF_e @appO_s)) (And.intro (And.intro @sApp_e @putS_o) (And.intro @putSO_s (And.intro @sPut_e @forO_s)))) (And.intro (And.intro (And.intro @sFor_e @wipeE_nil) (And.intro @wipeE_cons @eLc_e)) (And.intro (And.intro @eDc_e @endF_nx) (And.intro @endF_rt (And.intro @turnS_nx @turnS_ct)))))) (And.intro (And.intro (And.intro (And.intro (And.intro @turnS_bk @turnS_rt) (And.intro @lcC_s @add_ii)) (And.intro (And.intro @sub_ii @neg_i) (And.intro @lt_ii (And.intro @le_ii @gt_ii)))) (And.intro (And.intro (And.intro @ge_ii @eq_ii) (And.intro @ne_ii @len_l)) (And.intro (And.intro @len_t @len_dk) (And.intro @len_scr (And.intro @ix_t0 @ix_t1))))) (And.intro (And.intro (And.intro (And.intro @ix_t2 @ix_l0) (And.intro @keyOf_wd @Option.bind_some.{0,0})) (And.intro (And.intro @Option.map_some.{0,0} @List.getElem?_cons_succ.{0}) (And.intro @List.getElem?_cons_zero.{0} (And.intro @List.set_cons_succ.{0} @List.set_cons_zero.{0})))) (And.intro (And.intro (And.intro @List.map_cons.{0,0} @List.map_nil.{0,0}) (And.intro @Bool.not_true @Bool.not_false)) (And.intro (And.intro @callF_1 @callF_2) (And.intro @callF_3 (And.intro @callF_4 @callF_5))))))))
theorem dv : type_of% dvx := dvx
/-- a def opened -/
def dv0x := (And.intro (And.intro @bind0_s (And.intro @List.length_cons.{0} @List.length_nil.{0})) (And.intro (And.intro @List.replicate_succ.{0} @List.replicate_zero.{0}) (And.intro @List.cons_append.{0} @List.nil_append.{0})))
theorem dv0 : type_of% dv0x := dv0x

section
variable {α : Type} {i : Nat} {s : FS} {g : FG}
/-- a loop over items, by an invariant of what is done -/
theorem for_list (enc : α → D) (xs : List α) (I : List α → Env → Prop) (hs : ∀ p x r ρ, xs = p ++ x :: r → I p ρ → ∃ ρ', s (ρ.set i (some (.shr (enc x)))) = some (.nx ρ') ∧ I (p ++ [x]) ρ') :
    ∀ {ρ : Env}, I [] ρ → ∃ ρ', forL (gN i) s (xs.map enc) ρ = some (.nx ρ') ∧ I xs ρ' := by
  have gen : ∀ (r p : List α) (ρ : Env), xs = p ++ r → I p ρ → ∃ ρ', forL (gN i) s (r.map enc) ρ = some (.nx ρ') ∧ I xs ρ' := by
    intro r
    induction r with
    | nil =>
      intro p ρ e h
      rw [List.append_nil] at e
      subst e
      exact ⟨ρ, rfl, h⟩
    | cons x r ih =>
      intro p ρ e h
      obtain ⟨ρ', e1, h1⟩ := hs p x r ρ e h
      obtain ⟨ρ2, e2, h2⟩ := ih (p ++ [x]) ρ' (by simp [e]) h1
      exact ⟨ρ2, by rw [List.map_cons, forL_cons, e1, turnS_nx, e2], h2⟩
  exact fun {ρ} h => gen xs [] ρ rfl h
/-- a loop that may return -/
theorem for_ret (enc : α → D) (xs : List α) (I : List α → Env → Prop) (R : D → Prop) (hs : ∀ p x r ρ, xs = p ++ x :: r → I p ρ → (∃ ρ', s (ρ.set i (some (.shr (enc x)))) = some (.nx ρ') ∧ I (p ++ [x]) ρ') ∨ ∃ d, s (ρ.set i (some (.shr (enc x)))) = some (.rt d) ∧ R d) :
    ∀ {ρ : Env}, I [] ρ → (∃ ρ', forL (gN i) s (xs.map enc) ρ = some (.nx ρ') ∧ I xs ρ') ∨ ∃ d, forL (gN i) s (xs.map enc) ρ = some (.rt d) ∧ R d := by
  have gen : ∀ (r p : List α) (ρ : Env), xs = p ++ r → I p ρ → (∃ ρ', forL (gN i) s (r.map enc) ρ = some (.nx ρ') ∧ I xs ρ') ∨ ∃ d, forL (gN i) s (r.map enc) ρ = some (.rt d) ∧ R d := by
    intro r
    induction r with
    | nil =>
      intro p ρ e h
      rw [List.append_nil] at e
      subst e
      exact .inl ⟨ρ, rfl, h⟩
    | cons x r ih =>
      intro p ρ e h
      rcases hs p x r ρ e h with ⟨ρ', e1, h1⟩ | ⟨d, e1, h1⟩
      · rcases ih (p ++ [x]) ρ' (by simp [e]) h1 with ⟨ρ2, e2, h2⟩ | ⟨d, e2, h2⟩
        · exact .inl ⟨ρ2, by rw [List.map_cons, forL_cons, e1, turnS_nx, e2], h2⟩
        · exact .inr ⟨d, by rw [List.map_cons, forL_cons, e1, turnS_nx, e2], h2⟩
      · exact .inr ⟨d, by rw [List.map_cons, forL_cons, e1, turnS_rt], h1⟩
  exact fun {ρ} h => gen xs [] ρ rfl h
/-- a loop that returns c at the first item that p says no of -/
theorem for_check (enc : α → D) (p : α → Bool) (c : D) (I : Env → Prop) : ∀ (xs : List α), (∀ x ∈ xs, ∀ ρ, I ρ → ∃ ρ', I ρ' ∧ s (ρ.set i (some (.shr (enc x)))) = if p x = true then some (.nx ρ') else some (.rt c)) →
    ∀ {ρ : Env}, I ρ → ∃ ρ', I ρ' ∧ forL (gN i) s (xs.map enc) ρ = if xs.all p = true then some (.nx ρ') else some (.rt c)
  | [], _, ρ, h => ⟨ρ, h, rfl⟩
  | x :: xs, hs, ρ, h => by
    obtain ⟨ρ', h1, e1⟩ := hs x List.mem_cons_self ρ h
    obtain ⟨ρ2, h2, e2⟩ := for_check enc p c I xs (fun y hy => hs y (List.mem_cons_of_mem _ hy)) h1
    rw [List.map_cons, forL_cons, e1, List.all_cons]
    cases hp : p x with
    | true =>
      refine ⟨ρ2, h2, ?_⟩
      rw [if_pos rfl, turnS_nx, e2, Bool.true_and]
    | false =>
      refine ⟨ρ', h1, ?_⟩
      rw [if_neg (by decide), turnS_rt, Bool.false_and, if_neg (by decide)]
/-- a while, by an invariant with what is left to do -/
theorem while_inv {c : FT} (I : Nat → Env → Prop) (R : Out → Prop) (hs : ∀ n ρ, I n ρ → (c ρ = some false ∧ R (.nx ρ)) ∨ (c ρ = some true ∧ ((∃ ρ', s ρ = some (.nx ρ') ∧ ∃ m, m < n ∧ I m ρ') ∨ ∃ d, s ρ = some (.rt d) ∧ R (.rt d)))) :
    ∀ (n k : Nat) (ρ : Env), n < k → I n ρ → ∃ o, whileL c s k ρ = some o ∧ R o
  | n, 0, _, h, _ => absurd h (by omega)
  | n, k + 1, ρ, h, hi => by
    rcases hs n ρ hi with ⟨e, h1⟩ | ⟨e, ⟨ρ', e1, m, hm, h1⟩ | ⟨d, e1, h1⟩⟩
    · exact ⟨_, whileL_f e, h1⟩
    · obtain ⟨o, e2, h2⟩ := while_inv I R hs m k ρ' (by omega) h1
      exact ⟨o, by rw [whileL_t e, e1, turnS_nx, e2], h2⟩
    · exact ⟨_, by rw [whileL_t e, e1, turnS_rt], h1⟩
end
end DV
end

set_option Elab.async false
set_option linter.all false
set_option maxRecDepth 100000
/-! DVo: equality of plain data; sorted words. -/
noncomputable section
namespace DV
open PySem L2
theorem strOk_wd {l : List Nat} (h : ∀ c ∈ l, c < 1000) : PyData.strOk (wd l) = true := by
  unfold PyData.strOk
  simp [wd]
  intro c hc
  have := h c hc
  omega
theorem lay_words {ls : List (List Nat)} (h : ∀ l ∈ ls, ∀ c ∈ l, c < 1000) : PyData.canLayAll0 (ls.map dW) = true := by
  induction ls with
  | nil => rfl
  | cons l ls ih =>
    rw [List.map_cons]
    show (PyData.canLay0 (dW l) && PyData.canLayAll0 (ls.map dW)) = true
    rw [ih fun x hx => h x (List.mem_cons_of_mem _ hx)]
    show (PyData.strOk (wd l) && true) = true
    rw [strOk_wd (h l List.mem_cons_self)]
    rfl
theorem depth_words (ls : List (List Nat)) : PyData.depthAll (ls.map dW) = 0 := by
  induction ls with
  | nil => rfl
  | cons l ls ih =>
    rw [List.map_cons]
    show max 0 (PyData.depthAll (ls.map dW)) = 0
    rw [ih]
    rfl
theorem shaped_words {ls : List (List Nat)} (h : ∀ l ∈ ls, ∀ c ∈ l, c < 1000) : SeqAt.shaped (.tuple (ls.map dW)) = true := by
  unfold SeqAt.shaped
  rw [Bool.and_eq_true]
  refine ⟨lay_words h, decide_eq_true ?_⟩
  show PyData.depthAll (ls.map dW) + 1 ≤ 64
  rw [depth_words]
  decide
theorem eqG_self {x : D} (h : SeqAt.shaped x = true) : eqG x x = some (.bool true) := by
  unfold eqG
  rw [if_pos ⟨h, h⟩, SeqAt.eqv_refl x (SeqAt.canLay_of_shaped h)]
theorem eq_tt {ds : List D} (h : SeqAt.shaped (.tuple ds) = true) : eqD (.tuple ds) (.tuple ds) = some (.bool true) := eqG_self h
theorem ne_tt {ds : List D} (h : SeqAt.shaped (.tuple ds) = true) : neD (.tuple ds) (.tuple ds) = some (.bool false) := by
  unfold neD
  rw [eq_tt h]
  rfl
/-! ### lists without repeats and with the same members -/
theorem perm_of_mem {α : Type} [DecidableEq α] : ∀ {l m : List α}, l.Nodup → m.Nodup → (∀ x, x ∈ l ↔ x ∈ m) → l.Perm m
  | [], m, _, _, h => by
    cases m with
    | nil => exact .nil
    | cons a m => exact absurd ((h a).mpr List.mem_cons_self) (by simp)
  | a :: l, m, hl, hm, h => by
    have ha : a ∈ m := (h a).mp List.mem_cons_self
    rw [List.nodup_cons] at hl
    refine List.Perm.trans ?_ (List.perm_cons_erase ha).symm
    refine List.Perm.cons a (perm_of_mem hl.2 (hm.erase a) fun x => ?_)
    rw [hm.mem_erase_iff]
    constructor
    · intro hx
      exact ⟨fun e => hl.1 (e ▸ hx), (h x).mp (List.mem_cons_of_mem _ hx)⟩
    · rintro ⟨h1, h2⟩
      rcases List.mem_cons.mp ((h x).mpr h2) with e | e
      · exact absurd e h1
      · exact e
theorem nodup_len_le {α : Type} [DecidableEq α] : ∀ {l m : List α}, l.Nodup → (∀ x ∈ l, x ∈ m) → l.length ≤ m.length
  | [], m, _, _ => Nat.zero_le _
  | a :: l, m, h, hs => by
    rw [List.nodup_cons] at h
    have ha := hs a List.mem_cons_self
    have := nodup_len_le (l := l) (m := m.erase a) h.2 fun x hx => (List.mem_erase_of_ne fun e => h.1 (by rw [← e]; exact hx)).mpr (hs x (List.mem_cons_of_mem _ hx))
    rw [List.length_erase_of_mem ha] at this
    have := List.length_pos_of_mem ha
    simp
    omega
/-! ### keys of a dict whose values are all True -/
abbrev vT : Unit → D := fun _ => .bool true
abbrev dS (ks : List (List Nat)) : D := dM dW vT (ks.map fun w => (w, ()))
def addK (ks : List (List Nat)) (w : List Nat) : List (List Nat) := if w ∈ ks then ks else ks ++ [w]
theorem mput_addK (ks : List (List Nat)) (w : List Nat) : mput (ks.map fun w => (w, ())) w () = (addK ks w).map fun w => (w, ()) := by
  unfold mput addK
  have e : (ks.map fun w => (w, ())).map (·.1) = ks := by simp [Function.comp_def]
  rw [e]
  split
  · rw [List.map_map]
    refine List.map_congr_left fun x _ => ?_
    simp only [Function.comp_def]
    split <;> rfl
  · rw [List.map_append]
    rfl
theorem put_dS {ks : List (List Nat)} {w : List Nat} (h : ks.length < 16777216) : putO (dS ks) (dW w) (.bool true) = some (dS (addK ks w)) := by
  have := put_dM (ek := dW) (ev := vT) key_word (m := ks.map fun w => (w, ())) (k := w) (v := ()) (by simpa using h)
  rw [mput_addK] at this
  exact this
theorem keys_dS (ks : List (List Nat)) : lstF [dS ks] = some (.list (ks.map dW)) := by
  show some (PyData.list ((enM dW vT (ks.map fun w => (w, ()))).map (·.1))) = _
  simp [enM, Function.comp_def]
theorem addK_nodup {ks : List (List Nat)} {w : List Nat} (h : ks.Nodup) : (addK ks w).Nodup := by
  unfold addK
  split
  · exact h
  · rename_i e
    rw [List.nodup_append]
    exact ⟨h, by simp, fun a ha b hb => by
      simp at hb
      subst hb
      exact fun z => e (z ▸ ha)⟩
theorem addK_mem {ks : List (List Nat)} {w u : List Nat} : u ∈ addK ks w ↔ u ∈ ks ∨ u = w := by
  unfold addK
  split
  · rename_i e
    exact ⟨.inl, fun z => z.elim id fun z => z ▸ e⟩
  · simp
theorem addK_len (ks : List (List Nat)) (w : List Nat) : (addK ks w).length ≤ ks.length + 1 := by
  unfold addK
  split <;> simp
end DV
end

set_option Elab.async false
set_option linter.all false
set_option maxRecDepth 100000
/-! DVq: == of plain data without booleans and dicts. -/
noncomputable section
namespace DV
open PySem L2
def nice : Nat → D → Prop
  | 0, d => match d with
    | .none => True
    | .int _ => True
    | .str x => PyData.strOk x = true
    | _ => False
  | k + 1, d => match d with
    | .none => True
    | .int _ => True
    | .str x => PyData.strOk x = true
    | .list ds => ∀ x ∈ ds, nice k x
    | .tuple ds => ∀ x ∈ ds, nice k x
    | _ => False
theorem nice_int {k : Nat} {i : Int} : nice k (.int i) := by cases k <;> trivial
theorem nice_none {k : Nat} : nice k .none := by cases k <;> trivial
theorem nice_str {k : Nat} {x : Str} (h : PyData.strOk x = true) : nice k (.str x) := by cases k <;> exact h
theorem nice_wd {k : Nat} {l : List Nat} (h : ∀ c ∈ l, c < 1000) : nice k (dW l) := nice_str (strOk_wd h)
theorem nice_list {k : Nat} {ds : List D} : nice (k + 1) (.list ds) ↔ ∀ x ∈ ds, nice k x := Iff.rfl
theorem nice_tuple {k : Nat} {ds : List D} : nice (k + 1) (.tuple ds) ↔ ∀ x ∈ ds, nice k x := Iff.rfl
theorem nice_mono : ∀ {k j : Nat} {d : D}, k ≤ j → nice k d → nice j d
  | 0, 0, _, _, h => h
  | 0, j + 1, d, _, h => by cases d <;> first | exact h | exact h.elim
  | k + 1, 0, _, hk, _ => absurd hk (by omega)
  | k + 1, j + 1, d, hk, h => by
    cases d with
    | list ds => exact fun x hx => nice_mono (by omega) (h x hx)
    | tuple ds => exact fun x hx => nice_mono (by omega) (h x hx)
    | _ => exact h
theorem lay_all {ds : List D} : (∀ x ∈ ds, x.canLay0 = true) → PyData.canLayAll0 ds = true := by
  induction ds with
  | nil => intro _; rfl
  | cons x ds ih =>
    intro h
    show (x.canLay0 && PyData.canLayAll0 ds) = true
    rw [h x List.mem_cons_self, ih fun y hy => h y (List.mem_cons_of_mem _ hy)]
    rfl
theorem depth_all {ds : List D} {k : Nat} : (∀ x ∈ ds, x.depth ≤ k) → PyData.depthAll ds ≤ k := by
  induction ds with
  | nil => intro _; exact Nat.zero_le _
  | cons x ds ih =>
    intro h
    exact Nat.max_le.mpr ⟨h x List.mem_cons_self, ih fun y hy => h y (List.mem_cons_of_mem _ hy)⟩
theorem nice_lay : ∀ {k : Nat} {d : D}, nice k d → d.canLay0 = true
  | 0, d, h => by cases d <;> first | rfl | exact h | exact h.elim
  | k + 1, d, h => by
    cases d with
    | list ds => exact lay_all fun x hx => nice_lay (h x hx)
    | tuple ds => exact lay_all fun x hx => nice_lay (h x hx)
    | none => rfl
    | int i => rfl
    | str x => exact h
    | bool b => exact h.elim
    | dict kvs => exact h.elim
theorem nice_depth : ∀ {k : Nat} {d : D}, nice k d → d.depth ≤ k
  | 0, d, h => by cases d <;> first | exact Nat.le_refl 0 | exact h.elim
  | k + 1, d, h => by
    cases d with
    | list ds => exact Nat.succ_le_succ (depth_all fun x hx => nice_depth (h x hx))
    | tuple ds => exact Nat.succ_le_succ (depth_all fun x hx => nice_depth (h x hx))
    | none => exact Nat.zero_le _
    | int i => exact Nat.zero_le _
    | str x => exact Nat.zero_le _
    | bool b => exact h.elim
    | dict kvs => exact h.elim
theorem nice_shaped {k : Nat} {d : D} (h : nice k d) (hk : k ≤ 64) : SeqAt.shaped d = true := by
  unfold SeqAt.shaped
  rw [Bool.and_eq_true]
  exact ⟨nice_lay h, decide_eq_true (Nat.le_trans (nice_depth h) hk)⟩
theorem eqvAll_of {k : Nat} (ih : ∀ {x y : D}, nice k x → nice k y → (PyData.eqv x y = true ↔ x = y)) : ∀ {xs ys : List D}, (∀ x ∈ xs, nice k x) → (∀ y ∈ ys, nice k y) → (PyData.eqvAll xs ys = true ↔ xs = ys)
  | [], [], _, _ => ⟨fun _ => rfl, fun _ => rfl⟩
  | [], _ :: _, _, _ => ⟨fun h => (by cases h), fun h => (by cases h)⟩
  | _ :: _, [], _, _ => ⟨fun h => (by cases h), fun h => (by cases h)⟩
  | x :: xs, y :: ys, h1, h2 => by
    show (PyData.eqv x y && PyData.eqvAll xs ys) = true ↔ _
    rw [Bool.and_eq_true, ih (h1 x List.mem_cons_self) (h2 y List.mem_cons_self), eqvAll_of ih (fun z hz => h1 z (List.mem_cons_of_mem _ hz)) (fun z hz => h2 z (List.mem_cons_of_mem _ hz))]
    simp
theorem eqv_nice : ∀ {k : Nat} {x y : D}, nice k x → nice k y → (PyData.eqv x y = true ↔ x = y)
  | 0, x, y, h1, h2 => by
    cases x <;> first | exact h1.elim | (cases y <;> first | exact h2.elim | simp [PyData.eqv])
  | k + 1, x, y, h1, h2 => by
    have ih := fun {x y : D} => eqv_nice (k := k) (x := x) (y := y)
    cases x with
    | bool b => exact h1.elim
    | dict kvs => exact h1.elim
    | list xs =>
      cases y with
      | list ys =>
        show PyData.eqvAll xs ys = true ↔ _
        rw [eqvAll_of ih h1 h2]
        simp
      | bool b => exact h2.elim
      | dict kvs => exact h2.elim
      | _ => simp [PyData.eqv]
    | tuple xs =>
      cases y with
      | tuple ys =>
        show PyData.eqvAll xs ys = true ↔ _
        rw [eqvAll_of ih h1 h2]
        simp
      | bool b => exact h2.elim
      | dict kvs => exact h2.elim
      | _ => simp [PyData.eqv]
    | none => cases y <;> first | exact h2.elim | simp [PyData.eqv]
    | int i => cases y <;> first | exact h2.elim | simp [PyData.eqv]
    | str z => cases y <;> first | exact h2.elim | simp [PyData.eqv]
theorem eqG_nice {k : Nat} {x y : D} {b : Bool} (h1 : nice k x) (h2 : nice k y) (hk : k ≤ 64) (hb : b = true ↔ x = y) : eqG x y = some (.bool b) := by
  unfold eqG
  rw [if_pos ⟨nice_shaped h1 hk, nice_shaped h2 hk⟩]
  congr 2
  rw [Bool.eq_iff_iff, eqv_nice h1 h2, hb]
theorem eqD_nice {k : Nat} {x y : D} {b : Bool} (h1 : nice k x) (h2 : nice k y) (hk : k ≤ 64) (hb : b = true ↔ x = y) : eqD x y = some (.bool b) := by
  have hd : ∀ {p : Prop} [Decidable p], (b = true ↔ p) → some (PyData.bool (decide p)) = some (PyData.bool b) := fun {p} _ h => by
    congr 2
    rw [Bool.eq_iff_iff, h, decide_eq_true_iff]
  have hf : ¬ x = y → some (PyData.bool false) = some (PyData.bool b) := fun h => by
    congr 2
    cases b with
    | false => rfl
    | true => exact absurd (hb.mp rfl) h
  have g := eqG_nice h1 h2 hk hb
  cases x with
  | bool b => cases k <;> exact h1.elim
  | dict kvs => cases k <;> exact h1.elim
  | none =>
    cases y with
    | none => rw [hb.mpr rfl]; rfl
    | int i => exact hf (by simp)
    | str i => exact hf (by simp)
    | _ => exact g
  | int i =>
    cases y with
    | none => exact hf (by simp)
    | int j => exact hd (hb.trans (by simp))
    | str j => exact hf (by simp)
    | _ => exact g
  | str i =>
    cases y with
    | none => exact hf (by simp)
    | int j => exact hf (by simp)
    | str j => exact hd (hb.trans (by simp))
    | _ => exact g
  | list xs => cases y <;> exact g
  | tuple xs => cases y <;> exact g
theorem neD_nice {k : Nat} {x y : D} {b : Bool} (h1 : nice k x) (h2 : nice k y) (hk : k ≤ 64) (hb : b = true ↔ x = y) : neD x y = some (.bool (!b)) := by
  unfold neD
  rw [eqD_nice h1 h2 hk hb]
  rfl
theorem in_nice {k : Nat} {x : D} {ds : List D} {b : Bool} (h1 : nice k x) (h2 : ∀ y ∈ ds, nice k y) (hk : k < 64) (hx : flatD x = false) (hb : b = true ↔ x ∈ ds) : inB x (.list ds) = some b := by
  have e : inB x (.list ds) = inL x ds := by
    cases x <;> first | rfl | cases hx
  rw [e]
  unfold inL
  rw [if_neg (by rw [hx]; exact fun z => Bool.noConfusion z.1), if_pos ⟨nice_shaped h1 (by omega), nice_shaped (k := k + 1) (d := .list ds) h2 (by omega)⟩]
  congr 1
  rw [Bool.eq_iff_iff, hb, List.any_eq_true]
  constructor
  · rintro ⟨y, hy, e⟩
    rw [(eqv_nice (h2 y hy) h1).mp e] at hy
    exact hy
  · exact fun h => ⟨x, h, (eqv_nice h1 h1).mpr rfl⟩
end DV
end

set_option Elab.async false
set_option linter.all false
set_option maxRecDepth 100000
/-! DVp: dicts of the kind N as lists of pairs. -/
noncomputable section
namespace DV
open PySem PySem.Spec PyProof.Rows L2
mutual
theorem nkO_nkD : ∀ k : NestedKey, nkO (nkD k) = some k
  | .none => rfl
  | .num i => rfl
  | .text x => rfl
  | .tup ks => by
    show (nkOs (nkDs ks)).map NestedKey.tup = _
    rw [nkOs_nkDs ks]
    rfl
theorem nkOs_nkDs : ∀ ks : List NestedKey, nkOs (nkDs ks) = some ks
  | [] => rfl
  | k :: ks => by
    show (nkO (nkD k)).bind (fun k => (nkOs (nkDs ks)).map fun ks => k :: ks) = _
    rw [nkO_nkD k, nkOs_nkDs ks]
    rfl
end
theorem nkDs_map (ks : List NestedKey) : nkDs ks = ks.map nkD := by
  induction ks with
  | nil => rfl
  | cons k ks ih => rw [nkDs, ih]; rfl
theorem nkey_nk {k : NestedKey} (ht : ∃ ks, k = .tup ks) (hd : k.depth ≤ 8) : nkey (nkD k) = some k := by
  obtain ⟨ks, rfl⟩ := ht
  have e := nkO_nkD (.tup ks)
  rw [nkD] at e ⊢
  simp only [nkey]
  rw [e, Option.bind_some, if_pos hd]
theorem ndepth_all {ks : List NestedKey} {n : Nat} : (∀ k ∈ ks, k.depth ≤ n) → NestedKey.depthAll ks ≤ n := by
  induction ks with
  | nil => intro _; exact Nat.zero_le _
  | cons k ks ih => exact fun h => Nat.max_le.mpr ⟨h k List.mem_cons_self, ih fun x hx => h x (List.mem_cons_of_mem _ hx)⟩
theorem ndepth_tup {ks : List NestedKey} {n : Nat} (h : ∀ k ∈ ks, k.depth ≤ n) : (NestedKey.tup ks).depth ≤ n + 1 := Nat.succ_le_succ (ndepth_all h)
/-- keys as nested tuples -/
structure KeyN {α : Type} (nk : α → NestedKey) : Prop where
  inj : ∀ a b, nk a = nk b → a = b
  tup : ∀ a, ∃ ks, nk a = .tup ks
  dep : ∀ a, (nk a).depth ≤ 8
section
variable {α β : Type} [DecidableEq α] {nk : α → NestedKey} {ev : β → D}
def enN (nk : α → NestedKey) (ev : β → D) (m : List (α × β)) : List (D × D) := m.map fun p => (nkD (nk p.1), ev p.2)
def dN2 (nk : α → NestedKey) (ev : β → D) (m : List (α × β)) : D := .dict ((.none, .int 2) :: enN nk ev m)
theorem KeyN.keq (E : KeyN nk) (a b : α) : DV.keq (nkD (nk a)) (nkD (nk b)) = decide (a = b) := by
  rw [keq_nk]
  exact decide_eq_decide.mpr ⟨E.inj a b, fun h => by rw [h]⟩
theorem KeyN.ok (E : KeyN nk) (a : α) : nkey (nkD (nk a)) = some (nk a) := nkey_nk (E.tup a) (E.dep a)
theorem on_en (E : KeyN nk) (m : List (α × β)) (x : Option D) : onN (enN nk ev m) x = x := onN_of fun p hp => by
  obtain ⟨q, _, rfl⟩ := List.mem_map.mp hp
  show (nkey (nkD (nk q.1))).isSome = true
  rw [E.ok]
  rfl
theorem dget_enN (E : KeyN nk) (m : List (α × β)) (k : α) : dget (enN nk ev m) (nkD (nk k)) = (mget m k).map ev := by
  unfold dget mget enN
  rw [List.find?_map]
  simp only [Function.comp_def, E.keq]
  cases m.find? (fun p => decide (p.1 = k)) <;> rfl
theorem dput_enN (E : KeyN nk) (m : List (α × β)) (k : α) (v : β) : dput (enN nk ev m) (nkD (nk k)) (ev v) = enN nk ev (mput m k v) := by
  unfold dput mput enN
  simp only [List.any_map, Function.comp_def, E.keq, List.any_eq_true, decide_eq_true_eq]
  by_cases h : k ∈ m.map (·.1)
  · have h' : ∃ x ∈ m, x.1 = k := by simpa using h
    rw [if_pos h, if_pos h', List.map_map, List.map_map]
    refine List.map_congr_left fun p _ => ?_
    simp only [Function.comp_def, E.keq, decide_eq_true_eq]
    by_cases e : p.1 = k
    · rw [if_pos e, if_pos e]
    · rw [if_neg e, if_neg e]
  · have h' : ¬ ∃ x ∈ m, x.1 = k := by simpa using h
    rw [if_neg h, if_neg h', List.map_append]
    rfl
theorem nin_dN (E : KeyN nk) (m : List (α × β)) (k : α) : ninND (nkD (nk k)) (dN2 nk ev m) = some (.bool (!(mget m k).isSome)) := by
  show onN (enN nk ev m) ((nkey (nkD (nk k))).map fun _ => .bool (!(dget (enN nk ev m) (nkD (nk k))).isSome)) = _
  rw [on_en E, E.ok, dget_enN E, Option.isSome_map]
  rfl
theorem ix_dN (E : KeyN nk) {m : List (α × β)} {k : α} {v : β} (h : mget m k = some v) : ixND (dN2 nk ev m) (nkD (nk k)) = some (ev v) := by
  show onN (enN nk ev m) ((nkey (nkD (nk k))).bind fun _ => dget (enN nk ev m) (nkD (nk k))) = _
  rw [on_en E, E.ok, dget_enN E, h]
  rfl
theorem put_dN (E : KeyN nk) {m : List (α × β)} {k : α} {v : β} (h : m.length < 16777216) : putNO (dN2 nk ev m) (nkD (nk k)) (ev v) = some (dN2 nk ev (mput m k v)) := by
  show onN (enN nk ev m) ((nkey (nkD (nk k))).bind fun _ => putNKv (enN nk ev m) (nkD (nk k)) (ev v)) = _
  rw [on_en E, E.ok, Option.bind_some]
  have e : putNKv (enN nk ev m) (nkD (nk k)) (ev v) = some (.dict ((.none, .int 2) :: dput (enN nk ev m) (nkD (nk k)) (ev v))) := if_pos (by rw [sizeLine_eq]; simpa [enN] using h)
  rw [e, dput_enN E]
  rfl
end
def putNS (i : Nat) (k v : D) (ρ : Env) : Option (Option Sl) → Option Out
  | some (some (.own d)) => (putNO d k v).map fun d' => .nx (ρ.set i (some (.own d')))
  | _ => none
def putNSO (i : Nat) (v k : Option D) (ρ : Env) : Option Out := v.bind fun v => k.bind fun k => putNS i k v ρ ρ[i]?
theorem putNS_o {i : Nat} {k v d : D} {ρ : Env} : putNS i k v ρ (some (some (.own d))) = (putNO d k v).map fun d' => .nx (ρ.set i (some (.own d'))) := rfl
theorem putNSO_s {i : Nat} {k v : D} {ρ : Env} : putNSO i (some v) (some k) ρ = putNS i k v ρ ρ[i]? := rfl
theorem sPutN_e {i : Nat} {a k : FE} {ρ : Env} : sPutN i k a ρ = putNSO i (a ρ) (k ρ) ρ := by
  unfold sPutN putNSO
  cases a ρ with
  | none => rfl
  | some v =>
    cases k ρ with
    | none => rfl
    | some k =>
      simp only [Option.bind_some]
      unfold putNS
      split <;> simp_all
theorem empty_dN {α β : Type} {nk : α → NestedKey} {ev : β → D} : PyData.dict [(.none, .int 2)] = dN2 nk ev [] := rfl
end DV
end

set_option Elab.async false
set_option linter.all false
set_option maxRecDepth 100000
/-! DVsl: slices. -/
noncomputable section
namespace DV
open PySem L2
theorem cut_take (ds : List D) (k : Nat) : cutD ds none (some (k : Int)) = ds.take k := by
  unfold cutD
  rw [HT.sIx_nat]
  show ((ds.drop 0).take (min k ds.length - 0)) = _
  rw [List.drop_zero, Nat.sub_zero]
  apply List.ext_getElem?
  intro i
  rw [List.getElem?_take, List.getElem?_take]
  by_cases h : i < k
  · by_cases h2 : i < ds.length
    · rw [if_pos (by omega), if_pos h]
    · rw [if_neg (by omega), if_pos h, List.getElem?_eq_none (by omega)]
  · rw [if_neg (by omega), if_neg h]
theorem cut_drop (ds : List D) (k : Nat) : cutD ds (some (k : Int)) none = ds.drop k := by
  unfold cutD
  rw [HT.sIx_nat]
  show ((ds.drop (min k ds.length)).take (ds.length - min k ds.length)) = _
  by_cases h : k ≤ ds.length
  · rw [Nat.min_eq_left h, List.take_of_length_le (by simp)]
  · rw [Nat.min_eq_right (by omega), List.drop_eq_nil_of_le (Nat.le_refl _), List.drop_eq_nil_of_le (by omega), List.take_nil]
theorem sl_takeL (ds : List D) (k : Nat) : slD (.list ds) none (some (k : Int)) = some (.list (ds.take k)) := by
  show some (PyData.list (cutD ds none (some (k : Int)))) = _
  rw [cut_take]
theorem sl_dropL (ds : List D) (k : Nat) : slD (.list ds) (some (k : Int)) none = some (.list (ds.drop k)) := by
  show some (PyData.list (cutD ds (some (k : Int)) none)) = _
  rw [cut_drop]
theorem sl_takeT (ds : List D) (k : Nat) : slD (.tuple ds) none (some (k : Int)) = some (.tuple (ds.take k)) := by
  show some (PyData.tuple (cutD ds none (some (k : Int)))) = _
  rw [cut_take]
theorem sl_dropT (ds : List D) (k : Nat) : slD (.tuple ds) (some (k : Int)) none = some (.tuple (ds.drop k)) := by
  show some (PyData.tuple (cutD ds (some (k : Int)) none)) = _
  rw [cut_drop]
theorem cutS_len (z : Str) (lo hi : Option Int) : (cutS z lo hi).length ≤ z.length := by
  unfold cutS Str.length
  rw [List.size_toArray, List.length_take, List.length_drop]
  simp
  omega
theorem pick_map {α : Type} (f : α → D) (xs : List α) (lo hi st : Option Int) : pickD (xs.map f) lo hi st = (pickD xs lo hi st).map f := by
  unfold pickD
  rw [List.length_map, List.map_filterMap]
  congr 1
  funext i
  rw [List.getElem?_map]
theorem pick_mem {α : Type} {xs : List α} {lo hi st : Option Int} {x : α} (h : x ∈ pickD xs lo hi st) : x ∈ xs := by
  unfold pickD at h
  obtain ⟨i, _, e⟩ := List.mem_filterMap.mp h
  exact List.mem_of_getElem? e
theorem pick_len {α : Type} (xs : List α) (lo hi st : Option Int) : (pickD xs lo hi st).length ≤ xs.length := by
  have h := slicePick_size_le (xs.map fun _ => Value.none).toArray lo hi st
  rw [pick_eq] at h
  have e : (pickD (xs.map fun _ => Value.none) lo hi st).length = (pickD xs lo hi st).length := by
    unfold pickD
    rw [List.length_map]
    generalize sliceRange _ _ _ = is
    induction is with
    | nil => rfl
    | cons i is ih =>
      cases hx : xs[i]? with
      | none =>
        rw [List.filterMap_cons_none (by rw [List.getElem?_map, hx]; rfl), List.filterMap_cons_none hx, ih]
      | some y =>
        rw [List.filterMap_cons_some (b := Value.none) (by rw [List.getElem?_map, hx]; rfl), List.filterMap_cons_some hx, List.length_cons, List.length_cons, ih]
  simp only [List.size_toArray, List.length_map] at h
  omega
end DV
end

set_option linter.all false
noncomputable section
namespace LC
open PySem L2 DV
def L1_law_same (rec : List D → Option D) : FS :=
    (sIf (tNotF (toT (eCall rec (lC (o2 ixD (eW 0) (eW 2)) (lC (o2 ixD (eW 1) (eW 2)) lN))))) (sRet (eC (.bool false))) sNx)
def b_law_same (rec : List D → Option D) : FS :=
    (sSeq (sIf (tOrF (toT (o1 (isiD "bool") (eW 1))) (toT (o1 (isiD "bool") (eW 0)))) (sRet (eAnd (o1 (isiD "bool") (eW 1)) (eAnd (o1 (isiD "bool") (eW 0)) (o2 eqD (eW 0) (eW 1))))) sNx)
    (sSeq (sIf (tOrF (toT (o2 isD (eW 1) (eC .none))) (toT (o1 (isiD "int") (eW 1)))) (sRet (eAnd (o2 eqD (eW 0) (eW 1)) (eOr (o2 isD (eW 1) (eC .none)) (o1 (isiD "int") (eW 0))))) sNx)
    (sSeq (sIf (toT (o1 (isiD "str") (eW 1))) (sRet (eAnd (o1 (isiD "str") (eW 0)) (o2 eqD (eW 0) (eW 1)))) sNx)
    (sSeq (sIf (tOrF (toT (o2 neD (o1 (isiD "list") (eW 1)) (o1 (isiD "list") (eW 0)))) (toT (o2 neD (o1 (isiD "tuple") (eW 1)) (o1 (isiD "tuple") (eW 0))))) (sRet (eC (.bool false))) sNx)
    (sSeq (sIf (toT (o2 neD (eCall lenF (lC (eW 0) lN)) (eCall lenF (lC (eW 1) lN)))) (sRet (eC (.bool false))) sNx)
    (sSeq (sFor (iCall rng1 (lC (eCall lenF (lC (eW 1) lN)) lN)) (gN 2) (L1_law_same rec))
    (sRet (eC (.bool true)))))))))
def F_law_same : Nat → List D → Option D
  | 0 => fun _ => none
  | n + 1 => callF 3 2 (b_law_same (F_law_same n))
def b_law_number : FS :=
    (sSeq (sAsg (o2 addD (o2 mulD (eCall sumF (lC (eW 0) lN)) (eC (.int 31))) (o2 mulD (eC (.int 1000003)) (o2 addD (eW 1) (eC (.int 1))))) (gN 2))
    (sSeq (sIf (toT (o2 ltD (eW 1) (eCall lenF (lC (eW 0) lN)))) (sAsg (o2 ixD (eW 0) (eW 1)) (gN 2)) sNx)
    (sRet (eCall absF (lC (eW 2) lN)))))
def F_law_number : List D → Option D := callF 3 2 b_law_number
def L1_law_draws : FS :=
    (sSeq (sApp 5 (o2 modD (eW 4) (eW 3)))
    (sAsg (o2 fdivD (eW 4) (eW 3)) (gN 4)))
def L2_law_draws : FS :=
    (sSeq (sAsg (o2 modD (o2 addD (o2 addD (o2 mulD (eW 7) (eC (.int 48271))) (o2 mulD (eC (.int 11)) (eW 6))) (eC (.int 7))) (eC (.int 2147483647))) (gN 7))
    (sSeq (sAsg (o2 modD (o2 addD (o2 addD (o2 mulD (eW 7) (eW 7)) (o2 mulD (eC (.int 69621)) (eW 6))) (eC (.int 5))) (eC (.int 2147483629))) (gN 8))
    (sApp 5 (o2 modD (o2 fdivD (eW 8) (eC (.int 64))) (eW 3)))))
def b_law_draws : FS :=
    (sSeq (sAsg (eCall F_law_number (lC (eV 0) (lC (eV 1) lN))) (gN 4))
    (sSeq (sOwn 5 (eLst lN))
    (sSeq (sIf (toT (o2 geD (eW 4) (o2 powD (eC (.int 10)) (eC (.int 18))))) (sSeq (sAsg (o2 subD (eW 4) (o2 powD (eC (.int 10)) (eC (.int 18)))) (gN 4))
    (sSeq (sFor (iCall rng1 (lC (eV 2) lN)) (gN 6) L1_law_draws)
    (sFrz 5 (sRet (eV 5))))) sNx)
    (sSeq (sAsg (o2 addD (o2 modD (eW 4) (eC (.int 2147483647))) (eC (.int 1))) (gN 7))
    (sSeq (sFor (iCall rng1 (lC (eV 2) lN)) (gN 6) L2_law_draws)
    (sFrz 5 (sRet (eV 5))))))))
def F_law_draws : List D → Option D := callF 9 4 b_law_draws
def b_law_word : FS :=
    (sRet (eMeth joinF (eC (.str "")) (lC (eLc [2] (iAny (eV 0)) (gN 2) tYs (o2 ixD (eC (.str "abc")) (o2 modD (eW 2) (eW 1)))) lN)))
def F_law_word : List D → Option D := callF 3 2 b_law_word
def L1_law_words : FS :=
    (sApp 5 (o2 addD (eW 6) (eW 7)))
def L2_law_words : FS :=
    (sFor (iAny (eSl (eC (.str "abc")) pN (pS (eV 0)))) (gN 7) L1_law_words)
def L3_law_words : FS :=
    (sSeq (sOwn 5 (eLst lN))
    (sSeq (sFor (iAny (eV 3)) (gN 6) L2_law_words)
    (sSeq (sAsg (o2 addD (eW 2) (eW 5)) (gN 2))
    (sFrz 5 (sAsg (eV 5) (gN 3))))))
def b_law_words : FS :=
    (sSeq (sAsg (eLst (lC (eC (.str "")) lN)) (gN 2))
    (sSeq (sAsg (eLst (lC (eC (.str "")) lN)) (gN 3))
    (sSeq (sFor (iCall rng1 (lC (eV 1) lN)) (gN 4) L3_law_words)
    (sRet (eV 2)))))
def F_law_words : List D → Option D := callF 8 2 b_law_words
def L1_law_scattered : FS :=
    (sIf (tAndF (toT (o2 ltD (eW 2) (eCall lenF (lC (eW 0) lN)))) (toT (o2 eqD (o2 ixD (eW 0) (eW 2)) (eW 3)))) (sAsg (o2 addD (eW 2) (eC (.int 1))) (gN 2)) sNx)
def b_law_scattered : FS :=
    (sSeq (sAsg (eC (.int 0)) (gN 2))
    (sSeq (sFor (iAny (eV 1)) (gN 3) L1_law_scattered)
    (sRet (o2 eqD (eW 2) (eCall lenF (lC (eW 0) lN))))))
def F_law_scattered : List D → Option D := callF 4 2 b_law_scattered
end LC
end

set_option Elab.async false
set_option linter.all false
set_option maxRecDepth 100000
set_option maxHeartbeats 4000000
/-! LC: what the laws' own helpers answer. -/
namespace LC
open PySem L2 DV
abbrev dN (n : Nat) : D := .int (n : Int)
theorem intsOf_map (ns : List Int) : intsOf (ns.map .int) = some ns := by
  induction ns with
  | nil => rfl
  | cons n ns ih => simp [intsOf, ih]
theorem sum_scr (ns : List Int) : sumF [scrD ns] = some (.int ns.sum) := by simp [sumF, scrD, intsOf_map]
theorem ix_scr {ns : List Int} {k : Nat} (h : k < ns.length) : ixD (scrD ns) (.int (k : Int)) = some (.int ns[k]) := by
  have e : atI (ns.map PyData.int) (k : Int) = some (.int ns[k]) := atI_nat (by rw [List.getElem?_map, List.getElem?_eq_getElem h]; rfl)
  exact e
theorem number_eq (ns : List Int) (k : Nat) : ∃ m : Nat, F_law_number [scrD ns, dN k] = some (dN m) := by
  rw [F_law_number, callF_2, b_law_number]
  have ab : ∀ i : Int, ∃ m : Nat, absF [.int i] = some (dN m) := fun i => ⟨i.natAbs, by
    simp only [absF]
    congr 2
    split <;> omega⟩
  have c1 := mul_ii (i := ns.sum) (j := 31) (.inr ⟨by omega, by omega⟩)
  have c2 := mul_ii (i := 1000003) (j := (k : Int) + 1) (.inl ⟨by omega, by omega⟩)
  by_cases h : (k : Int) < ns.length
  · have hk : k < ns.length := by omega
    obtain ⟨m, hm⟩ := ab ns[k]
    refine ⟨m, ?_⟩
    simp [List.replicate, sum_scr, c1, c2, hk, ix_scr hk, hm]
  · obtain ⟨m, hm⟩ := ab (ns.sum * 31 + 1000003 * ((k : Int) + 1))
    have hk : ¬ k < ns.length := by omega
    refine ⟨m, ?_⟩
    simp [List.replicate, sum_scr, c1, c2, hk, hm]
theorem step1 {a0 a1 a2 o : Option Sl} {many x : Nat} {ds : List D} (hm : 0 < many) (hm2 : many < 1073741824) (hl : ds.length < 16777216) :
    L1_law_draws [a0, a1, a2, some (.shr (dN many)), some (.shr (dN x)), some (.own (.list ds)), o, none, none] =
      some (.nx [a0, a1, a2, some (.shr (dN many)), some (.shr (dN (x / many))), some (.own (.list (ds ++ [dN (x % many)]))), o, none, none]) := by
  have c1 := mod_ii (i := (x : Int)) (j := (many : Int)) (by omega)
  have c2 := fdiv_ii (i := (x : Int)) (j := (many : Int)) (by omega) (by omega)
  simp [L1_law_draws, c1, c2, appS_s hl]
theorem draws1 {a0 a1 a2 : Option Sl} {many : Nat} (hm : 0 < many) (hm2 : many < 1073741824) : ∀ (is : List D) (o : Option Sl) (x : Nat) (l : List Nat), l.length + is.length ≤ 16777216 → (∀ y ∈ l, y < many) →
    ∃ (x' : Nat) (l' : List Nat) (o' : Option Sl), forL (gN 6) L1_law_draws is [a0, a1, a2, some (.shr (dN many)), some (.shr (dN x)), some (.own (.list (l.map dN))), o, none, none] =
      some (.nx [a0, a1, a2, some (.shr (dN many)), some (.shr (dN x')), some (.own (.list (l'.map dN))), o', none, none]) ∧ l'.length = l.length + is.length ∧ ∀ y ∈ l', y < many
  | [], o, x, l, _, hb => ⟨x, l, o, rfl, rfl, hb⟩
  | d :: is, o, x, l, hl, hb => by
    simp at hl
    obtain ⟨x', l', o', e, h1, h2⟩ := draws1 (a0 := a0) (a1 := a1) (a2 := a2) hm hm2 is (some (.shr d)) (x / many) (l ++ [x % many]) (by simp; omega) (fun y hy => by
      rcases List.mem_append.mp hy with z | z
      · exact hb y z
      · simp at z; subst z; exact Nat.mod_lt _ hm)
    refine ⟨x', l', o', ?_, by rw [h1]; simp; omega, h2⟩
    rw [List.map_append] at e
    rw [forL_cons]
    show turnS (L1_law_draws [a0, a1, a2, some (.shr (dN many)), some (.shr (dN x)), some (.own (.list (l.map dN))), some (.shr d), none, none]) _ = _
    rw [step1 hm hm2 (by simp; omega), turnS_nx]
    exact e
theorem step2 {a0 a1 a2 a4 o8 : Option Sl} {many : Nat} {x y w d : Int} {v : Nat} {ds : List D} (hm : 0 < many) (hx : 0 ≤ x) (hx2 : x < 2147483648) (hy : y = (x * 48271 + 11 * d + 7) % 2147483647) (hw : w = (y * y + 69621 * d + 5) % 2147483629) (hv : w / 64 = (v : Int)) (hl : ds.length < 16777216) :
    L2_law_draws [a0, a1, a2, some (.shr (dN many)), a4, some (.own (.list ds)), some (.shr (.int d)), some (.shr (.int x)), o8] =
      some (.nx [a0, a1, a2, some (.shr (dN many)), a4, some (.own (.list (ds ++ [dN (v % many)]))), some (.shr (.int d)), some (.shr (.int y)), some (.shr (.int w))]) := by
  have hy1 := Int.emod_nonneg (x * 48271 + 11 * d + 7) (show (2147483647 : Int) ≠ 0 by decide)
  have hy2 := Int.emod_lt_of_pos (x * 48271 + 11 * d + 7) (show (0 : Int) < 2147483647 by decide)
  rw [← hy] at hy1 hy2
  have c1 := mul_ii (i := x) (j := 48271) (.inl ⟨by omega, by omega⟩)
  have c2 := mul_ii (i := 11) (j := d) (.inl ⟨by omega, by omega⟩)
  have c3 := mul_ii (i := y) (j := y) (.inl ⟨by omega, by omega⟩)
  have c4 := mul_ii (i := 69621) (j := d) (.inl ⟨by omega, by omega⟩)
  have c5 := mod_ii (i := x * 48271 + 11 * d + 7) (j := 2147483647) (by omega)
  have c6 := mod_ii (i := y * y + 69621 * d + 5) (j := 2147483629) (by omega)
  have c7 := fdiv_ii (i := w) (j := 64) (by omega) (by omega)
  have c8 := mod_ii (i := (v : Int)) (j := (many : Int)) (by omega)
  rw [← hy] at c5
  rw [← hw] at c6
  rw [hv] at c7
  simp [L2_law_draws, c1, c2, c3, c4, c5, c6, c7, c8, appS_s hl]
theorem draws2 {a0 a1 a2 a4 : Option Sl} {many : Nat} (hm : 0 < many) : ∀ (is : List Int) (o : Option Sl) (x : Int) (o8 : Option Sl) (l : List Nat), 0 ≤ x → x < 2147483648 → l.length + is.length ≤ 16777216 → (∀ y ∈ l, y < many) →
    ∃ (l' : List Nat) (o' o7 o8' : Option Sl), forL (gN 6) L2_law_draws (is.map .int) [a0, a1, a2, some (.shr (dN many)), a4, some (.own (.list (l.map dN))), o, some (.shr (.int x)), o8] =
      some (.nx [a0, a1, a2, some (.shr (dN many)), a4, some (.own (.list (l'.map dN))), o', o7, o8']) ∧ l'.length = l.length + is.length ∧ ∀ y ∈ l', y < many
  | [], o, x, o8, l, _, _, _, hb => ⟨l, o, _, o8, rfl, rfl, hb⟩
  | d :: is, o, x, o8, l, hx, hx2, hl, hb => by
    simp at hl
    have hy := Int.emod_nonneg (x * 48271 + 11 * d + 7) (show (2147483647 : Int) ≠ 0 by decide)
    have hy2 := Int.emod_lt_of_pos (x * 48271 + 11 * d + 7) (show (0 : Int) < 2147483647 by decide)
    generalize hyy : (x * 48271 + 11 * d + 7) % 2147483647 = y at hy hy2
    have hw := Int.emod_nonneg (y * y + 69621 * d + 5) (show (2147483629 : Int) ≠ 0 by decide)
    generalize hww : (y * y + 69621 * d + 5) % 2147483629 = w at hw
    have hv : 0 ≤ w / 64 := Int.ediv_nonneg hw (by decide)
    obtain ⟨v, hv⟩ := Int.eq_ofNat_of_zero_le hv
    obtain ⟨l', o', o7, o8', e, h1, h2⟩ := draws2 (a0 := a0) (a1 := a1) (a2 := a2) (a4 := a4) hm is (some (.shr (.int d))) y (some (.shr (.int w))) (l ++ [v % many]) hy (by omega) (by simp; omega) (fun y hy => by
      rcases List.mem_append.mp hy with z | z
      · exact hb y z
      · simp at z; subst z; exact Nat.mod_lt _ hm)
    refine ⟨l', o', o7, o8', ?_, by rw [h1]; simp; omega, h2⟩
    rw [List.map_append] at e
    rw [List.map_cons, forL_cons]
    show turnS (L2_law_draws [a0, a1, a2, some (.shr (dN many)), a4, some (.own (.list (l.map dN))), some (.shr (.int d)), some (.shr (.int x)), o8]) _ = _
    rw [step2 hm hx hx2 hyy.symm hww.symm hv (by simp; omega), turnS_nx]
    exact e
theorem rng_eq (count : Nat) : rngL 0 count = (List.range count).map dN := by simp [rngL]
theorem rng1_n {count : Nat} (h : count ≤ 16777216) : rng1 [dN count] = some ((List.range count).map dN) := by
  rw [rng1_i (by omega) (by omega), Int.toNat_natCast, rng_eq]
theorem draws_eq (ns : List Int) (k count many : Nat) (hc : count ≤ 16777216) (hm : 0 < many) (hm2 : many < 1073741824) :
    ∃ l : List Nat, F_law_draws [scrD ns, dN k, dN count, dN many] = some (.list (l.map dN)) ∧ l.length = count ∧ ∀ y ∈ l, y < many := by
  obtain ⟨m, hn⟩ := number_eq ns k
  rw [F_law_draws, callF_4, b_law_draws]
  obtain ⟨N, hN⟩ : ∃ N, powD (.int 10) (.int 18) = some (.int N) := ⟨_, pow_18⟩
  by_cases h : N ≤ (m : Int)
  · have hp : (0 : Int) ≤ (m : Int) - N := by omega
    obtain ⟨x, hx⟩ := Int.eq_ofNat_of_zero_le hp
    obtain ⟨x', l', o', e, h1, h2⟩ := draws1 (a0 := some (.shr (scrD ns))) (a1 := some (.shr (dN k))) (a2 := some (.shr (dN count))) hm hm2 ((List.range count).map dN) none x [] (by simp; exact hc) (by simp)
    refine ⟨l', ?_, by rw [h1]; simp, h2⟩
    rw [List.map_nil] at e
    simp [List.replicate, hn, hN, h, rng1_n hc, hx, e]
  · have hy := Int.emod_nonneg (m : Int) (show (2147483647 : Int) ≠ 0 by decide)
    have hy2 := Int.emod_lt_of_pos (m : Int) (show (0 : Int) < 2147483647 by decide)
    have c1 := mod_ii (i := (m : Int)) (j := 2147483647) (by omega)
    obtain ⟨l', o', o7, o8', e, h1, h2⟩ := draws2 (a0 := some (.shr (scrD ns))) (a1 := some (.shr (dN k))) (a2 := some (.shr (dN count))) (a4 := some (.shr (dN m))) hm ((List.range count).map fun (i : Nat) => (i : Int)) none ((m : Int) % 2147483647 + 1) none [] (by omega) (by omega) (by simp; exact hc) (by simp)
    refine ⟨l', ?_, by rw [h1]; simp, h2⟩
    rw [List.map_map, List.map_nil] at e
    have er : (List.range count).map (PyData.int ∘ fun (i : Nat) => (i : Int)) = (List.range count).map dN := rfl
    rw [er] at e
    simp [List.replicate, hn, hN, h, rng1_n hc, c1, e]
end LC

/-! M77: arches of words as lists of numbers; the shortest word that is not scattered. Plain Lean. -/
namespace M77
def nxt : List Nat → Nat → Option (List Nat)
  | [], _ => none
  | d :: s, c => if d = c then some s else nxt s c
/-- whether w is scattered in s -/
def sub : List Nat → List Nat → Bool
  | [], _ => true
  | _ :: _, [] => false
  | c :: w, d :: s => if d = c then sub w s else sub (c :: w) s
theorem sub_nil (s : List Nat) : sub [] s = true := by cases s <;> rfl
theorem sub_cons (c : Nat) (w : List Nat) : ∀ s, sub (c :: w) s = match nxt s c with | none => false | some s' => sub w s'
  | [] => rfl
  | d :: s => by
    rw [sub, nxt]
    split
    · rfl
    · exact sub_cons c w s
theorem nxt_app {c : Nat} : ∀ {p : List Nat} (s : List Nat), c ∈ p → ∃ q, nxt (p ++ s) c = some (q ++ s)
  | [], _, h => by cases h
  | d :: p, s, h => by
    by_cases e : d = c
    · exact ⟨p, by simp [nxt, e]⟩
    · rcases List.mem_cons.mp h with h | h
      · exact absurd h.symm e
      · obtain ⟨q, hq⟩ := nxt_app s h
        exact ⟨q, by simp [nxt, e, hq]⟩
theorem nxt_new {c : Nat} : ∀ {p : List Nat} (s : List Nat), c ∉ p → nxt (p ++ c :: s) c = some s
  | [], s, _ => by simp [nxt]
  | d :: p, s, h => by
    have h1 : d ≠ c := fun e => h (by rw [e]; exact List.mem_cons_self)
    have h2 : c ∉ p := fun e => h (List.mem_cons_of_mem _ e)
    simp [nxt, h1, nxt_new s h2]
theorem nxt_none {c : Nat} : ∀ {s : List Nat}, nxt s c = none ↔ c ∉ s
  | [] => by simp [nxt]
  | d :: s => by
    by_cases e : d = c
    · simp [nxt, e]
    · have e' : c ≠ d := fun z => e z.symm
      simp [nxt, e, nxt_none (s := s), e']
theorem nxt_len {c : Nat} : ∀ {s s' : List Nat}, nxt s c = some s' → s'.length < s.length
  | [], _, h => by cases h
  | d :: s, s', h => by
    unfold nxt at h
    split at h
    · cases h; simp
    · have := nxt_len h
      simp; omega
theorem nxt_suf {c : Nat} : ∀ {s s' : List Nat}, nxt s c = some s' → ∃ p, s = p ++ c :: s' ∧ c ∉ p
  | [], _, h => by cases h
  | d :: s, s', h => by
    unfold nxt at h
    split at h
    · rename_i e
      cases h
      exact ⟨[], by simp [e], by simp⟩
    · rename_i e
      obtain ⟨p, hp, hc⟩ := nxt_suf h
      exact ⟨d :: p, by rw [hp]; rfl, by
        intro z
        rcases List.mem_cons.mp z with z | z
        · exact e z.symm
        · exact hc z⟩
theorem sub_tail : ∀ (u : List Nat) (a : Nat) (w : List Nat), sub (a :: w) u = true → sub w u = true
  | [], _, _, z => by cases z
  | f :: u, a, w, z => by
    have go : sub w u = true → sub w (f :: u) = true := fun h => by
      cases w with
      | nil => rfl
      | cons b w =>
        rw [sub]
        split
        · exact sub_tail u b w h
        · exact h
    rw [sub] at z
    split at z
    · exact go z
    · exact go (sub_tail u a w z)
theorem sub_pre : ∀ (p : List Nat) {w s : List Nat}, sub w s = true → sub w (p ++ s) = true
  | [], _, _, h => h
  | d :: p, [], s, h => rfl
  | d :: p, c :: w, s, h => by
    show (if d = c then sub w (p ++ s) else sub (c :: w) (p ++ s)) = true
    split
    · exact sub_pre p (sub_tail s c w h)
    · exact sub_pre p h
def ok (k : Nat) (w : List Nat) : Prop := ∀ c ∈ w, c < k
def has (k : Nat) (s : List Nat) : Bool := (List.range k).all fun c => decide (c ∈ s)
theorem has_iff {k : Nat} {s : List Nat} : has k s = true ↔ ∀ c, c < k → c ∈ s := by
  simp [has, List.all_eq_true]
/-- the arches of part ++ s, where part has not all letters, and what is left -/
def arcs (k : Nat) : List Nat → List Nat → List (List Nat) × List Nat
  | part, [] => ([], part)
  | part, c :: s => if has k (part ++ [c]) = true then ((part ++ [c]) :: (arcs k [] s).1, (arcs k [] s).2) else arcs k (part ++ [c]) s
def ar (k : Nat) (s : List Nat) : Nat := (arcs k [] s).1.length
theorem has_nil {k : Nat} (hk : 0 < k) : has k [] = false := by
  cases h : has k [] with
  | false => rfl
  | true => exact absurd (has_iff.mp h 0 hk) (by simp)
theorem all_sub_part {k : Nat} (hk : 0 < k) : ∀ (s part w : List Nat), has k part = false → ok k w → w.length ≤ (arcs k part s).1.length → sub w (part ++ s) = true
  | [], part, w, _, _, hl => by
    have : w = [] := List.eq_nil_of_length_eq_zero (by simpa [arcs] using hl)
    subst this
    exact sub_nil _
  | c :: s, part, w, hp, hw, hl => by
    unfold arcs at hl
    split at hl
    · rename_i hh
      cases w with
      | nil => exact sub_nil _
      | cons d w =>
        have h1 := all_sub_part hk s [] w (has_nil hk) (fun x hx => hw x (List.mem_cons_of_mem _ hx)) (by simpa using hl)
        have hd := has_iff.mp hh d (hw d List.mem_cons_self)
        obtain ⟨q, hq⟩ := nxt_app s hd
        have e : part ++ c :: s = (part ++ [c]) ++ s := by simp
        rw [e, sub_cons, hq]
        exact sub_pre q h1
    · rename_i hh
      have := all_sub_part hk s (part ++ [c]) w (by simpa using hh) hw hl
      simpa using this
theorem some_not_part {k : Nat} (hk : 0 < k) : ∀ (s part : List Nat), has k part = false → ∃ w, ok k w ∧ w.length = (arcs k part s).1.length + 1 ∧ sub w (part ++ s) = false
  | [], part, hp => by
    have : ¬ ∀ c, c < k → c ∈ part := fun z => by rw [has_iff.mpr z] at hp; cases hp
    obtain ⟨c, hc⟩ := Classical.not_forall.mp this
    obtain ⟨h1, h2⟩ := Classical.not_imp.mp hc
    refine ⟨[c], fun x hx => by simp at hx; omega, by simp [arcs], ?_⟩
    rw [List.append_nil, sub_cons, nxt_none.mpr h2]
  | c :: s, part, hp => by
    unfold arcs
    split
    · rename_i hh
      obtain ⟨w, h1, h2, h3⟩ := some_not_part hk s [] (has_nil hk)
      have : ¬ ∀ d, d < k → d ∈ part := fun z => by rw [has_iff.mpr z] at hp; cases hp
      obtain ⟨d, hd⟩ := Classical.not_forall.mp this
      obtain ⟨g1, g2⟩ := Classical.not_imp.mp hd
      have e : d = c := by
        have := has_iff.mp hh d g1
        rcases List.mem_append.mp this with z | z
        · exact absurd z g2
        · simpa using z
      subst e
      refine ⟨d :: w, fun x hx => ?_, by simp [h2], ?_⟩
      · rcases List.mem_cons.mp hx with z | z
        · omega
        · exact h1 x z
      · rw [sub_cons, nxt_new s g2]
        simpa using h3
    · rename_i hh
      obtain ⟨w, h1, h2, h3⟩ := some_not_part hk s (part ++ [c]) (by simpa using hh)
      exact ⟨w, h1, h2, by simpa using h3⟩
theorem all_sub {k : Nat} (hk : 0 < k) {s w : List Nat} (hw : ok k w) (hl : w.length ≤ ar k s) : sub w s = true := by
  simpa using all_sub_part hk s [] w (has_nil hk) hw hl
theorem some_not {k : Nat} (hk : 0 < k) (s : List Nat) : ∃ w, ok k w ∧ w.length = ar k s + 1 ∧ sub w s = false := by
  obtain ⟨w, h1, h2, h3⟩ := some_not_part hk s [] (has_nil hk)
  exact ⟨w, h1, h2, by simpa using h3⟩
theorem ar_next_ge {k : Nat} (hk : 0 < k) {s s' : List Nat} {c : Nat} (hc : c < k) (h : nxt s c = some s') : ar k s ≤ ar k s' + 1 := by
  obtain ⟨w, h1, h2, h3⟩ := some_not hk s'
  refine Nat.le_of_not_lt fun hl => ?_
  have := all_sub hk (s := s) (w := c :: w) (fun x hx => by
    rcases List.mem_cons.mp hx with z | z
    · omega
    · exact h1 x z) (by simp; omega)
  rw [sub_cons, h] at this
  simp only at this
  rw [h3] at this
  cases this
theorem ar_next_le {k : Nat} (hk : 0 < k) {s s' : List Nat} {c : Nat} (hc : c < k) (h : nxt s c = some s') : ar k s' ≤ ar k s := by
  obtain ⟨w, h1, h2, h3⟩ := some_not hk s
  refine Nat.le_of_not_lt fun hl => ?_
  have g := all_sub hk (s := s') (w := w) h1 (by omega)
  obtain ⟨p, hp, _⟩ := nxt_suf h
  have := sub_pre (p ++ [c]) g
  rw [List.append_assoc] at this
  simp only [List.cons_append, List.nil_append] at this
  rw [← hp, h3] at this
  cases this
theorem ar_next_ex {k : Nat} (hk : 0 < k) {s : List Nat} (hh : has k s = true) : ∃ c s', c < k ∧ nxt s c = some s' ∧ ar k s = ar k s' + 1 := by
  obtain ⟨w, h1, h2, h3⟩ := some_not hk s
  cases w with
  | nil => simp at h2
  | cons c w =>
    have hc := h1 c List.mem_cons_self
    rw [sub_cons] at h3
    cases e : nxt s c with
    | none => exact absurd (has_iff.mp hh c hc) (nxt_none.mp e)
    | some s' =>
      rw [e] at h3
      simp only at h3
      refine ⟨c, s', hc, e, ?_⟩
      have g1 := ar_next_ge hk hc e
      have g2 : ar k s' < ar k s := by
        refine Nat.lt_of_not_le fun hl => ?_
        have := all_sub hk (s := s') (w := w) (fun x hx => h1 x (List.mem_cons_of_mem _ hx)) (by simp at h2; omega)
        rw [h3] at this
        cases this
      omega
theorem ar_zero {k : Nat} (hk : 0 < k) {s : List Nat} : has k s = false ↔ ar k s = 0 := by
  constructor
  · intro h
    refine Nat.eq_zero_of_not_pos fun hp => ?_
    have : has k s = true := has_iff.mpr fun c hc => by
      have := all_sub hk (s := s) (w := [c]) (fun x hx => by simp at hx; omega) (by simpa using (show 1 ≤ ar k s from hp))
      rw [sub_cons] at this
      cases e : nxt s c with
      | none => rw [e] at this; cases this
      | some s' =>
        obtain ⟨p, hp, _⟩ := nxt_suf e
        rw [hp]; simp
    rw [h] at this
    cases this
  · intro h
    cases hh : has k s with
    | false => rfl
    | true =>
      obtain ⟨c, s', _, _, e⟩ := ar_next_ex hk hh
      omega
/-- the first word of so many letters more that is not scattered -/
def mw (k : Nat) : Nat → List Nat → List Nat
  | 0, s => [((List.range k).find? fun c => decide (c ∉ s)).getD 0]
  | n + 1, s => match (List.range k).find? fun c => match nxt s c with | some s' => decide (ar k s' = n) | none => false with
    | some c => c :: mw k n ((nxt s c).getD [])
    | none => []
def wordsOf (k : Nat) : Nat → List (List Nat)
  | 0 => [[]]
  | n + 1 => (wordsOf k n).flatMap fun w => (List.range k).map fun c => w ++ [c]
theorem wordsOf_pre (k : Nat) : ∀ n, wordsOf k (n + 1) = (List.range k).flatMap fun c => (wordsOf k n).map fun w => c :: w
  | 0 => by
    show ([[]] : List (List Nat)).flatMap (fun w => (List.range k).map fun c => w ++ [c]) = (List.range k).flatMap fun c => [[c]]
    rw [List.flatMap_cons, List.flatMap_nil, List.append_nil]
    induction (List.range k) with
    | nil => rfl
    | cons a l ih => rw [List.map_cons, List.flatMap_cons, ih]; rfl
  | n + 1 => by
    have ih := wordsOf_pre k n
    have e : wordsOf k (n + 1 + 1) = (wordsOf k (n + 1)).flatMap fun w => (List.range k).map fun c => w ++ [c] := rfl
    rw [e, ih, List.flatMap_assoc]
    congr 1
    funext c
    rw [List.flatMap_map, ← ih]
    have e2 : wordsOf k (n + 1) = (wordsOf k n).flatMap fun w => (List.range k).map fun c => w ++ [c] := rfl
    rw [e2, List.map_flatMap]
    congr 1
    funext w
    rw [List.map_map]
    rfl
theorem wordsOf_ok (k : Nat) : ∀ n w, w ∈ wordsOf k n → ok k w ∧ w.length = n
  | 0, w, h => by
    simp [wordsOf] at h
    subst h
    exact ⟨(fun c hc => by cases hc), rfl⟩
  | n + 1, w, h => by
    simp only [wordsOf, List.mem_flatMap, List.mem_map, List.mem_range] at h
    obtain ⟨v, hv, c, hc, rfl⟩ := h
    obtain ⟨h1, h2⟩ := wordsOf_ok k n v hv
    refine ⟨fun x hx => ?_, by simp [h2]⟩
    rcases List.mem_append.mp hx with z | z
    · exact h1 x z
    · simp at z; omega
theorem first_none {k : Nat} (hk : 0 < k) {n : Nat} {s : List Nat} (h : n ≤ ar k s) : (wordsOf k n).find? (fun w => !sub w s) = none := by
  rw [List.find?_eq_none]
  intro w hw
  obtain ⟨h1, h2⟩ := wordsOf_ok k n w hw
  rw [all_sub hk h1 (by omega)]
  simp
theorem first_is {k : Nat} (hk : 0 < k) : ∀ (n : Nat) (s : List Nat), ar k s = n → (wordsOf k (n + 1)).find? (fun w => !sub w s) = some (mw k n s)
  | 0, s, h => by
    have hh := (ar_zero hk).mpr h
    rw [wordsOf_pre, List.find?_flatMap]
    have e : ∀ c, ((wordsOf k 0).map fun w => c :: w).find? (fun w => !sub w s) = if c ∈ s then none else some [c] := fun c => by
      simp only [wordsOf, List.map_cons, List.map_nil, List.find?_cons, List.find?_nil]
      rw [sub_cons]
      by_cases hc : c ∈ s
      · rw [if_pos hc]
        cases q : nxt s c with
        | none => exact absurd hc (nxt_none.mp q)
        | some s' => simp [sub_nil]
      · rw [if_neg hc, nxt_none.mpr hc]
        simp
    simp only [e]
    unfold mw
    have : ∃ c ∈ List.range k, c ∉ s := by
      refine Classical.byContradiction fun z => ?_
      have : has k s = true := has_iff.mpr fun c hc => Classical.byContradiction fun y => z ⟨c, List.mem_range.mpr hc, y⟩
      rw [hh] at this
      cases this
    revert this
    generalize List.range k = l
    induction l with
    | nil => rintro ⟨c, hc, _⟩; cases hc
    | cons a l ih =>
      intro hx
      by_cases ha : a ∈ s
      · rw [List.findSome?_cons, if_pos ha, List.find?_cons]
        simp only [ha, not_true_eq_false, decide_false]
        refine ih ?_
        obtain ⟨c, hc, hs⟩ := hx
        rcases List.mem_cons.mp hc with z | z
        · rw [z] at hs; exact absurd ha hs
        · exact ⟨c, z, hs⟩
      · rw [List.findSome?_cons, if_neg ha, List.find?_cons]
        simp [ha]
  | n + 1, s, h => by
    have hh : has k s = true := by
      cases q : has k s with
      | true => rfl
      | false => have := (ar_zero hk).mp q; omega
    rw [wordsOf_pre, List.find?_flatMap]
    have e : ∀ c, c < k → ((wordsOf k (n + 1)).map fun w => c :: w).find? (fun w => !sub w s) = match nxt s c with
        | some s' => if ar k s' = n then some (c :: mw k n s') else none
        | none => none := fun c hc => by
      rw [List.find?_map]
      cases q : nxt s c with
      | none => exact absurd (has_iff.mp hh c hc) (nxt_none.mp q)
      | some s' =>
        have f : ((fun w => !sub w s) ∘ fun w => c :: w) = fun w => !sub w s' := by
          funext w
          show (!sub (c :: w) s) = _
          rw [sub_cons, q]
        rw [f]
        have g1 := ar_next_ge hk hc q
        by_cases ha : ar k s' = n
        · simp only [ha, if_true]
          rw [first_is hk n s' ha]
          rfl
        · simp only [if_neg ha]
          rw [first_none hk (by omega)]
          rfl
    obtain ⟨c0, s0, hc0, hn0, ha0⟩ := ar_next_ex hk hh
    have key : ∀ l : List Nat, (∀ c ∈ l, c < k) → (∃ c ∈ l, ∃ s', nxt s c = some s' ∧ ar k s' = n) →
        l.findSome? (fun c => ((wordsOf k (n + 1)).map fun w => c :: w).find? (fun w => !sub w s)) = some (match l.find? (fun c => match nxt s c with | some s' => decide (ar k s' = n) | none => false) with
          | some c => c :: mw k n ((nxt s c).getD [])
          | none => []) := by
      intro l
      induction l with
      | nil => rintro _ ⟨c, hc, _⟩; cases hc
      | cons a l ih =>
        intro hl hx
        rw [List.findSome?_cons, e a (hl a List.mem_cons_self), List.find?_cons]
        cases q : nxt s a with
        | none =>
          simp only
          refine ih (fun c hc => hl c (List.mem_cons_of_mem _ hc)) ?_
          obtain ⟨c, hc, s', h1, h2⟩ := hx
          rcases List.mem_cons.mp hc with z | z
          · rw [z, q] at h1; cases h1
          · exact ⟨c, z, s', h1, h2⟩
        | some s' =>
          by_cases ha : ar k s' = n
          · simp [ha, q]
          · simp only [ha, if_false, decide_false]
            refine ih (fun c hc => hl c (List.mem_cons_of_mem _ hc)) ?_
            obtain ⟨c, hc, s1, h1, h2⟩ := hx
            rcases List.mem_cons.mp hc with z | z
            · rw [z, q] at h1; cases h1; exact absurd h2 ha
            · exact ⟨c, z, s1, h1, h2⟩
    have := key (List.range k) (fun c hc => List.mem_range.mp hc) ⟨c0, List.mem_range.mpr hc0, s0, hn0, by omega⟩
    rw [this]
    rfl
theorem mw_ok {k : Nat} (hk : 0 < k) {s : List Nat} : ok k (mw k (ar k s) s) ∧ (mw k (ar k s) s).length = ar k s + 1 ∧ sub (mw k (ar k s) s) s = false := by
  have h := first_is hk (ar k s) s rfl
  have h1 := wordsOf_ok k _ _ (List.mem_of_find?_eq_some h)
  have h2 := List.find?_some h
  exact ⟨h1.1, h1.2, by simpa using h2⟩
end M77

set_option Elab.async false
set_option linter.all false
set_option maxRecDepth 100000
set_option maxHeartbeats 4000000
namespace LC
open PySem L2 DV M77
theorem law_word_eq {l : List Nat} {k : Nat} (hk : 0 < k) (hk3 : k ≤ 3) (hl : l.length ≤ 16777216) : F_law_word [.list (l.map dN), dN k] = some (dW (l.map (· % k))) := by
  rw [F_law_word, callF_2, b_law_word]
  have st : ∀ x ∈ l, o2 ixD (eC (dW [0, 1, 2])) (o2 modD (eW 2) (eW 1)) ([some (.shr (.list (l.map dN))), some (.shr (dN k)), none].set 2 (some (.shr (dN x)))) = some (dW [x % k]) := fun x _ => by
    have c1 := mod_ii (i := (x : Int)) (j := (k : Int)) (by omega)
    have hm : x % k < k := Nat.mod_lt _ hk
    have e : (x : Int) % (k : Int) = ((x % k : Nat) : Int) := by omega
    have c2 := ix_wd (l := [0, 1, 2]) (i := x % k) (by simp; omega) (by decide)
    have c3 : ([0, 1, 2] : List Nat)[x % k]'(by simp; omega) = x % k := by
      have : x % k = 0 ∨ x % k = 1 ∨ x % k = 2 := by omega
      rcases this with z | z | z <;> simp [z]
    rw [c3, ← e] at c2
    simp [c1, c2]
  have lc := lcL_map (a := o2 ixD (eC (dW [0, 1, 2])) (o2 modD (eW 2) (eW 1))) (ρ := [some (.shr (.list (l.map dN))), some (.shr (dN k)), none]) (i := 2) dN (fun x => dW [x % k]) l st
  have e2 : l.map (fun x => dW [x % k]) = (l.map fun x => [x % k]).map dW := by rw [List.map_map]; rfl
  rw [e2] at lc
  have hs : ((l.map fun x => [x % k]).map (·.length)).sum ≤ 16777216 := by
    rw [List.map_map]
    show (l.map fun _ => 1).sum ≤ _
    rw [List.map_const', List.sum_replicate_nat]
    omega
  have hf : (l.map fun x => [x % k]).flatten = l.map (· % k) := by
    clear st lc e2 hs hl
    induction l with
    | nil => rfl
    | cons a l ih => simp [ih]
  have j := join_wd (l.map fun x => [x % k]) hs
  rw [hf] at j
  simp only [List.map_map] at lc j
  simp [List.replicate, abc_wd, nil_wd, itemsD, lcO_s, hl, lc, j]
/-! ### all words of at most a length -/
def upTo (k n : Nat) : List (List Nat) := (List.range (n + 1)).flatMap (M77.wordsOf k)
theorem inner {a0 a1 a2 a3 a4 : Option Sl} {w : List Nat} (hw : w.length + 1 ≤ 16777216) : ∀ (cs : List Nat) (o : Option Sl) (acc : List D), acc.length + cs.length ≤ 16777216 →
    ∃ o', forL (gN 7) L1_law_words (cs.map fun c => dW [c]) [a0, a1, a2, a3, a4, some (.own (.list acc)), some (.shr (dW w)), o] =
      some (.nx [a0, a1, a2, a3, a4, some (.own (.list (acc ++ cs.map fun c => dW (w ++ [c])))), some (.shr (dW w)), o'])
  | [], o, acc, _ => ⟨o, by simp [forL_nil]⟩
  | c :: cs, o, acc, h => by
    simp at h
    obtain ⟨o', e⟩ := inner (a0 := a0) (a1 := a1) (a2 := a2) (a3 := a3) (a4 := a4) hw cs (some (.shr (dW [c]))) (acc ++ [dW (w ++ [c])]) (by simp; omega)
    refine ⟨o', ?_⟩
    rw [List.map_cons, forL_cons]
    have st : L1_law_words ([a0, a1, a2, a3, a4, some (.own (.list acc)), some (.shr (dW w)), o].set 7 (some (.shr (dW [c])))) = some (.nx [a0, a1, a2, a3, a4, some (.own (.list (acc ++ [dW (w ++ [c])]))), some (.shr (dW w)), some (.shr (dW [c]))]) := by
      have c1 := add_wd (l := w) (m := [c]) (by simpa using hw)
      have c2 := appS_s (i := 5) (d := dW (w ++ [c])) (ρ := [a0, a1, a2, a3, a4, some (.own (.list acc)), some (.shr (dW w)), some (.shr (dW [c]))]) (ds := acc) (by omega)
      simp [L1_law_words, c1, c2]
    rw [st, turnS_nx, e]
    simp
theorem middle {a1 a2 a3 a4 : Option Sl} {k n : Nat} (hk : k ≤ 3) (hn : n ≤ 1000) : ∀ (ws : List (List Nat)) (o6 o7 : Option Sl) (acc : List D), (∀ w ∈ ws, w.length = n) → acc.length + ws.length * k ≤ 16777216 →
    ∃ o6' o7', forL (gN 6) L2_law_words (ws.map dW) [some (.shr (dN k)), a1, a2, a3, a4, some (.own (.list acc)), o6, o7] =
      some (.nx [some (.shr (dN k)), a1, a2, a3, a4, some (.own (.list (acc ++ (ws.flatMap fun w => (List.range k).map fun c => w ++ [c]).map dW))), o6', o7'])
  | [], o6, o7, acc, _, _ => ⟨o6, o7, by simp [forL_nil]⟩
  | w :: ws, o6, o7, acc, hw, h => by
    have hw1 := hw w List.mem_cons_self
    rw [List.length_cons, Nat.succ_mul] at h
    obtain ⟨o7', e1⟩ := inner (a0 := some (.shr (dN k))) (a1 := a1) (a2 := a2) (a3 := a3) (a4 := a4) (w := w) (by omega) (List.range k) o7 acc (by simp; omega)
    obtain ⟨o6'', o7'', e2⟩ := middle (a1 := a1) (a2 := a2) (a3 := a3) (a4 := a4) hk hn ws (some (.shr (dW w))) o7' (acc ++ (List.range k).map fun c => dW (w ++ [c])) (fun x hx => hw x (List.mem_cons_of_mem _ hx)) (by simp; omega)
    refine ⟨o6'', o7'', ?_⟩
    rw [List.map_cons, forL_cons]
    have st : L2_law_words ([some (.shr (dN k)), a1, a2, a3, a4, some (.own (.list acc)), o6, o7].set 6 (some (.shr (dW w)))) = some (.nx [some (.shr (dN k)), a1, a2, a3, a4, some (.own (.list (acc ++ (List.range k).map fun c => dW (w ++ [c])))), some (.shr (dW w)), o7']) := by
      have c1 := abc_itm hk
      simp [L2_law_words, abc_wd, c1, e1]
    rw [st, turnS_nx, e2]
    simp [Function.comp_def]
theorem wordsOf_len (k : Nat) : ∀ n, (M77.wordsOf k n).length = k ^ n
  | 0 => rfl
  | n + 1 => by
    have := wordsOf_len k n
    simp only [M77.wordsOf, List.length_flatMap, List.length_map, List.length_range]
    rw [List.map_const', List.sum_replicate_nat, this, Nat.pow_succ]
theorem upTo_succ (k n : Nat) : upTo k (n + 1) = upTo k n ++ M77.wordsOf k (n + 1) := by
  unfold upTo
  rw [List.range_succ (n := n + 1), List.flatMap_append]
  simp
def cnt (k : Nat) : Nat → Nat
  | 0 => 1
  | n + 1 => cnt k n + k ^ (n + 1)
theorem upTo_len (k : Nat) : ∀ n, (upTo k n).length = cnt k n
  | 0 => by simp [upTo, M77.wordsOf, cnt]
  | n + 1 => by rw [upTo_succ, List.length_append, upTo_len k n, wordsOf_len]; rfl
theorem outer {k n : Nat} {a1 : Option Sl} (hk : k ≤ 3) (hn : n ≤ 1000) (hc : cnt k n ≤ 16777216) : ∀ (m i : Nat) (o4 o5 o6 o7 : Option Sl), i + m = n →
    ∃ (a2 : Option Sl) (o3' o4' o5' o6' o7' : Option Sl), forL (gN 4) L3_law_words ((List.range' i m).map dN) [some (.shr (dN k)), a1, some (.shr (.list ((upTo k i).map dW))), some (.shr (.list ((M77.wordsOf k i).map dW))), o4, o5, o6, o7] =
      some (.nx [some (.shr (dN k)), a1, some (.shr (.list ((upTo k n).map dW))), o3', o4', o5', o6', o7'])
  | 0, i, o4, o5, o6, o7, h => ⟨none, _, o4, o5, o6, o7, by
      have : i = n := by omega
      subst this
      simp [forL_nil]
      rfl⟩
  | m + 1, i, o4, o5, o6, o7, h => by
    have mono : ∀ a b, cnt k a ≤ cnt k (a + b) := fun a b => by
      induction b with
      | zero => exact Nat.le_refl _
      | succ b ih => exact Nat.le_trans ih (Nat.le_add_right _ _)
    have h1 : cnt k (i + 1) ≤ 16777216 := by
      have := mono (i + 1) m
      rw [show i + 1 + m = n by omega] at this
      omega
    have h2 : cnt k (i + 1) = cnt k i + k ^ (i + 1) := rfl
    have hwl : (M77.wordsOf k i).length * k = k ^ (i + 1) := by rw [wordsOf_len, Nat.pow_succ]
    obtain ⟨o6', o7', e1⟩ := middle (a1 := a1) (a2 := some (.shr (.list ((upTo k i).map dW)))) (a3 := some (.shr (.list ((M77.wordsOf k i).map dW)))) (a4 := some (.shr (dN i))) (n := i) hk (by omega) (M77.wordsOf k i) o6 o7 [] (fun w hw => (wordsOf_ok k i w hw).2) (by rw [hwl]; simp; omega)
    obtain ⟨a2, o3', o4', o5', o6'', o7'', e2⟩ := outer (a1 := a1) hk hn hc m (i + 1) (some (.shr (dN i))) (some (.shr (.list ((M77.wordsOf k (i + 1)).map dW)))) o6' o7' (by omega)
    refine ⟨a2, o3', o4', o5', o6'', o7'', ?_⟩
    rw [List.range'_succ, List.map_cons, forL_cons]
    have ew : (M77.wordsOf k i).flatMap (fun w => (List.range k).map fun c => w ++ [c]) = M77.wordsOf k (i + 1) := rfl
    rw [ew, List.nil_append] at e1
    have st : L3_law_words ([some (.shr (dN k)), a1, some (.shr (.list ((upTo k i).map dW))), some (.shr (.list ((M77.wordsOf k i).map dW))), o4, o5, o6, o7].set 4 (some (.shr (dN i)))) =
        some (.nx [some (.shr (dN k)), a1, some (.shr (.list ((upTo k (i + 1)).map dW))), some (.shr (.list ((M77.wordsOf k (i + 1)).map dW))), some (.shr (dN i)), some (.shr (.list ((M77.wordsOf k (i + 1)).map dW))), o6', o7']) := by
      have c1 : addD (.list ((upTo k i).map dW)) (.list ((M77.wordsOf k (i + 1)).map dW)) = some (.list ((upTo k (i + 1)).map dW)) := by
        simp only [addD]
        rw [if_pos (by rw [sizeLine_eq, List.length_map, List.length_map, upTo_len, wordsOf_len]; omega), upTo_succ, List.map_append]
      simp [L3_law_words, itemsD, e1, c1]
    rw [st, turnS_nx, e2]
theorem law_words_eq {k n : Nat} (hk : k ≤ 3) (hn : n ≤ 1000) (hc : cnt k n ≤ 16777216) : F_law_words [dN k, dN n] = some (.list ((upTo k n).map dW)) := by
  rw [F_law_words, callF_2, b_law_words]
  obtain ⟨_, o3, o4, o5, o6, o7, e⟩ := outer (a1 := some (.shr (dN n))) hk hn hc n 0 none none none none (by omega)
  have e0 : upTo k 0 = [[]] := by simp [upTo, M77.wordsOf]
  have e1 : M77.wordsOf k 0 = [[]] := rfl
  rw [e0, e1, ← List.range_eq_range'] at e
  simp at e
  simp [List.replicate, nil_wd, rng1_n (show n ≤ 16777216 by omega), e]
/-! ### scattered -/
theorem scat_loop {w : List Nat} {a1 : Option Sl} (hw : w.length ≤ 16777216) : ∀ (t : List Nat) (i : Nat) (o : Option Sl), i ≤ w.length →
    ∃ (j : Nat) (o' : Option Sl), forL (gN 3) L1_law_scattered (t.map fun c => dW [c]) [some (.shr (dW w)), a1, some (.shr (dN i)), o] = some (.nx [some (.shr (dW w)), a1, some (.shr (dN j)), o']) ∧ j ≤ w.length ∧ (j = w.length ↔ sub (w.drop i) t = true)
  | [], i, o, hi => ⟨i, o, rfl, hi, by
      by_cases h : i = w.length
      · subst h; simp [sub_nil]
      · have hlt : i < w.length := by omega
        rw [List.drop_eq_getElem_cons hlt]
        simp [sub, h]⟩
  | c :: t, i, o, hi => by
    rw [List.map_cons, forL_cons]
    by_cases h : i < w.length
    · have c1 := len_wd hw
      have c2 := ix_wd h hw
      by_cases hc : w[i] = c
      · obtain ⟨j, o', e, h1, h2⟩ := scat_loop (a1 := a1) hw t (i + 1) (some (.shr (dW [c]))) h
        refine ⟨j, o', ?_, h1, ?_⟩
        · have st : L1_law_scattered ([some (.shr (dW w)), a1, some (.shr (dN i)), o].set 3 (some (.shr (dW [c])))) = some (.nx [some (.shr (dW w)), a1, some (.shr (dN (i + 1))), some (.shr (dW [c]))]) := by
            simp [L1_law_scattered, c1, c2, eq_wd, h, hc]
          rw [st, turnS_nx, e]
        · rw [h2, List.drop_eq_getElem_cons h]
          simp [sub, hc]
      · obtain ⟨j, o', e, h1, h2⟩ := scat_loop (a1 := a1) hw t i (some (.shr (dW [c]))) hi
        refine ⟨j, o', ?_, h1, ?_⟩
        · have st : L1_law_scattered ([some (.shr (dW w)), a1, some (.shr (dN i)), o].set 3 (some (.shr (dW [c])))) = some (.nx [some (.shr (dW w)), a1, some (.shr (dN i)), some (.shr (dW [c]))]) := by
            simp [L1_law_scattered, c1, c2, eq_wd, h, hc]
          rw [st, turnS_nx, e]
        · have hc' : ¬ c = w[i] := fun z => hc z.symm
          rw [h2, List.drop_eq_getElem_cons h]
          simp [sub, hc']
    · have ei : i = w.length := by omega
      obtain ⟨j, o', e, h1, h2⟩ := scat_loop (a1 := a1) hw t i (some (.shr (dW [c]))) hi
      refine ⟨j, o', ?_, h1, ?_⟩
      · have c1 := len_wd hw
        have st : L1_law_scattered ([some (.shr (dW w)), a1, some (.shr (dN i)), o].set 3 (some (.shr (dW [c])))) = some (.nx [some (.shr (dW w)), a1, some (.shr (dN i)), some (.shr (dW [c]))]) := by
          simp [L1_law_scattered, c1, h]
        rw [st, turnS_nx, e]
      · rw [h2, ei]
        simp [sub_nil]
theorem law_scattered_eq {w t : List Nat} (hw : w.length ≤ 16777216) : F_law_scattered [dW w, dW t] = some (.bool (sub w t)) := by
  rw [F_law_scattered, callF_2, b_law_scattered]
  obtain ⟨j, o', e, h1, h2⟩ := scat_loop (a1 := some (.shr (dW t))) hw t 0 none (by omega)
  have c1 := len_wd hw
  have c2 : decide ((j : Int) = (w.length : Int)) = sub w t := by
    rw [Bool.eq_iff_iff, decide_eq_true_iff]
    rw [List.drop_zero] at h2
    rw [← h2]
    omega
  rw [show dN 0 = PyData.int 0 from rfl] at e
  simp [List.replicate, items_wd, e, c1]
  by_cases h : j = w.length
  · have := h2.mp h
    simp_all
  · have : sub w t = false := by
      cases q : sub w t with
      | false => rfl
      | true => exact absurd (h2.mpr (by simpa using q)) h
    simp_all
end LC

set_option Elab.async false
set_option linter.all false
set_option maxRecDepth 100000
set_option maxHeartbeats 4000000
namespace LC
open PySem L2 DV
theorem kb_NoneType_bool : kitB "NoneType" "bool" = some false := by decide +kernel
@[simp] theorem isi_NoneType_bool : isiD "bool" .none = some (.bool false) := by
  show (kitB "NoneType" "bool").map _ = _
  rw [kb_NoneType_bool]
  rfl
theorem kb_bool_bool : kitB "bool" "bool" = some true := by decide +kernel
@[simp] theorem isi_bool_bool {b : Bool} : isiD "bool" (.bool b) = some (.bool true) := by
  show (kitB "bool" "bool").map _ = _
  rw [kb_bool_bool]
  rfl
theorem kb_int_bool : kitB "int" "bool" = some false := by decide +kernel
@[simp] theorem isi_int_bool {i : Int} : isiD "bool" (.int i) = some (.bool false) := by
  show (kitB "int" "bool").map _ = _
  rw [kb_int_bool]
  rfl
theorem kb_str_bool : kitB "str" "bool" = some false := by decide +kernel
@[simp] theorem isi_str_bool {x : Str} : isiD "bool" (.str x) = some (.bool false) := by
  show (kitB "str" "bool").map _ = _
  rw [kb_str_bool]
  rfl
theorem kb_list_bool : kitB "list" "bool" = some false := by decide +kernel
@[simp] theorem isi_list_bool {ds : List D} : isiD "bool" (.list ds) = some (.bool false) := by
  show (kitB "list" "bool").map _ = _
  rw [kb_list_bool]
  rfl
theorem kb_tuple_bool : kitB "tuple" "bool" = some false := by decide +kernel
@[simp] theorem isi_tuple_bool {ds : List D} : isiD "bool" (.tuple ds) = some (.bool false) := by
  show (kitB "tuple" "bool").map _ = _
  rw [kb_tuple_bool]
  rfl
theorem kb_NoneType_int : kitB "NoneType" "int" = some false := by decide +kernel
@[simp] theorem isi_NoneType_int : isiD "int" .none = some (.bool false) := by
  show (kitB "NoneType" "int").map _ = _
  rw [kb_NoneType_int]
  rfl
theorem kb_bool_int : kitB "bool" "int" = some true := by decide +kernel
@[simp] theorem isi_bool_int {b : Bool} : isiD "int" (.bool b) = some (.bool true) := by
  show (kitB "bool" "int").map _ = _
  rw [kb_bool_int]
  rfl
theorem kb_int_int : kitB "int" "int" = some true := by decide +kernel
@[simp] theorem isi_int_int {i : Int} : isiD "int" (.int i) = some (.bool true) := by
  show (kitB "int" "int").map _ = _
  rw [kb_int_int]
  rfl
theorem kb_str_int : kitB "str" "int" = some false := by decide +kernel
@[simp] theorem isi_str_int {x : Str} : isiD "int" (.str x) = some (.bool false) := by
  show (kitB "str" "int").map _ = _
  rw [kb_str_int]
  rfl
theorem kb_list_int : kitB "list" "int" = some false := by decide +kernel
@[simp] theorem isi_list_int {ds : List D} : isiD "int" (.list ds) = some (.bool false) := by
  show (kitB "list" "int").map _ = _
  rw [kb_list_int]
  rfl
theorem kb_tuple_int : kitB "tuple" "int" = some false := by decide +kernel
@[simp] theorem isi_tuple_int {ds : List D} : isiD "int" (.tuple ds) = some (.bool false) := by
  show (kitB "tuple" "int").map _ = _
  rw [kb_tuple_int]
  rfl
theorem kb_NoneType_str : kitB "NoneType" "str" = some false := by decide +kernel
@[simp] theorem isi_NoneType_str : isiD "str" .none = some (.bool false) := by
  show (kitB "NoneType" "str").map _ = _
  rw [kb_NoneType_str]
  rfl
theorem kb_bool_str : kitB "bool" "str" = some false := by decide +kernel
@[simp] theorem isi_bool_str {b : Bool} : isiD "str" (.bool b) = some (.bool false) := by
  show (kitB "bool" "str").map _ = _
  rw [kb_bool_str]
  rfl
theorem kb_int_str : kitB "int" "str" = some false := by decide +kernel
@[simp] theorem isi_int_str {i : Int} : isiD "str" (.int i) = some (.bool false) := by
  show (kitB "int" "str").map _ = _
  rw [kb_int_str]
  rfl
theorem kb_str_str : kitB "str" "str" = some true := by decide +kernel
@[simp] theorem isi_str_str {x : Str} : isiD "str" (.str x) = some (.bool true) := by
  show (kitB "str" "str").map _ = _
  rw [kb_str_str]
  rfl
theorem kb_list_str : kitB "list" "str" = some false := by decide +kernel
@[simp] theorem isi_list_str {ds : List D} : isiD "str" (.list ds) = some (.bool false) := by
  show (kitB "list" "str").map _ = _
  rw [kb_list_str]
  rfl
theorem kb_tuple_str : kitB "tuple" "str" = some false := by decide +kernel
@[simp] theorem isi_tuple_str {ds : List D} : isiD "str" (.tuple ds) = some (.bool false) := by
  show (kitB "tuple" "str").map _ = _
  rw [kb_tuple_str]
  rfl
theorem kb_NoneType_list : kitB "NoneType" "list" = some false := by decide +kernel
@[simp] theorem isi_NoneType_list : isiD "list" .none = some (.bool false) := by
  show (kitB "NoneType" "list").map _ = _
  rw [kb_NoneType_list]
  rfl
theorem kb_bool_list : kitB "bool" "list" = some false := by decide +kernel
@[simp] theorem isi_bool_list {b : Bool} : isiD "list" (.bool b) = some (.bool false) := by
  show (kitB "bool" "list").map _ = _
  rw [kb_bool_list]
  rfl
theorem kb_int_list : kitB "int" "list" = some false := by decide +kernel
@[simp] theorem isi_int_list {i : Int} : isiD "list" (.int i) = some (.bool false) := by
  show (kitB "int" "list").map _ = _
  rw [kb_int_list]
  rfl
theorem kb_str_list : kitB "str" "list" = some false := by decide +kernel
@[simp] theorem isi_str_list {x : Str} : isiD "list" (.str x) = some (.bool false) := by
  show (kitB "str" "list").map _ = _
  rw [kb_str_list]
  rfl
theorem kb_list_list : kitB "list" "list" = some true := by decide +kernel
@[simp] theorem isi_list_list {ds : List D} : isiD "list" (.list ds) = some (.bool true) := by
  show (kitB "list" "list").map _ = _
  rw [kb_list_list]
  rfl
theorem kb_tuple_list : kitB "tuple" "list" = some false := by decide +kernel
@[simp] theorem isi_tuple_list {ds : List D} : isiD "list" (.tuple ds) = some (.bool false) := by
  show (kitB "tuple" "list").map _ = _
  rw [kb_tuple_list]
  rfl
theorem kb_NoneType_tuple : kitB "NoneType" "tuple" = some false := by decide +kernel
@[simp] theorem isi_NoneType_tuple : isiD "tuple" .none = some (.bool false) := by
  show (kitB "NoneType" "tuple").map _ = _
  rw [kb_NoneType_tuple]
  rfl
theorem kb_bool_tuple : kitB "bool" "tuple" = some false := by decide +kernel
@[simp] theorem isi_bool_tuple {b : Bool} : isiD "tuple" (.bool b) = some (.bool false) := by
  show (kitB "bool" "tuple").map _ = _
  rw [kb_bool_tuple]
  rfl
theorem kb_int_tuple : kitB "int" "tuple" = some false := by decide +kernel
@[simp] theorem isi_int_tuple {i : Int} : isiD "tuple" (.int i) = some (.bool false) := by
  show (kitB "int" "tuple").map _ = _
  rw [kb_int_tuple]
  rfl
theorem kb_str_tuple : kitB "str" "tuple" = some false := by decide +kernel
@[simp] theorem isi_str_tuple {x : Str} : isiD "tuple" (.str x) = some (.bool false) := by
  show (kitB "str" "tuple").map _ = _
  rw [kb_str_tuple]
  rfl
theorem kb_list_tuple : kitB "list" "tuple" = some false := by decide +kernel
@[simp] theorem isi_list_tuple {ds : List D} : isiD "tuple" (.list ds) = some (.bool false) := by
  show (kitB "list" "tuple").map _ = _
  rw [kb_list_tuple]
  rfl
theorem kb_tuple_tuple : kitB "tuple" "tuple" = some true := by decide +kernel
@[simp] theorem isi_tuple_tuple {ds : List D} : isiD "tuple" (.tuple ds) = some (.bool true) := by
  show (kitB "tuple" "tuple").map _ = _
  rw [kb_tuple_tuple]
  rfl

@[simp] theorem eq_bb {a b : Bool} : eqD (.bool a) (.bool b) = some (.bool (decide (a = b))) := rfl
@[simp] theorem eq_ss {a b : Str} : eqD (.str a) (.str b) = some (.bool (decide (a = b))) := rfl
@[simp] theorem eq_nn : eqD .none .none = some (.bool true) := rfl
@[simp] theorem ne_bb {a b : Bool} : neD (.bool a) (.bool b) = some (.bool (!decide (a = b))) := rfl
@[simp] theorem is_n {d : D} : isD d .none = some (.bool (isNb d)) := by
  cases d <;> rfl
@[simp] theorem isn_n {d : D} : isnD d .none = some (.bool (!isNb d)) := by
  cases d <;> rfl
/-- data that _law_same goes through in so many levels -/
def plain : Nat → D → Prop
  | 0, _ => False
  | n + 1, d => match d with
    | .list ds => ds.length ≤ 16777216 ∧ ∀ x ∈ ds, plain n x
    | .tuple ds => ds.length ≤ 16777216 ∧ ∀ x ∈ ds, plain n x
    | .dict _ => False
    | _ => True
theorem plain_list {n : Nat} {ds : List D} : plain (n + 1) (.list ds) ↔ ds.length ≤ 16777216 ∧ ∀ x ∈ ds, plain n x := Iff.rfl
theorem plain_tuple {n : Nat} {ds : List D} : plain (n + 1) (.tuple ds) ↔ ds.length ≤ 16777216 ∧ ∀ x ∈ ds, plain n x := Iff.rfl
theorem rngN {count : Nat} (h : count ≤ 16777216) : rng1 [.int (count : Int)] = some ((List.range count).map fun (i : Nat) => PyData.int (i : Int)) := by
  rw [rng1_i (by omega) (by omega), Int.toNat_natCast]
  simp [rngL]
theorem same_loop {rec : List D → Option D} {x : D} {ds : List D} (hx : ∀ (i : Nat) d, ds[i]? = some d → ixD x (.int (i : Int)) = some d) (hr : ∀ d ∈ ds, rec [d, d] = some (.bool true)) : ∀ (is : List Nat) (o : Option Sl), (∀ i ∈ is, i < ds.length) →
    ∃ o', forL (gN 2) (L1_law_same rec) (is.map fun (i : Nat) => PyData.int (i : Int)) [some (.shr x), some (.shr x), o] = some (.nx [some (.shr x), some (.shr x), o'])
  | [], o, _ => ⟨o, rfl⟩
  | i :: is, o, hi => by
    have hl := hi i List.mem_cons_self
    have hd : ds[i]? = some ds[i] := List.getElem?_eq_getElem hl
    obtain ⟨o', e⟩ := same_loop hx hr is (some (.shr (.int (i : Int)))) fun j hj => hi j (List.mem_cons_of_mem _ hj)
    refine ⟨o', ?_⟩
    rw [List.map_cons, forL_cons]
    have st : L1_law_same rec ([some (.shr x), some (.shr x), o].set 2 (some (.shr (.int (i : Int))))) = some (.nx [some (.shr x), some (.shr x), some (.shr (.int (i : Int)))]) := by
      have c1 := hx i _ hd
      have c2 := hr _ (List.getElem_mem hl)
      simp [L1_law_same, c1, c2]
    rw [st, turnS_nx, e]
theorem law_same_eq : ∀ (n : Nat) (d : D), plain n d → F_law_same n [d, d] = some (.bool true)
  | 0, _, h => h.elim
  | n + 1, d, h => by
    rw [F_law_same, callF_2, b_law_same]
    cases d with
    | none => simp [List.replicate, isNb]
    | bool b => simp [List.replicate, isNb]
    | int i => simp [List.replicate, isNb]
    | str x => simp [List.replicate, isNb]
    | dict kvs => exact h.elim
    | list ds =>
      obtain ⟨h1, h2⟩ := h
      obtain ⟨o', e⟩ := same_loop (rec := F_law_same n) (x := .list ds) (ds := ds) (fun i d => ix_l) (fun d hd => law_same_eq n d (h2 d hd)) (List.range ds.length) none (fun i hi => List.mem_range.mp hi)
      simp [List.replicate, isNb, rngN h1, e]
    | tuple ds =>
      obtain ⟨h1, h2⟩ := h
      obtain ⟨o', e⟩ := same_loop (rec := F_law_same n) (x := .tuple ds) (ds := ds) (fun i d => ix_t) (fun d hd => law_same_eq n d (h2 d hd)) (List.range ds.length) none (fun i hi => List.mem_range.mp hi)
      simp [List.replicate, isNb, rngN h1, e]
end LC

set_option Elab.async false
set_option linter.all false
noncomputable section
namespace LS
open PySem L2 DV
def L1_law_drawn_steps : FS :=
    (sSeq (thenF 10 (sOwn 10 (eLc [14] (iAny (eSl (eW 6) (pS (o2 addD (eC (.int 2)) (o2 mulD (eC (.int 7)) (eW 9)))) (pS (o2 addD (eC (.int 9)) (o2 mulD (eC (.int 7)) (eW 9)))))) (gN 14) tYs (o2 ixD (eW 7) (o2 modD (eW 14) (eCall lenF (lC (eW 7) lN)))))))
    (sSeq (sAsg (eSlS (eW 7) pN pN (pS (o2 subD (eC (.int 1)) (o2 mulD (eC (.int 2)) (o2 modD (o2 fdivD (o2 ixD (eW 6) (eC (.int 15))) (o2 addD (eC (.int 1)) (eW 9))) (eC (.int 2))))))) (gN 11))
    (sSeq (sAsg (eMeth joinF (eC (.str "")) (lC (eW 10) lN)) (gN 12))
    (sApp 8 (eTup (lC (eSl (eW 12) pN (pS (o2 modD (o2 ixD (eW 6) (eC (.int 15))) (eC (.int 3))))) (lC (o2 addD (eMeth joinF (eC (.str "")) (lC (eW 11) lN)) (eSl (eW 12) (pS (eC (.int 2))) (pS (o2 addD (eC (.int 2)) (o2 modD (o2 ixD (eW 6) (eC (.int 14))) (eC (.int 3))))))) (lC (eSl (eW 12) (pS (eC (.int 5))) (pS (o2 addD (eC (.int 5)) (o2 modD (o2 ixD (eW 6) (eC (.int 13))) (eC (.int 3)))))) lN))))))))
def L2_law_drawn_steps : FS :=
    (sSeq (sAsg (eCall LC.F_law_draws (lC (eV 0) (lC (o2 addD (eW 1) (eW 5)) (lC (eC (.int 16)) (lC (eC (.int 5040)) lN))))) (gN 6))
    (sIf (toT (o2 eqD (o2 modD (o2 ixD (eW 6) (eC (.int 0))) (eC (.int 3))) (eC (.int 0)))) (sApp 4 (eTup (lC (eC (.str "letter")) (lC (o2 modD (o2 ixD (eW 6) (eC (.int 1))) (eW 2)) lN)))) (sSeq (sAsg (eLc [13] (iCall rng1 (lC (eV 2) lN)) (gN 13) (toT (o2 eqD (o2 andD (o2 shrD (o2 addD (eC (.int 1)) (o2 modD (o2 ixD (eW 6) (eC (.int 1))) (o2 subD (o2 shlD (eC (.int 1)) (eW 2)) (eC (.int 1))))) (eW 13)) (eC (.int 1))) (eC (.int 1)))) (o2 ixD (eC (.str "abc")) (eW 13))) (gN 7))
    (sSeq (sOwn 8 (eLst lN))
    (sSeq (sFor (iCall rng1 (lC (eC (.int 2)) lN)) (gN 9) L1_law_drawn_steps)
    (sApp 4 (eTup (lC (eC (.str "set")) (lC (o2 ixD (eW 8) (eC (.int 0))) (lC (o2 ixD (eW 8) (eC (.int 1))) lN))))))))))
def b_law_drawn_steps : FS :=
    (sSeq (sOwn 4 (eLst lN))
    (sSeq (sFor (iCall rng1 (lC (eV 3) lN)) (gN 5) L2_law_drawn_steps)
    (sFrz 4 (sRet (eV 4)))))
def F_law_drawn_steps : List D → Option D := callF 15 4 b_law_drawn_steps
end LS
end

set_option Elab.async false
set_option linter.all false
set_option maxRecDepth 100000
set_option maxHeartbeats 4000000
/-! LS: drawn steps of bonds (turned from I79 J79 K79). -/
namespace LS
open PySem L2 DV M77 LC
inductive Stp
  | lt (i : Nat)
  | st (a b c a' b' c' : List Nat)
abbrev encT (a b c : List Nat) : D := .tuple [dW a, dW b, dW c]
def Stp.enc : Stp → D
  | .lt i => .tuple [.str "letter", dN i]
  | .st a b c a' b' c' => .tuple [.str "set", encT a b c, encT a' b' c']
structure GT (A a b c : List Nat) : Prop where
  ha : ∀ x ∈ a, x ∈ A
  hb : ∀ x ∈ b, x ∈ A
  hc : ∀ x ∈ c, x ∈ A
  hA : ∀ x ∈ A, x ∈ b
  la : a.length ≤ 10
  lb : b.length ≤ 10
  lc : c.length ≤ 10
def good (L : Nat) : Stp → Prop
  | .lt i => i < L
  | .st a b c a' b' c' => ∃ A, 0 < A.length ∧ ok L A ∧ GT A a b c ∧ GT A a' b' c'
theorem set_ne : eqD (.str "set") (.str "letter") = some (.bool false) := by
  show some (PyData.bool (decide _)) = _
  rw [decide_eq_false (by decide +kernel)]
theorem let_eq : eqD (.str "letter") (.str "letter") = some (.bool true) := by
  show some (PyData.bool (decide _)) = _
  rw [decide_eq_true rfl]
theorem abc_ix {i : Nat} (h : i < 3) : ixD (dW [0, 1, 2]) (dN i) = some (dW [i]) := by
  have c2 := ix_wd (l := [0, 1, 2]) (i := i) (by simp; omega) (by decide)
  rw [c2]
  have : i = 0 ∨ i = 1 ∨ i = 2 := by omega
  rcases this with z | z | z <;> subst z <;> rfl
/-! ### slices -/
theorem range_pick {α : Type} : ∀ ys : List α, (List.range ys.length).filterMap (ys[·]?) = ys
  | [] => rfl
  | y :: ys => by
    rw [List.length_cons, List.range_succ_eq_map, List.filterMap_cons_some (f := fun x => (y :: ys)[x]?) (a := 0) (b := y) rfl, List.filterMap_map]
    have e : ((fun k => (y :: ys)[k]?) ∘ Nat.succ) = fun k => ys[k]? := by
      funext k
      simp
    rw [e, range_pick ys]
theorem pick_one {α : Type} (xs : List α) : pickD xs none none (some 1) = xs := by
  unfold pickD
  have e1 : sliceBounds none none (some 1) xs.length = (0, (xs.length : Int), 1) := by simp [sliceBounds]
  rw [e1]
  have e2 : sliceRange 0 (xs.length : Int) 1 = List.range xs.length := by
    unfold sliceRange
    by_cases h : (0 : Int) < (xs.length : Int)
    · simp only [h, if_true]
      have : ((xs.length : Int) - 0 + 1 - 1) / 1 = (xs.length : Int) := by omega
      simp only [show (1 : Int) > 0 by decide, if_true, this, Int.toNat_natCast]
      have : (fun (k : Nat) => (0 + 1 * (k : Int)).toNat) = id := by
        funext k
        simp
      rw [this, List.map_id]
    · have : xs.length = 0 := by omega
      rw [this]
      rfl
  show (sliceRange 0 (xs.length : Int) 1).filterMap (xs[·]?) = xs
  rw [e2, range_pick]
theorem fm_congr {α β : Type} {f g : α → Option β} : ∀ {l : List α}, (∀ x ∈ l, f x = g x) → l.filterMap f = l.filterMap g
  | [], _ => rfl
  | x :: l, h => by
    rw [List.filterMap_cons, List.filterMap_cons, h x List.mem_cons_self, fm_congr fun y hy => h y (List.mem_cons_of_mem _ hy)]
theorem pick_rev {α : Type} (xs : List α) : pickD xs none none (some (-1)) = xs.reverse := by
  unfold pickD
  rw [PySem.W.krv_bounds]
  show (sliceRange ((xs.length : Int) - 1) (-1) (-1)).filterMap (xs[·]?) = xs.reverse
  rw [PySem.W.krv_sliceRange, List.filterMap_map]
  have e : (List.range xs.length).filterMap ((xs[·]?) ∘ fun k => xs.length - 1 - k) = (List.range xs.reverse.length).filterMap (xs.reverse[·]?) := by
    rw [List.length_reverse]
    refine fm_congr fun k hk => ?_
    have hk := List.mem_range.mp hk
    simp only [Function.comp_def]
    rw [List.getElem?_reverse hk]
  rw [e, range_pick]
theorem sl_sub {l : List Nat} (lo hi : Option Int) (h : l.length ≤ 1000) : ∃ m : List Nat, slD (dW l) lo hi = some (dW m) ∧ (∀ x ∈ m, x ∈ l) ∧ m.length ≤ l.length := by
  refine ⟨_, sl_wd lo hi (by omega), fun x hx => List.mem_of_mem_drop (List.mem_of_mem_take hx), ?_⟩
  rw [List.length_take, List.length_drop]
  omega
theorem sl_list {l : List Nat} {a b : Nat} (hb : b ≤ l.length) (hab : a ≤ b) : ∃ m : List Nat, slD (.list (l.map dN)) (some (a : Int)) (some (b : Int)) = some (.list (m.map dN)) ∧ m.length = b - a := by
  refine ⟨(l.drop a).take (b - a), ?_, by rw [List.length_take, List.length_drop]; omega⟩
  simp only [slD]
  unfold cutD
  rw [HT.sIx_nat, HT.sIx_nat, List.length_map, List.map_take, List.map_drop]
  rw [Nat.min_eq_left (by omega), Nat.min_eq_left (by omega)]
theorem bit_and : ∀ x : Nat, x < 8 → Builtin.bitAnd (x : Int) 1 = ((x % 2 : Nat) : Int) := by decide +kernel
theorem bit_some : ∀ L, L < 4 → 0 < L → ∀ r, r < 2 ^ L - 1 → ∃ i, i < L ∧ ((1 + r) / 2 ^ i) % 2 = 1 := by decide +kernel
def chosen (L m : Nat) : List Nat := (List.range L).filter fun i => decide ((m / 2 ^ i) % 2 = 1)
theorem pow2 : ∀ L < 4, 0 < L → 2 ^ L - 1 < 8 ∧ 0 < 2 ^ L - 1 := by decide
/-- the letters chosen -/
theorem chosen_eq {L p : Nat} {ρ : DV.Env} (hL : L ≤ 3) (hL0 : 0 < L) {l : List Nat} (h6 : ρ[6]? = some (some (.shr (.list (l.map dN))))) (h2 : ρ[2]? = some (some (.shr (dN L)))) (hp : l[1]? = some p) (hlen : 13 < ρ.length) (ha : ρ.length = 15) :
    lcL (gN 13) (toT (o2 eqD (o2 andD (o2 shrD (o2 addD (eC (.int 1)) (o2 modD (o2 ixD (eW 6) (eC (.int 1))) (o2 subD (o2 shlD (eC (.int 1)) (eW 2)) (eC (.int 1))))) (eW 13)) (eC (.int 1))) (eC (.int 1)))) (o2 ixD (eC (dW [0, 1, 2])) (eW 13)) ρ ((List.range L).map dN) =
      some ((chosen L (1 + p % (2 ^ L - 1))).map fun c => dW [c]) := by
  obtain ⟨q1, q2⟩ := pow2 L (by omega) hL0
  have hm := Nat.mod_lt p q2
  refine lcL_filter dN (fun i => decide (((1 + p % (2 ^ L - 1)) / 2 ^ i) % 2 = 1)) (fun c => dW [c]) (List.range L) (fun i hi => ?_) (fun i hi _ => ?_)
  · have hi := List.mem_range.mp hi
    have g6 : (ρ.set 13 (some (.shr (dN i))))[6]? = some (some (.shr (.list (l.map dN)))) := by rw [List.getElem?_set_ne (by omega), h6]
    have g2 : (ρ.set 13 (some (.shr (dN i))))[2]? = some (some (.shr (dN L))) := by rw [List.getElem?_set_ne (by omega), h2]
    have g13 : (ρ.set 13 (some (.shr (dN i))))[13]? = some (some (.shr (dN i))) := by rw [List.getElem?_set_self hlen]
    have c1 : ixD (.list (l.map dN)) (.int 1) = some (dN p) := ix_l (i := 1) (by rw [List.getElem?_map, hp]; rfl)
    have c2 : shlD (.int 1) (dN L) = some (.int ((2 ^ L : Nat) : Int)) := by
      simp only [shlD]
      rw [if_pos ⟨by omega, by omega, by decide⟩]
      simp
    have e3 : ((2 ^ L : Nat) : Int) - 1 = ((2 ^ L - 1 : Nat) : Int) := by omega
    have c4 : modD (dN p) (dN (2 ^ L - 1)) = some (dN (p % (2 ^ L - 1))) := mod_ii (by omega)
    have e5 : (1 : Int) + ((p % (2 ^ L - 1) : Nat) : Int) = ((1 + p % (2 ^ L - 1) : Nat) : Int) := by omega
    have c6 : shrD (dN (1 + p % (2 ^ L - 1))) (dN i) = some (dN ((1 + p % (2 ^ L - 1)) / 2 ^ i)) := by
      simp only [shrD]
      rw [if_pos (by omega), Int.toNat_natCast]
      congr 2
    have h8 : (1 + p % (2 ^ L - 1)) / 2 ^ i < 8 := Nat.lt_of_le_of_lt (Nat.div_le_self _ _) (by omega)
    have c7 : andD (dN ((1 + p % (2 ^ L - 1)) / 2 ^ i)) (.int 1) = some (dN ((1 + p % (2 ^ L - 1)) / 2 ^ i % 2)) := by
      show some (PyData.int (Builtin.bitAnd _ _)) = _
      rw [bit_and _ h8]
    have c8 : eqD (dN ((1 + p % (2 ^ L - 1)) / 2 ^ i % 2)) (.int 1) = some (.bool (decide ((1 + p % (2 ^ L - 1)) / 2 ^ i % 2 = 1))) := by
      rw [eq_ii]
      congr 2
      refine decide_eq_decide.mpr ?_
      omega
    have c4' : modD (dN p) (.int ((2 ^ L - 1 : Nat) : Int)) = some (dN (p % (2 ^ L - 1))) := c4
    simp only [toT_e, o2_e, eW_e, eC_e, g6, g2, g13, getW_s, ap2_s, c1, c2, sub_ii, e3, c4', add_ii, e5, c6, c7, c8, Option.bind_some, asB_b]
  · have hi := List.mem_range.mp hi
    have g13 : (ρ.set 13 (some (.shr (dN i))))[13]? = some (some (.shr (dN i))) := by rw [List.getElem?_set_self hlen]
    have c1 := abc_ix (i := i) (by omega)
    simp only [o2_e, eC_e, eW_e, g13, getW_s, ap2_s, c1]
theorem chosen_ok (L m : Nat) : ok L (chosen L m) := fun x hx => List.mem_range.mp (List.mem_filter.mp hx).1
theorem chosen_len (L m : Nat) : (chosen L m).length ≤ L := by
  have := List.length_filter_le (fun i => decide ((m / 2 ^ i) % 2 = 1)) (List.range L)
  simpa [chosen] using this
theorem chosen_ne {L p : Nat} (hL : L ≤ 3) (hL0 : 0 < L) : 0 < (chosen L (1 + p % (2 ^ L - 1))).length := by
  obtain ⟨q1, q2⟩ := pow2 L (by omega) hL0
  obtain ⟨i, hi, e⟩ := bit_some L (by omega) hL0 _ (Nat.mod_lt p q2)
  exact List.length_pos_of_mem (List.mem_filter.mpr ⟨List.mem_range.mpr hi, decide_eq_true e⟩)
theorem flat_ones (l : List Nat) : (l.map fun x => [x]).flatten = l := by
  induction l with
  | nil => rfl
  | cons a l ih => simp [ih]
theorem join_ones {l : List Nat} (h : l.length ≤ 1000) : joinF (dW []) [.list (l.map fun x => dW [x])] = some (dW l) := by
  have := join_wd (l.map fun x => [x]) (by
    rw [List.map_map]
    show (l.map fun _ => 1).sum ≤ _
    rw [List.map_const', List.sum_replicate_nat]
    omega)
  rw [flat_ones, List.map_map] at this
  exact this
/-- one side of a set -/
theorem side_step {a0 a1 a2 a3 a4 a5 a10 a11 a12 a13 a14 : Option Sl} {l cs : List Nat} {ws : List D} {sd : Nat} (hl : l.length = 16) (hc0 : 0 < cs.length) (hc : cs.length ≤ 3) (hsd : sd < 2) (hws : ws.length ≤ 100) :
    ∃ (a b c : List Nat) (b10 b11 b12 : Option Sl), GT cs a b c ∧ L1_law_drawn_steps [a0, a1, a2, a3, a4, a5, some (.shr (.list (l.map dN))), some (.shr (.list (cs.map fun c => dW [c]))), some (.own (.list ws)), some (.shr (dN sd)), a10, a11, a12, a13, a14] =
      some (.nx [a0, a1, a2, a3, a4, a5, some (.shr (.list (l.map dN))), some (.shr (.list (cs.map fun c => dW [c]))), some (.own (.list (ws ++ [encT a b c]))), some (.shr (dN sd)), b10, b11, b12, a13, a14]) := by
  obtain ⟨seg, s1, s2⟩ := sl_list (l := l) (a := 2 + 7 * sd) (b := 9 + 7 * sd) (by omega) (by omega)
  have e1 : (7 : Int) * (sd : Int) = ((7 * sd : Nat) : Int) := by omega
  have e2 : (2 : Int) + ((7 * sd : Nat) : Int) = ((2 + 7 * sd : Nat) : Int) := by omega
  have e3 : (9 : Int) + ((7 * sd : Nat) : Int) = ((9 + 7 * sd : Nat) : Int) := by omega
  have m1 : mulD (.int 7) (dN sd) = some (.int ((7 * sd : Nat) : Int)) := by rw [mul_ii (.inl ⟨by decide, by decide⟩), e1]
  have clen : lenF [.list (cs.map fun c => dW [c])] = some (dN cs.length) := by rw [len_l, List.length_map]
  -- the spare letters
  let sp : List Nat := seg.map fun p => cs.getD (p % cs.length) 0
  have hspm : ∀ x ∈ sp, x ∈ cs := fun x hx => by
    obtain ⟨p, _, rfl⟩ := List.mem_map.mp hx
    have := Nat.mod_lt p hc0
    rw [List.getD_eq_getElem?_getD, List.getElem?_eq_getElem this]
    exact List.getElem_mem _
  have hspl : sp.length = 7 := by
    show (seg.map _).length = 7
    rw [List.length_map, s2]
    omega
  have lsp : lcL (gN 14) tYs (o2 ixD (eW 7) (o2 modD (eW 14) (eCall lenF (lC (eW 7) lN)))) [a0, a1, a2, a3, a4, a5, some (.shr (.list (l.map dN))), some (.shr (.list (cs.map fun c => dW [c]))), some (.own (.list ws)), some (.shr (dN sd)), a10, a11, a12, a13, none] (seg.map dN) = some (sp.map fun x => dW [x]) := by
    have := lcL_map (i := 14) (a := o2 ixD (eW 7) (o2 modD (eW 14) (eCall lenF (lC (eW 7) lN)))) (ρ := [a0, a1, a2, a3, a4, a5, some (.shr (.list (l.map dN))), some (.shr (.list (cs.map fun c => dW [c]))), some (.own (.list ws)), some (.shr (dN sd)), a10, a11, a12, a13, none]) dN (fun p => dW [cs.getD (p % cs.length) 0]) seg fun p _ => by
      have hp := Nat.mod_lt p hc0
      have c1 : modD (dN p) (dN cs.length) = some (dN (p % cs.length)) := mod_ii (by omega)
      have c2 : ixD (.list (cs.map fun c => dW [c])) (dN (p % cs.length)) = some (dW [cs.getD (p % cs.length) 0]) := ix_l (by
        rw [List.getElem?_map, List.getD_eq_getElem?_getD, List.getElem?_eq_getElem hp]
        rfl)
      simp only [o2_e, eW_e, eCall_e, lC_e, lN_e, List.set_cons_succ, List.set_cons_zero, List.getElem?_cons_succ, List.getElem?_cons_zero, getW_s, consO_s, Option.bind_some, clen, ap2_s, c1, c2]
    rw [this]
    show _ = some ((seg.map _).map _)
    rw [List.map_map]
    rfl
  -- numbers drawn
  have ixn : ∀ i : Nat, i < 16 → ixD (.list (l.map dN)) (dN i) = some (dN (l.getD i 0)) := fun i hi => ix_l (by
    rw [List.getElem?_map, List.getD_eq_getElem?_getD, List.getElem?_eq_getElem (by omega)]
    rfl)
  have i15 : ixD (.list (l.map dN)) (.int 15) = some (dN (l.getD 15 0)) := ixn 15 (by decide)
  have i14 : ixD (.list (l.map dN)) (.int 14) = some (dN (l.getD 14 0)) := ixn 14 (by decide)
  have i13 : ixD (.list (l.map dN)) (.int 13) = some (dN (l.getD 13 0)) := ixn 13 (by decide)
  have e4 : (1 : Int) + (sd : Int) = ((1 + sd : Nat) : Int) := by omega
  have d1 : fdivD (dN (l.getD 15 0)) (.int ((1 + sd : Nat) : Int)) = some (dN (l.getD 15 0 / (1 + sd))) := fdiv_ii (by omega) (by omega)
  have d2 : modD (dN (l.getD 15 0 / (1 + sd))) (.int 2) = some (dN (l.getD 15 0 / (1 + sd) % 2)) := mod_ii (by decide)
  have d3 : mulD (.int 2) (dN (l.getD 15 0 / (1 + sd) % 2)) = some (.int (2 * ((l.getD 15 0 / (1 + sd) % 2 : Nat) : Int))) := mul_ii (.inl ⟨by decide, by decide⟩)
  obtain ⟨t, ht, hm, htl⟩ : ∃ t : List Nat, slsD (.list (cs.map fun c => dW [c])) none none (some (1 - 2 * ((l.getD 15 0 / (1 + sd) % 2 : Nat) : Int))) = some (.list (t.map fun c => dW [c])) ∧ (∀ x, x ∈ t ↔ x ∈ cs) ∧ t.length = cs.length := by
    have h2 := Nat.mod_lt (l.getD 15 0 / (1 + sd)) (show 0 < 2 by decide)
    rcases (show l.getD 15 0 / (1 + sd) % 2 = 0 ∨ l.getD 15 0 / (1 + sd) % 2 = 1 by omega) with z | z
    · refine ⟨cs, ?_, fun x => Iff.rfl, rfl⟩
      rw [z]
      simp only [slsD]
      rw [if_neg (by decide)]
      show some (PyData.list (pickD _ none none (some 1))) = _
      rw [pick_one]
    · refine ⟨cs.reverse, ?_, fun x => List.mem_reverse, List.length_reverse⟩
      rw [z]
      simp only [slsD]
      rw [if_neg (by decide)]
      show some (PyData.list (pickD _ none none (some (-1)))) = _
      rw [pick_rev, List.map_reverse]
  have j1 := join_ones (l := sp) (by omega)
  have j2 := join_ones (l := t) (by omega)
  have n1 : modD (dN (l.getD 15 0)) (.int 3) = some (dN (l.getD 15 0 % 3)) := mod_ii (by decide)
  have n2 : modD (dN (l.getD 14 0)) (.int 3) = some (dN (l.getD 14 0 % 3)) := mod_ii (by decide)
  have n3 : modD (dN (l.getD 13 0)) (.int 3) = some (dN (l.getD 13 0 % 3)) := mod_ii (by decide)
  obtain ⟨a, ea, ha, hal⟩ := sl_sub (l := sp) none (some ((l.getD 15 0 % 3 : Nat) : Int)) (by omega)
  obtain ⟨b, eb, hb, hbl⟩ := sl_sub (l := sp) (some 2) (some (2 + ((l.getD 14 0 % 3 : Nat) : Int))) (by omega)
  obtain ⟨c, ec, hcm, hcl⟩ := sl_sub (l := sp) (some 5) (some (5 + ((l.getD 13 0 % 3 : Nat) : Int))) (by omega)
  have ad := add_wd (l := t) (m := b) (by omega)
  refine ⟨a, t ++ b, c, some (.shr (.list (sp.map fun x => dW [x]))), some (.shr (.list (t.map fun c => dW [c]))), some (.shr (dW sp)), ⟨fun x hx => hspm x (ha x hx), fun x hx => ?_, fun x hx => hspm x (hcm x hx), fun x hx => List.mem_append_left _ ((hm x).mpr hx), by omega, by simp; omega, by omega⟩, ?_⟩
  · rcases List.mem_append.mp hx with z | z
    · exact (hm x).mp z
    · exact hspm x (hb x z)
  have ap := appS_s (i := 8) (d := encT a (t ++ b) c) (ρ := [a0, a1, a2, a3, a4, a5, some (.shr (.list (l.map dN))), some (.shr (.list (cs.map fun c => dW [c]))), some (.own (.list ws)), some (.shr (dN sd)), some (.shr (.list (sp.map fun x => dW [x]))), some (.shr (.list (t.map fun c => dW [c]))), some (.shr (dW sp)), a13, a14]) (ds := ws) (by omega)
  have lc0 : lcO (some (seg.map dN)) (gN 14) tYs (o2 ixD (eW 7) (o2 modD (eW 14) (eCall lenF (lC (eW 7) lN)))) [a0, a1, a2, a3, a4, a5, some (.shr (.list (l.map dN))), some (.shr (.list (cs.map fun c => dW [c]))), some (.own (.list ws)), some (.shr (dN sd)), a10, a11, a12, a13, none] = some (.list (sp.map fun x => dW [x])) := by
    rw [lcO_s (by simp; omega), lsp]
    rfl
  rw [L1_law_drawn_steps]
  simp only [sSeq_e, thenF_e, sOwn_e, eLc_e, iAny_e, eSl_e, eW_e, pS_e, pN_e, o2_e, eC_e, List.getElem?_cons_succ, List.getElem?_cons_zero, getW_s, getW_o, ap2_s, m1, add_ii, e2, e3, Option.bind_some, asI_i, Option.map_some, ap3_s, s1, itemsD, wipeE_cons, wipeE_nil, List.set_cons_succ, List.set_cons_zero, lc0, ownO_s, thenFO_nx, frzE_e, frzS_o, thenS_nx, sAsg_e, eSlS, e4, i15, d1, d2, d3, sub_ii, ht, asgO_s, gN_e, nxO_s, eMeth_e, lC_e, lN_e, consO_s, apM_s, nil_wd, j1, j2, sApp_e, eTup_e, n1, n2, n3, i14, i13, ea, eb, ec, ad, tupO_3, appO_s, ap]
theorem drawn_step (ns : List Int) {k L j : Nat} {a3 a5 a6 a7 a8 a9 a10 a11 a12 a13 a14 : Option Sl} {ds : List D} (hL : L ≤ 3) (hL0 : 0 < L) (hds : ds.length ≤ 100) :
    ∃ (s : Stp) (b6 b7 b8 b9 b10 b11 b12 b13 b14 : Option Sl), good L s ∧ L2_law_drawn_steps [some (.shr (scrD ns)), some (.shr (dN k)), some (.shr (dN L)), a3, some (.own (.list ds)), some (.shr (dN j)), a6, a7, a8, a9, a10, a11, a12, a13, a14] =
      some (.nx [some (.shr (scrD ns)), some (.shr (dN k)), some (.shr (dN L)), a3, some (.own (.list (ds ++ [s.enc]))), some (.shr (dN j)), b6, b7, b8, b9, b10, b11, b12, b13, b14]) := by
  obtain ⟨l, d1, d2, _⟩ := draws_eq ns (k + j) 16 5040 (by decide) (by decide) (by decide)
  rw [show dN 16 = PyData.int 16 from rfl, show dN 5040 = PyData.int 5040 from rfl] at d1
  have e1 : (k : Int) + (j : Int) = ((k + j : Nat) : Int) := by omega
  have i0 : ixD (.list (l.map dN)) (.int 0) = some (dN (l.getD 0 0)) := ix_l (i := 0) (by
    rw [List.getElem?_map, List.getD_eq_getElem?_getD, List.getElem?_eq_getElem (by omega)]
    rfl)
  have i1 : ixD (.list (l.map dN)) (.int 1) = some (dN (l.getD 1 0)) := ix_l (i := 1) (by
    rw [List.getElem?_map, List.getD_eq_getElem?_getD, List.getElem?_eq_getElem (by omega)]
    rfl)
  have hp : l[1]? = some (l.getD 1 0) := by
    rw [List.getD_eq_getElem?_getD, List.getElem?_eq_getElem (by omega)]
    rfl
  have m0 : modD (dN (l.getD 0 0)) (.int 3) = some (dN (l.getD 0 0 % 3)) := mod_ii (by decide)
  have q0 : eqD (dN (l.getD 0 0 % 3)) (.int 0) = some (.bool (decide (l.getD 0 0 % 3 = 0))) := by
    rw [eq_ii]
    congr 2
    refine decide_eq_decide.mpr ?_
    omega
  by_cases h : l.getD 0 0 % 3 = 0
  · have hd : decide (l.getD 0 0 % 3 = 0) = true := decide_eq_true h
    have m1 : modD (dN (l.getD 1 0)) (dN L) = some (dN (l.getD 1 0 % L)) := mod_ii (by omega)
    have ap := appS_s (i := 4) (d := (Stp.lt (l.getD 1 0 % L)).enc) (ρ := [some (.shr (scrD ns)), some (.shr (dN k)), some (.shr (dN L)), a3, some (.own (.list ds)), some (.shr (dN j)), some (.shr (.list (l.map dN))), a7, a8, a9, a10, a11, a12, a13, a14]) (ds := ds) (by omega)
    refine ⟨.lt (l.getD 1 0 % L), some (.shr (.list (l.map dN))), a7, a8, a9, a10, a11, a12, a13, a14, Nat.mod_lt _ hL0, ?_⟩
    rw [L2_law_drawn_steps]
    simp only [sSeq_e, sAsg_e, eCall_e, lC_e, lN_e, eV_e, eW_e, eC_e, o2_e, List.getElem?_cons_succ, List.getElem?_cons_zero, getV_s, getW_s, ap2_s, add_ii, e1, consO_s, Option.bind_some, d1, asgO_s, gN_e, nxO_s, thenS_nx, List.set_cons_succ, List.set_cons_zero, sIf_e, toT_e, i0, i1, m0, m1, q0, asB_b, hd, iteS_t, sApp_e, eTup_e, tupO_2, appO_s]
    exact ap
  · have hd : decide (l.getD 0 0 % 3 = 0) = false := decide_eq_false h
    let cs := chosen L (1 + l.getD 1 0 % (2 ^ L - 1))
    have c0 : 0 < cs.length := chosen_ne hL hL0
    have cl : cs.length ≤ 3 := Nat.le_trans (chosen_len _ _) hL
    have cok : ok L cs := chosen_ok _ _
    have ce := chosen_eq (L := L) (p := l.getD 1 0) (ρ := [some (.shr (scrD ns)), some (.shr (dN k)), some (.shr (dN L)), a3, some (.own (.list ds)), some (.shr (dN j)), some (.shr (.list (l.map dN))), a7, a8, a9, a10, a11, a12, none, a14]) hL hL0 rfl rfl hp (by simp) rfl
    have r1 := rng1_n (show L ≤ 16777216 by omega)
    have r2 : rng1 [.int 2] = some [dN 0, dN 1] := by
      have := rng1_n (count := 2) (by decide)
      exact this
    obtain ⟨a, b, c, b10, b11, b12, g1, s1⟩ := side_step (a0 := some (.shr (scrD ns))) (a1 := some (.shr (dN k))) (a2 := some (.shr (dN L))) (a3 := a3) (a4 := some (.own (.list ds))) (a5 := some (.shr (dN j))) (a10 := a10) (a11 := a11) (a12 := a12) (a13 := a13) (a14 := a14) (l := l) (cs := cs) (ws := []) (sd := 0) d2 c0 cl (by decide) (by simp)
    obtain ⟨a', b', c', b10', b11', b12', g2, s2⟩ := side_step (a0 := some (.shr (scrD ns))) (a1 := some (.shr (dN k))) (a2 := some (.shr (dN L))) (a3 := a3) (a4 := some (.own (.list ds))) (a5 := some (.shr (dN j))) (a10 := b10) (a11 := b11) (a12 := b12) (a13 := a13) (a14 := a14) (l := l) (cs := cs) (ws := [encT a b c]) (sd := 1) d2 c0 cl (by decide) (by simp)
    have fl : forL (gN 9) L1_law_drawn_steps [dN 0, dN 1] [some (.shr (scrD ns)), some (.shr (dN k)), some (.shr (dN L)), a3, some (.own (.list ds)), some (.shr (dN j)), some (.shr (.list (l.map dN))), some (.shr (.list (cs.map fun c => dW [c]))), some (.own (.list [])), a9, a10, a11, a12, a13, a14] =
        some (.nx [some (.shr (scrD ns)), some (.shr (dN k)), some (.shr (dN L)), a3, some (.own (.list ds)), some (.shr (dN j)), some (.shr (.list (l.map dN))), some (.shr (.list (cs.map fun c => dW [c]))), some (.own (.list [encT a b c, encT a' b' c'])), some (.shr (dN 1)), b10', b11', b12', a13, a14]) := by
      rw [forL_cons]
      show turnS (L1_law_drawn_steps [some (.shr (scrD ns)), some (.shr (dN k)), some (.shr (dN L)), a3, some (.own (.list ds)), some (.shr (dN j)), some (.shr (.list (l.map dN))), some (.shr (.list (cs.map fun c => dW [c]))), some (.own (.list [])), some (.shr (dN 0)), a10, a11, a12, a13, a14]) _ = _
      rw [s1, turnS_nx, forL_cons]
      show turnS (L1_law_drawn_steps [some (.shr (scrD ns)), some (.shr (dN k)), some (.shr (dN L)), a3, some (.own (.list ds)), some (.shr (dN j)), some (.shr (.list (l.map dN))), some (.shr (.list (cs.map fun c => dW [c]))), some (.own (.list [encT a b c])), some (.shr (dN 1)), b10, b11, b12, a13, a14]) _ = _
      rw [s2, turnS_nx]
      rfl
    have x0 : ixD (.list [encT a b c, encT a' b' c']) (.int 0) = some (encT a b c) := ix_l (i := 0) rfl
    have x1 : ixD (.list [encT a b c, encT a' b' c']) (.int 1) = some (encT a' b' c') := ix_l (i := 1) rfl
    have lc0 : lcO (some ((List.range L).map dN)) (gN 13) (toT (o2 eqD (o2 andD (o2 shrD (o2 addD (eC (.int 1)) (o2 modD (o2 ixD (eW 6) (eC (.int 1))) (o2 subD (o2 shlD (eC (.int 1)) (eW 2)) (eC (.int 1))))) (eW 13)) (eC (.int 1))) (eC (.int 1)))) (o2 ixD (eC (dW [0, 1, 2])) (eW 13))
        [some (.shr (scrD ns)), some (.shr (dN k)), some (.shr (dN L)), a3, some (.own (.list ds)), some (.shr (dN j)), some (.shr (.list (l.map dN))), a7, a8, a9, a10, a11, a12, none, a14] = some (.list (cs.map fun c => dW [c])) := by
      rw [lcO_s (by simp; omega), ce]
      rfl
    have ap := appS_s (i := 4) (d := (Stp.st a b c a' b' c').enc) (ρ := [some (.shr (scrD ns)), some (.shr (dN k)), some (.shr (dN L)), a3, some (.own (.list ds)), some (.shr (dN j)), some (.shr (.list (l.map dN))), some (.shr (.list (cs.map fun c => dW [c]))), some (.own (.list [encT a b c, encT a' b' c'])), some (.shr (dN 1)), b10', b11', b12', a13, a14]) (ds := ds) (by omega)
    refine ⟨.st a b c a' b' c', some (.shr (.list (l.map dN))), some (.shr (.list (cs.map fun c => dW [c]))), some (.own (.list [encT a b c, encT a' b' c'])), some (.shr (dN 1)), b10', b11', b12', a13, a14, ⟨cs, c0, cok, g1, g2⟩, ?_⟩
    rw [L2_law_drawn_steps]
    simp only [sSeq_e, sAsg_e, eCall_e, lC_e, lN_e, eV_e, eW_e, eC_e, o2_e, List.getElem?_cons_succ, List.getElem?_cons_zero, getV_s, getW_s, ap2_s, add_ii, e1, consO_s, Option.bind_some, d1, asgO_s, gN_e, nxO_s, thenS_nx, List.set_cons_succ, List.set_cons_zero, sIf_e, toT_e, i0, m0, q0, asB_b, hd, iteS_f]
    simp only [sSeq_e, sAsg_e, eLc_e, iCall_e, lC_e, lN_e, eV_e, List.getElem?_cons_succ, List.getElem?_cons_zero, getV_s, consO_s, Option.bind_some, r1, wipeE_cons, wipeE_nil, List.set_cons_succ, List.set_cons_zero, abc_wd, lc0, asgO_s, gN_e, nxO_s, thenS_nx, sOwn_e, eLst_e, lstO_0, ownO_s, sFor_e, eC_e, r2, forO_s, fl, sApp_e, eTup_e, o2_e, eW_e, getW_o, ap2_s, x0, x1, tupO_3, appO_s]
    exact ap
theorem drawn_loop (ns : List Int) {k L : Nat} {a3 : Option Sl} (hL : L ≤ 3) (hL0 : 0 < L) : ∀ (js : List Nat) (ss : List Stp) (a5 a6 a7 a8 a9 a10 a11 a12 a13 a14 : Option Sl), (∀ s ∈ ss, good L s) → ss.length + js.length ≤ 10 →
    ∃ (ss' : List Stp) (b5 b6 b7 b8 b9 b10 b11 b12 b13 b14 : Option Sl), forL (gN 5) L2_law_drawn_steps (js.map dN) [some (.shr (scrD ns)), some (.shr (dN k)), some (.shr (dN L)), a3, some (.own (.list (ss.map Stp.enc))), a5, a6, a7, a8, a9, a10, a11, a12, a13, a14] =
      some (.nx [some (.shr (scrD ns)), some (.shr (dN k)), some (.shr (dN L)), a3, some (.own (.list (ss'.map Stp.enc))), b5, b6, b7, b8, b9, b10, b11, b12, b13, b14]) ∧ (∀ s ∈ ss', good L s) ∧ ss'.length = ss.length + js.length
  | [], ss, a5, a6, a7, a8, a9, a10, a11, a12, a13, a14, hg, _ => ⟨ss, a5, a6, a7, a8, a9, a10, a11, a12, a13, a14, rfl, hg, rfl⟩
  | j :: js, ss, a5, a6, a7, a8, a9, a10, a11, a12, a13, a14, hg, hl => by
    simp at hl
    obtain ⟨s, b6, b7, b8, b9, b10, b11, b12, b13, b14, g, st⟩ := drawn_step ns (k := k) (j := j) (a3 := a3) (a5 := a5) (a6 := a6) (a7 := a7) (a8 := a8) (a9 := a9) (a10 := a10) (a11 := a11) (a12 := a12) (a13 := a13) (a14 := a14) (ds := ss.map Stp.enc) hL hL0 (by simp; omega)
    obtain ⟨ss', c5, c6, c7, c8, c9, c10, c11, c12, c13, c14, e, hg', hl'⟩ := drawn_loop ns (a3 := a3) hL hL0 js (ss ++ [s]) (some (.shr (dN j))) b6 b7 b8 b9 b10 b11 b12 b13 b14 (fun x hx => by
      rcases List.mem_append.mp hx with z | z
      · exact hg x z
      · rw [List.mem_singleton.mp z]; exact g) (by simp; omega)
    refine ⟨ss', c5, c6, c7, c8, c9, c10, c11, c12, c13, c14, ?_, hg', by rw [hl']; simp; omega⟩
    rw [List.map_cons, forL_cons]
    show turnS (L2_law_drawn_steps [some (.shr (scrD ns)), some (.shr (dN k)), some (.shr (dN L)), a3, some (.own (.list (ss.map Stp.enc))), some (.shr (dN j)), a6, a7, a8, a9, a10, a11, a12, a13, a14]) _ = _
    rw [st, turnS_nx]
    rw [List.map_append] at e
    exact e
theorem drawn_steps_eq (ns : List Int) {k L cnt : Nat} (hL : L ≤ 3) (hL0 : 0 < L) (hc : cnt ≤ 10) : ∃ ss : List Stp, F_law_drawn_steps [scrD ns, dN k, dN L, dN cnt] = some (.list (ss.map Stp.enc)) ∧ (∀ s ∈ ss, good L s) ∧ ss.length = cnt := by
  obtain ⟨ss, b5, b6, b7, b8, b9, b10, b11, b12, b13, b14, e, hg, hl⟩ := drawn_loop ns (k := k) (a3 := some (.shr (dN cnt))) hL hL0 (List.range cnt) [] none none none none none none none none none none (fun s hs => by cases hs) (by simpa using hc)
  refine ⟨ss, ?_, hg, by simpa using hl⟩
  have r1 := rng1_n (show cnt ≤ 16777216 by omega)
  rw [List.map_nil] at e
  rw [F_law_drawn_steps, callF_4, b_law_drawn_steps]
  simp only [bind0_e, List.map_cons, List.map_nil, List.length_cons, List.length_nil, List.replicate, List.cons_append, List.nil_append]
  simp only [sSeq_e, sOwn_e, eLst_e, lN_e, Option.bind_some, lstO_0, ownO_s, thenS_nx, List.set_cons_succ, List.set_cons_zero, sFor_e, iCall_e, lC_e, eV_e, List.getElem?_cons_succ, List.getElem?_cons_zero, getV_s, consO_s, r1, forO_s, e, sFrz_e, frzE_e, frzS_o, sRet_e, rtO_s, endF_rt]
theorem plain_T (a b c : List Nat) (n : Nat) : plain (n + 2) (encT a b c) := plain_tuple.mpr ⟨by simp, fun x hx => by
  simp at hx
  rcases hx with rfl | rfl | rfl <;> exact trivial⟩
theorem plain_S (s : Stp) : plain 3 s.enc := by
  cases s with
  | lt i => exact plain_tuple.mpr ⟨by simp, fun x hx => by
      simp at hx
      rcases hx with rfl | rfl <;> exact trivial⟩
  | st a b c a' b' c' => exact plain_tuple.mpr ⟨by simp, fun x hx => by
      simp at hx
      rcases hx with rfl | rfl | rfl
      · exact trivial
      · exact plain_T a b c 0
      · exact plain_T a' b' c' 0⟩
end LS

set_option Elab.async false
set_option linter.all false
/-! MM: machines in plain Lean. -/
namespace MM
structure Mc where
  L : Nat
  rows : List (List Nat)
  fin : List Nat
def Mc.n (m : Mc) : Nat := m.rows.length
def Mc.to (m : Mc) (q i : Nat) : Nat := (m.rows.getD q []).getD i 0
structure Mc.Ok (m : Mc) : Prop where
  L1 : 0 < m.L
  L3 : m.L ≤ 3
  pos : 0 < m.n
  big : m.n ≤ 1000
  row : ∀ r ∈ m.rows, r.length = m.L
  st : ∀ r ∈ m.rows, ∀ q ∈ r, q < m.n
def okw (L : Nat) (w : List Nat) : Prop := ∀ c ∈ w, c < L
def Mc.run (m : Mc) (q : Nat) (w : List Nat) : Nat := w.foldl m.to q
def Mc.acc (m : Mc) (w : List Nat) : Bool := decide (m.run 0 w ∈ m.fin)
section
variable {m : Mc}
theorem Mc.Ok.row_at (h : m.Ok) {q : Nat} (hq : q < m.n) : m.rows[q]? = some (m.rows.getD q []) ∧ (m.rows.getD q []).length = m.L := by
  have e : m.rows[q]? = some m.rows[q] := List.getElem?_eq_getElem hq
  have g : m.rows.getD q [] = m.rows[q] := by rw [List.getD_eq_getElem?_getD, e]; rfl
  rw [g]
  exact ⟨e, h.row _ (List.getElem_mem hq)⟩
theorem Mc.Ok.to_at (h : m.Ok) {q i : Nat} (hq : q < m.n) (hi : i < m.L) : (m.rows.getD q [])[i]? = some (m.to q i) := by
  obtain ⟨_, h2⟩ := h.row_at hq
  unfold Mc.to
  rw [List.getD_eq_getElem?_getD (l := m.rows.getD q []), List.getElem?_eq_getElem (by rw [h2]; exact hi)]
  rfl
theorem Mc.Ok.to_lt (h : m.Ok) {q i : Nat} (hq : q < m.n) (hi : i < m.L) : m.to q i < m.n := by
  obtain ⟨h1, h2⟩ := h.row_at hq
  have h3 := h.to_at hq hi
  exact h.st _ (List.mem_of_getElem? h1) _ (List.mem_of_getElem? h3)
theorem run_nil (q : Nat) : m.run q [] = q := rfl
theorem run_cons (q c : Nat) (w : List Nat) : m.run q (c :: w) = m.run (m.to q c) w := rfl
theorem run_app (q : Nat) (u v : List Nat) : m.run q (u ++ v) = m.run (m.run q u) v := List.foldl_append ..
theorem run_snoc (q : Nat) (u : List Nat) (c : Nat) : m.run q (u ++ [c]) = m.to (m.run q u) c := by rw [run_app]; rfl
theorem Mc.Ok.run_lt (h : m.Ok) : ∀ (w : List Nat) {q : Nat}, q < m.n → okw m.L w → m.run q w < m.n
  | [], q, hq, _ => hq
  | c :: w, q, hq, hw => h.run_lt w (h.to_lt hq (hw c List.mem_cons_self)) fun x hx => hw x (List.mem_cons_of_mem _ hx)
theorem okw.app {L : Nat} {u v : List Nat} (h1 : okw L u) (h2 : okw L v) : okw L (u ++ v) := fun c hc => (List.mem_append.mp hc).elim (h1 c) (h2 c)
theorem okw.one {L c : Nat} (h : c < L) : okw L [c] := fun x hx => by rw [List.mem_singleton.mp hx]; exact h
theorem okw.nil {L : Nat} : okw L [] := fun x hx => by cases hx
/-! ### deeds -/
def Mc.deed (m : Mc) (w : List Nat) : List Nat := (List.range m.n).map fun q => m.run q w
theorem deed_len (w : List Nat) : (m.deed w).length = m.n := by simp [Mc.deed]
theorem deed_at {w : List Nat} {q : Nat} (hq : q < m.n) : (m.deed w)[q]? = some (m.run q w) := by simp [Mc.deed, hq]
theorem deed_get {w : List Nat} {q : Nat} (hq : q < m.n) : (m.deed w).getD q 0 = m.run q w := by rw [List.getD_eq_getElem?_getD, deed_at hq]; rfl
/-- the first deed, then the second one -/
def comp (p d : List Nat) : List Nat := p.map fun q => d.getD q 0
def pw (d : List Nat) : Nat → List Nat
  | 0 => List.range d.length
  | c + 1 => comp (pw d c) d
theorem comp_len (p d : List Nat) : (comp p d).length = p.length := by simp [comp]
theorem pw_len (d : List Nat) : ∀ c, (pw d c).length = d.length
  | 0 => by simp [pw]
  | c + 1 => by rw [pw, comp_len, pw_len d c]
theorem comp_lt {p d : List Nat} {n : Nat} (hp : ∀ x ∈ p, x < d.length) (hd : ∀ x ∈ d, x < n) : ∀ x ∈ comp p d, x < n := fun x hx => by
  obtain ⟨q, hq, rfl⟩ := List.mem_map.mp hx
  have h := hp q hq
  rw [List.getD_eq_getElem?_getD, List.getElem?_eq_getElem h]
  exact hd _ (List.getElem_mem h)
theorem pw_lt {d : List Nat} (hd : ∀ x ∈ d, x < d.length) : ∀ c, ∀ x ∈ pw d c, x < d.length
  | 0, x, hx => List.mem_range.mp hx
  | c + 1, x, hx => comp_lt (pw_lt hd c) hd x hx
theorem pw_one (d : List Nat) : pw d 1 = d := by
  show (List.range d.length).map (fun q => d.getD q 0) = d
  apply List.ext_getElem?
  intro i
  by_cases h : i < d.length
  · rw [List.getElem?_map, List.getElem?_range h]
    simp [List.getD_eq_getElem?_getD, List.getElem?_eq_getElem h]
  · rw [List.getElem?_eq_none (by simpa using h), List.getElem?_eq_none (by simpa using h)]
def lists (n : Nat) : Nat → List (List Nat)
  | 0 => [[]]
  | k + 1 => (lists n k).flatMap fun l => (List.range n).map fun x => x :: l
theorem mem_lists {n : Nat} : ∀ {l : List Nat}, (∀ x ∈ l, x < n) → l ∈ lists n l.length
  | [], _ => by simp [lists]
  | x :: l, h => by
    rw [List.length_cons, lists]
    exact List.mem_flatMap.mpr ⟨l, mem_lists fun y hy => h y (List.mem_cons_of_mem _ hy), List.mem_map.mpr ⟨x, List.mem_range.mpr (h x List.mem_cons_self), rfl⟩⟩
theorem per_all : ∀ n < 5, ∀ d ∈ lists n n, pw d 16 = pw d 4 := by decide +kernel
theorem per {d : List Nat} (h4 : d.length ≤ 4) (hd : ∀ x ∈ d, x < d.length) : pw d 16 = pw d 4 := per_all d.length (by omega) d (mem_lists hd)
theorem Mc.Ok.deed_lt (h : m.Ok) {w : List Nat} (hw : okw m.L w) : ∀ x ∈ m.deed w, x < (m.deed w).length := fun x hx => by
  obtain ⟨q, hq, rfl⟩ := List.mem_map.mp hx
  rw [deed_len]
  exact h.run_lt w (List.mem_range.mp hq) hw
end
end MM

set_option Elab.async false
set_option linter.all false
noncomputable section
namespace LM
open PySem L2 DV
def L1_is_word : FS :=
    (sIf (toT (o2 ninD (eW 2) (eSl (eC (.str "abc")) pN (pS (eV 0))))) (sRet (eC (.bool false))) sNx)
def b_is_word : FS :=
    (sSeq (sFor (iAny (eV 1)) (gN 2) L1_is_word)
    (sRet (eC (.bool true))))
def F_is_word : List D → Option D := callF 3 2 b_is_word
def b_letter_index : FS :=
    (sRet (eMeth indexF (eC (.str "abc")) (lC (eW 0) lN)))
def F_letter_index : List D → Option D := callF 1 1 b_letter_index
def L1_state_behind : FS :=
    (sAsg (o2 ixD (o2 ixD (o2 ixD (eW 0) (eC (.int 1))) (eW 1)) (eCall F_letter_index (lC (eV 3) lN))) (gN 1))
def b_state_behind : FS :=
    (sSeq (sFor (iAny (eV 2)) (gN 3) L1_state_behind)
    (sRet (eV 1)))
def F_state_behind : List D → Option D := callF 4 3 b_state_behind
def b_is_final : FS :=
    (sRet (o2 inD (eW 1) (o2 ixD (eW 0) (eC (.int 2)))))
def F_is_final : List D → Option D := callF 2 2 b_is_final
def b_deed_on : FS :=
    (sRet (eCall tupF (lC (eLc [2] (iCall rng1 (lC (eCall lenF (lC (o2 ixD (eW 0) (eC (.int 1))) lN)) lN)) (gN 2) tYs (eCall F_state_behind (lC (eV 0) (lC (eV 2) (lC (eV 1) lN))))) lN)))
def F_deed_on : List D → Option D := callF 3 2 b_deed_on
def b_product : FS :=
    (sRet (eCall tupF (lC (eLc [2] (iAny (eV 0)) (gN 2) tYs (o2 ixD (eW 1) (eW 2))) lN)))
def F_product : List D → Option D := callF 3 2 b_product
def L1_law_machine : FS :=
    (sApp 5 (eCall tupF (lC (eLc [8] (iAny (eSl (eW 4) (pS (o2 mulD (eW 6) (eW 2))) (pS (o2 addD (o2 mulD (eW 6) (eW 2)) (eW 2))))) (gN 8) tYs (o2 modD (eW 8) (eW 3))) lN)))
def b_law_machine : FS :=
    (sSeq (sAsg (eCall LC.F_law_draws (lC (eV 0) (lC (eV 1) (lC (o2 addD (o2 mulD (eW 3) (eW 2)) (eW 3)) (lC (o2 mulD (eW 3) (eC (.int 2))) lN))))) (gN 4))
    (sSeq (sOwn 5 (eLst lN))
    (sSeq (sFor (iCall rng1 (lC (eV 3) lN)) (gN 6) L1_law_machine)
    (sSeq (thenF 7 (sOwn 7 (eLc [6] (iCall rng1 (lC (eV 3) lN)) (gN 6) (toT (o2 eqD (o2 modD (o2 ixD (eW 4) (o2 addD (o2 mulD (eW 3) (eW 2)) (eW 6))) (eC (.int 2))) (eC (.int 1)))) (eV 6))))
    (sRet (eTup (lC (eV 2) (lC (eCall tupF (lC (eW 5) lN)) (lC (eCall tupF (lC (eW 7) lN)) lN)))))))))
def F_law_machine : List D → Option D := callF 9 4 b_law_machine
def L1_law_state : FS :=
    (sAsg (o2 ixD (o2 ixD (o2 ixD (eW 0) (eC (.int 1))) (eW 1)) (eMeth indexF (eC (.str "abc")) (lC (eW 3) lN))) (gN 1))
def b_law_state : FS :=
    (sSeq (sFor (iAny (eV 2)) (gN 3) L1_law_state)
    (sRet (eV 1)))
def F_law_state : List D → Option D := callF 4 3 b_law_state
end LM
end

set_option Elab.async false
set_option linter.all false
set_option maxRecDepth 100000
set_option maxHeartbeats 4000000
/-! LM: what the functions of machines answer. -/
namespace LM
open PySem L2 DV LC MM
abbrev eR (r : List Nat) : D := .tuple (r.map dN)
def eT (m : Mc) : D := .tuple (m.rows.map eR)
def eM (m : Mc) : D := .tuple [dN m.L, eT m, .tuple (m.fin.map dN)]
section
variable {m : Mc} {q i : Nat}
theorem ix_M0 : ixD (eM m) (.int 0) = some (dN m.L) := ix_t0
theorem ix_M1 : ixD (eM m) (.int 1) = some (eT m) := ix_t1
theorem ix_M2 : ixD (eM m) (.int 2) = some (.tuple (m.fin.map dN)) := ix_t2
theorem ix_T (h : m.Ok) (hq : q < m.n) : ixD (eT m) (dN q) = some (eR (m.rows.getD q [])) := ix_t (by rw [List.getElem?_map, (h.row_at hq).1]; rfl)
theorem ix_R (h : m.Ok) (hq : q < m.n) (hi : i < m.L) : ixD (eR (m.rows.getD q [])) (dN i) = some (dN (m.to q i)) := ix_t (by rw [List.getElem?_map, h.to_at hq hi]; rfl)
theorem ix_nums {l : List Nat} {x : Nat} (h : l[i]? = some x) : ixD (.tuple (l.map dN)) (dN i) = some (dN x) := ix_t (by rw [List.getElem?_map, h]; rfl)
theorem ix_numsL {l : List Nat} {x : Nat} (h : l[i]? = some x) : ixD (.list (l.map dN)) (dN i) = some (dN x) := ix_l (by rw [List.getElem?_map, h]; rfl)
theorem len_T : lenF [eT m] = some (dN m.n) := by
  show some (PyData.int ((m.rows.map eR).length : Int)) = _
  rw [List.length_map]
  rfl
theorem inV_nums (x : Nat) (l : List Nat) : inV (toV (dN x)) ((l.map dN).map toV) = decide (x ∈ l) := by
  induction l with
  | nil => rfl
  | cons y l ih =>
    rw [List.map_cons, List.map_cons]
    have e : inV (toV (dN x)) (toV (dN y) :: (l.map dN).map toV) = (((y : Int) == (x : Int)) || inV (toV (dN x)) ((l.map dN).map toV)) := rfl
    rw [e, ih, Bool.eq_iff_iff]
    simp
    constructor
    · rintro (h | h)
      · exact .inl (by omega)
      · exact .inr h
    · rintro (h | h)
      · exact .inl (by omega)
      · exact .inr h
theorem in_numsT (x : Nat) (l : List Nat) : inB (dN x) (.tuple (l.map dN)) = some (decide (x ∈ l)) := by
  have hf : (l.map dN).all flatD = true := by
    rw [List.all_map, List.all_eq_true]
    exact fun _ _ => rfl
  show inT (dN x) (l.map dN) = _
  unfold inT
  rw [if_pos ⟨rfl, hf⟩, inV_nums]
theorem in_numsL (x : Nat) (l : List Nat) : inB (dN x) (.list (l.map dN)) = some (decide (x ∈ l)) := by
  have hf : (l.map dN).all flatD = true := by
    rw [List.all_map, List.all_eq_true]
    exact fun _ _ => rfl
  show inL (dN x) (l.map dN) = _
  unfold inL
  rw [if_pos ⟨rfl, hf⟩, inV_nums]
theorem inD_T (x : Nat) (l : List Nat) : inD (dN x) (.tuple (l.map dN)) = some (.bool (decide (x ∈ l))) := by rw [inD, in_numsT]; rfl
theorem inD_L (x : Nat) (l : List Nat) : inD (dN x) (.list (l.map dN)) = some (.bool (decide (x ∈ l))) := by rw [inD, in_numsL]; rfl
theorem ninD_T (x : Nat) (l : List Nat) : ninD (dN x) (.tuple (l.map dN)) = some (.bool (!decide (x ∈ l))) := by rw [ninD, in_numsT]; rfl
theorem ninD_L (x : Nat) (l : List Nat) : ninD (dN x) (.list (l.map dN)) = some (.bool (!decide (x ∈ l))) := by rw [ninD, in_numsL]; rfl
theorem ix0 : indexF (dW [0, 1, 2]) [dW [0]] = some (dN 0) := by
  have e : Builtin.Str.occurrences (wd [0, 1, 2]) (wd [0]) 0 (wd [0, 1, 2]).length 1 = [0] := by decide +kernel
  show (match Builtin.Str.occurrences (wd [0, 1, 2]) (wd [0]) 0 (wd [0, 1, 2]).length 1 with | i :: _ => some (PyData.int (i : Nat)) | [] => none) = _
  rw [e]
theorem ix1 : indexF (dW [0, 1, 2]) [dW [1]] = some (dN 1) := by
  have e : Builtin.Str.occurrences (wd [0, 1, 2]) (wd [1]) 0 (wd [0, 1, 2]).length 1 = [1] := by decide +kernel
  show (match Builtin.Str.occurrences (wd [0, 1, 2]) (wd [1]) 0 (wd [0, 1, 2]).length 1 with | i :: _ => some (PyData.int (i : Nat)) | [] => none) = _
  rw [e]
theorem ix2 : indexF (dW [0, 1, 2]) [dW [2]] = some (dN 2) := by
  have e : Builtin.Str.occurrences (wd [0, 1, 2]) (wd [2]) 0 (wd [0, 1, 2]).length 1 = [2] := by decide +kernel
  show (match Builtin.Str.occurrences (wd [0, 1, 2]) (wd [2]) 0 (wd [0, 1, 2]).length 1 with | i :: _ => some (PyData.int (i : Nat)) | [] => none) = _
  rw [e]
theorem index_abc (h : i < 3) : indexF (dW [0, 1, 2]) [dW [i]] = some (dN i) := by
  have : ∀ j < 3, indexF (dW [0, 1, 2]) [dW [j]] = some (dN j) := by
    intro j hj
    have : j = 0 ∨ j = 1 ∨ j = 2 := by omega
    rcases this with rfl | rfl | rfl
    · exact ix0
    · exact ix1
    · exact ix2
  exact this i h
theorem letter_index_eq (h : i < 3) : F_letter_index [dW [i]] = some (dN i) := by
  rw [F_letter_index, callF_1, b_letter_index]
  simp only [dv, dv0, abc_wd, index_abc h]
theorem state_behind_eq (h : m.Ok) {w : List Nat} (hq : q < m.n) (hw : okw m.L w) : F_state_behind [eM m, dN q, dW w] = some (dN (m.run q w)) := by
  rw [F_state_behind, callF_3, b_state_behind]
  obtain ⟨ρ, e, o, rfl⟩ := for_list (i := 3) (s := L1_state_behind) (fun c => dW [c]) w (fun p ρ => ∃ o, ρ = [some (.shr (eM m)), some (.shr (dN (m.run q p))), some (.shr (dW w)), o]) (fun p c r ρ hs ⟨o, hr⟩ => by
    subst hr
    have hc : c < m.L := hw c (by rw [hs]; simp)
    have hp : m.run q p < m.n := h.run_lt p hq fun x hx => hw x (by rw [hs]; simp [hx])
    have h3 := h.L3
    refine ⟨[some (.shr (eM m)), some (.shr (dN (m.run q (p ++ [c])))), some (.shr (dW w)), some (.shr (dW [c]))], ?_, _, rfl⟩
    rw [run_snoc]
    simp only [L1_state_behind, dv, ix_M1, ix_T h hp, ix_R h hp hc, letter_index_eq (show c < 3 by omega)]) (ρ := [some (.shr (eM m)), some (.shr (dN q)), some (.shr (dW w)), none]) ⟨_, rfl⟩
  simp only [dv, dv0, items_wd, e]
theorem law_state_eq (h : m.Ok) {w : List Nat} (hq : q < m.n) (hw : okw m.L w) : F_law_state [eM m, dN q, dW w] = some (dN (m.run q w)) := by
  rw [F_law_state, callF_3, b_law_state]
  obtain ⟨ρ, e, o, rfl⟩ := for_list (i := 3) (s := L1_law_state) (fun c => dW [c]) w (fun p ρ => ∃ o, ρ = [some (.shr (eM m)), some (.shr (dN (m.run q p))), some (.shr (dW w)), o]) (fun p c r ρ hs ⟨o, hr⟩ => by
    subst hr
    have hc : c < m.L := hw c (by rw [hs]; simp)
    have hp : m.run q p < m.n := h.run_lt p hq fun x hx => hw x (by rw [hs]; simp [hx])
    have h3 := h.L3
    refine ⟨[some (.shr (eM m)), some (.shr (dN (m.run q (p ++ [c])))), some (.shr (dW w)), some (.shr (dW [c]))], ?_, _, rfl⟩
    rw [run_snoc]
    simp only [L1_law_state, dv, abc_wd, ix_M1, ix_T h hp, ix_R h hp hc, index_abc (show c < 3 by omega)]) (ρ := [some (.shr (eM m)), some (.shr (dN q)), some (.shr (dW w)), none]) ⟨_, rfl⟩
  simp only [dv, dv0, items_wd, e]
theorem is_final_eq : F_is_final [eM m, dN q] = some (.bool (decide (q ∈ m.fin))) := by
  rw [F_is_final, callF_2, b_is_final]
  simp only [dv, dv0, ix_M2, inD_T]
theorem deed_on_eq (h : m.Ok) {w : List Nat} (hw : okw m.L w) : F_deed_on [eM m, dW w] = some (.tuple ((m.deed w).map dN)) := by
  rw [F_deed_on, callF_2, b_deed_on]
  have hb := h.big
  have r1 := rng1_n (count := m.n) (by omega)
  have lc : lcL (gN 2) tYs (eCall F_state_behind (lC (eV 0) (lC (eV 2) (lC (eV 1) lN)))) [some (.shr (eM m)), some (.shr (dW w)), none] ((List.range m.n).map dN) = some (((List.range m.n).map fun q => m.run q w).map dN) := by
    rw [List.map_map]
    exact lcL_map dN _ _ fun q hq => by
      simp only [dv, state_behind_eq h (List.mem_range.mp hq) hw]
      rfl
  simp only [dv, dv0, ix_M1, len_T, r1]
  rw [lcO_s (by simp; omega), lc]
  rfl
theorem product_eq {p d : List Nat} (hp : ∀ x ∈ p, x < d.length) (hz : p.length ≤ 1000) : F_product [.tuple (p.map dN), .tuple (d.map dN)] = some (.tuple ((comp p d).map dN)) := by
  rw [F_product, callF_2, b_product]
  have lc : lcL (gN 2) tYs (o2 ixD (eW 1) (eW 2)) [some (.shr (.tuple (p.map dN))), some (.shr (.tuple (d.map dN))), none] (p.map dN) = some ((p.map fun q => d.getD q 0).map dN) := by
    rw [List.map_map]
    exact lcL_map dN _ _ fun q hq => by
      have hq := hp q hq
      have e : ixD (.tuple (d.map dN)) (dN q) = some (dN (d.getD q 0)) := ix_nums (by rw [List.getD_eq_getElem?_getD, List.getElem?_eq_getElem hq]; rfl)
      simp only [dv, e]
      rfl
  simp only [dv, dv0, itemsD]
  rw [lcO_s (by simp; omega), lc]
  rfl
end
end LM

set_option Elab.async false
set_option linter.all false
set_option maxRecDepth 100000
set_option maxHeartbeats 4000000
/-! LMm: drawn machines. -/
namespace LM
open PySem L2 DV LC MM
theorem law_machine_eq (ns : List Int) {k L n : Nat} (hL : L ≤ 3) (hL0 : 0 < L) (hn : n ≤ 1000) (hn0 : 0 < n) :
    ∃ m : Mc, F_law_machine [scrD ns, dN k, dN L, dN n] = some (eM m) ∧ m.Ok ∧ m.L = L ∧ m.n = n ∧ ∃ f : Nat → Bool, m.fin = (List.range n).filter f := by
  have hz : n * L ≤ 1000 * 3 := Nat.mul_le_mul hn hL
  obtain ⟨l, d1, d2, d3⟩ := draws_eq ns k (n * L + n) (n * 2) (by omega) (by omega) (by omega)
  have mu : ∀ a b : Nat, a ≤ 1000 → b ≤ 1000 → mulD (dN a) (dN b) = some (dN (a * b)) := fun a b ha hb => by
    rw [mul_ii (.inl ⟨by omega, by omega⟩)]
    congr 2
  have ad : ∀ a b : Nat, addD (dN a) (dN b) = some (dN (a + b)) := fun a b => by
    rw [add_ii]
    congr 2
  have m2 : mulD (dN n) (.int 2) = some (dN (n * 2)) := mu n 2 hn (by decide)
  have r1 := rng1_n (count := n) (by omega)
  rw [F_law_machine, callF_4, b_law_machine]
  obtain ⟨ρ, e, rows, o6, rfl, h1, h2⟩ := for_list (i := 6) (s := L1_law_machine) dN (List.range n) (fun p ρ => ∃ rows o6, ρ = [some (.shr (scrD ns)), some (.shr (dN k)), some (.shr (dN L)), some (.shr (dN n)), some (.shr (.list (l.map dN))), some (.own (.list (rows.map eR))), o6, none, none] ∧ rows.length = p.length ∧ ∀ r ∈ rows, r.length = L ∧ ∀ q ∈ r, q < n) (fun p x r ρ hs ⟨rows, o6, hr, h1, h2⟩ => by
    subst hr
    have hx : x < n := List.mem_range.mp (by rw [hs]; simp)
    have hp : p.length < n := by
      have := congrArg List.length hs
      simp at this
      omega
    have hxl : (x + 1) * L ≤ n * L := Nat.mul_le_mul_right L hx
    rw [Nat.succ_mul] at hxl
    obtain ⟨sg, s1, s2⟩ := LS.sl_list (l := l) (a := x * L) (b := x * L + L) (by omega) (by omega)
    have lc : ∀ w : List D, lcL (gN 8) tYs (o2 modD (eW 8) (eW 3)) [some (.shr (scrD ns)), some (.shr (dN k)), some (.shr (dN L)), some (.shr (dN n)), some (.shr (.list (l.map dN))), some (.own (.list w)), some (.shr (dN x)), none, none] (sg.map dN) = some ((sg.map fun y => y % n).map dN) := fun w => by
      rw [List.map_map]
      exact lcL_map dN _ _ fun y _ => by
        have := mod_ii (i := (y : Int)) (j := (n : Int)) (by omega)
        simp only [dv, this]
        rfl
    have lo : ∀ w : List D, lcO (some (sg.map dN)) (gN 8) tYs (o2 modD (eW 8) (eW 3)) [some (.shr (scrD ns)), some (.shr (dN k)), some (.shr (dN L)), some (.shr (dN n)), some (.shr (.list (l.map dN))), some (.own (.list w)), some (.shr (dN x)), none, none] = some (.list ((sg.map fun y => y % n).map dN)) := fun w => by
      rw [lcO_s (by simp; omega), lc]
      rfl
    have tp : tupF [.list ((sg.map fun y => y % n).map dN)] = some (eR (sg.map fun y => y % n)) := rfl
    have it : itemsD (.list (sg.map dN)) = some (sg.map dN) := rfl
    have ap := appS_s (i := 5) (d := eR (sg.map fun y => y % n)) (ρ := [some (.shr (scrD ns)), some (.shr (dN k)), some (.shr (dN L)), some (.shr (dN n)), some (.shr (.list (l.map dN))), some (.own (.list (rows.map eR))), some (.shr (dN x)), none, none]) (ds := rows.map eR) (by simp; omega)
    have a2 := ad (x * L) L
    refine ⟨_, ?_, rows ++ [sg.map fun y => y % n], some (.shr (dN x)), rfl, by simp [h1], fun r hr => ?_⟩
    · simp only [L1_law_machine, dv, mu x L (by omega) (by omega), a2, s1, it, lo, tp, ap]
      rw [List.map_append]
      rfl
    · rcases List.mem_append.mp hr with z | z
      · exact h2 r z
      · rw [List.mem_singleton.mp z]
        refine ⟨by simp [s2], fun q hq => ?_⟩
        obtain ⟨y, _, rfl⟩ := List.mem_map.mp hq
        exact Nat.mod_lt _ hn0) (ρ := [some (.shr (scrD ns)), some (.shr (dN k)), some (.shr (dN L)), some (.shr (dN n)), some (.shr (.list (l.map dN))), some (.own (.list [])), none, none, none]) ⟨[], none, rfl, rfl, fun r hr => by cases hr⟩
  let f : Nat → Bool := fun p => decide (l.getD (n * L + p) 0 % 2 = 1)
  have lc : ∀ (w : D), lcL (gN 6) (toT (o2 eqD (o2 modD (o2 ixD (eW 4) (o2 addD (o2 mulD (eW 3) (eW 2)) (eW 6))) (eC (.int 2))) (eC (.int 1)))) (eV 6) [some (.shr (scrD ns)), some (.shr (dN k)), some (.shr (dN L)), some (.shr (dN n)), some (.shr (.list (l.map dN))), some (.own w), none, none, none] ((List.range n).map dN) = some (((List.range n).filter f).map dN) := fun w => by
    refine lcL_filter dN f dN (List.range n) (fun p hp => ?_) (fun p hp _ => by simp only [dv])
    have hp := List.mem_range.mp hp
    have i1 : ixD (.list (l.map dN)) (dN (n * L + p)) = some (dN (l.getD (n * L + p) 0)) := ix_numsL (by
      rw [List.getD_eq_getElem?_getD, List.getElem?_eq_getElem (by omega)]
      rfl)
    have i2 := mod_ii (i := ((l.getD (n * L + p) 0 : Nat) : Int)) (j := 2) (by decide)
    have i3 : eqD (.int (((l.getD (n * L + p) 0 : Nat) : Int) % 2)) (.int 1) = some (.bool (f p)) := by
      rw [eq_ii]
      congr 2
      exact decide_eq_decide.mpr (by omega)
    have ec : ((n * L : Nat) : Int) + (p : Int) = ((n * L + p : Nat) : Int) := by omega
    simp only [dv, mu n L hn (by omega), ec, i1, i2, i3]
  have lo : ∀ w : D, lcO (some ((List.range n).map dN)) (gN 6) (toT (o2 eqD (o2 modD (o2 ixD (eW 4) (o2 addD (o2 mulD (eW 3) (eW 2)) (eW 6))) (eC (.int 2))) (eC (.int 1)))) (eV 6) [some (.shr (scrD ns)), some (.shr (dN k)), some (.shr (dN L)), some (.shr (dN n)), some (.shr (.list (l.map dN))), some (.own w), none, none, none] = some (.list (((List.range n).filter f).map dN)) := fun w => by
    rw [lcO_s (by simp; omega), lc]
    rfl
  refine ⟨⟨L, rows, (List.range n).filter f⟩, ?_, ⟨hL0, hL, ?_, ?_, fun r hr => (h2 r hr).1, fun r hr q hq => ?_⟩, rfl, ?_, f, rfl⟩
  · have e9 := ad (n * L) n
    have tp : tupF [.list (rows.map eR)] = some (.tuple (rows.map eR)) := rfl
    have tq : tupF [.list (((List.range n).filter f).map dN)] = some (.tuple (((List.range n).filter f).map dN)) := rfl
    simp only [dv, dv0, mu n L hn (by omega), e9, m2, d1, r1, e, lo, tp, tq]
    rfl
  · show 0 < rows.length
    rw [h1, List.length_range]
    exact hn0
  · show rows.length ≤ 1000
    rw [h1, List.length_range]
    exact hn
  · show q < rows.length
    rw [h1, List.length_range]
    exact (h2 r hr).2 q hq
  · show rows.length = n
    rw [h1, List.length_range]
end LM

set_option Elab.async false
set_option linter.all false
set_option maxRecDepth 100000
set_option maxHeartbeats 4000000
noncomputable section
namespace G80
open PySem PySem.Spec L2 DV
def top (i : Nat) : Stmt := PySem.Challenge.pw_viewedwords_k80_judge_of_bonds.main.body.getD i (.Pass ⟨0, 0, 0, 0⟩)
abbrev s_is_word : Stmt := top 2
abbrev N_is_word : List Str := ["letters", "word", "sign"]
abbrev s_letter_index : Stmt := top 3
abbrev N_letter_index : List Str := ["letter"]
abbrev s_state_behind : Stmt := top 5
abbrev N_state_behind : List Str := ["machine", "state", "word", "letter"]
abbrev s_is_final : Stmt := top 6
abbrev N_is_final : List Str := ["machine", "state"]
abbrev s_deed_on : Stmt := top 8
abbrev N_deed_on : List Str := ["machine", "word", "state"]
abbrev s_product : Stmt := top 9
abbrev N_product : List Str := ["first", "second", "state"]
abbrev s_mask_of_word : Stmt := top 11
abbrev N_mask_of_word : List Str := ["word", "index"]
abbrev s_is_triple : Stmt := top 13
abbrev N_is_triple : List Str := ["letters", "triple", "mask", "word"]
abbrev s_is_step : Stmt := top 14
abbrev N_is_step : List Str := ["letters", "step", "mask"]
abbrev s_loop_deeds : Stmt := top 15
abbrev N_loop_deeds : List Str := ["machine", "steps", "side", "step"]
abbrev s_one_copy_more : Stmt := top 16
abbrev N_one_copy_more : List Str := ["powers", "deeds", "number"]
abbrev s_end_state : Stmt := top 17
abbrev N_end_state : List Str := ["machine", "steps", "side", "powers", "state", "number", "step"]
abbrev s_is_accepted : Stmt := top 18
abbrev N_is_accepted : List Str := ["machine", "steps", "side", "powers"]
abbrev s_fits_always : Stmt := top 19
abbrev N_fits_always : List Str := ["first", "second", "steps", "ones", "twos", "powers", "seen"]
abbrev s_is_bond : Stmt := top 20
abbrev N_is_bond : List Str := ["first", "second", "steps", "step"]
abbrev s_law_same : Stmt := top 22
abbrev N_law_same : List Str := ["told", "due", "k"]
abbrev s_law_number : Stmt := top 23
abbrev N_law_number : List Str := ["script", "k", "number"]
abbrev s_law_draws : Stmt := top 24
abbrev N_law_draws : List Str := ["script", "k", "count", "many", "number", "found", "at", "state", "other"]
abbrev s_law_machine : Stmt := top 25
abbrev N_law_machine : List Str := ["script", "k", "letters", "n", "picks", "rows", "p", "finals", "pick"]
abbrev s_law_state : Stmt := top 26
abbrev N_law_state : List Str := ["machine", "state", "word", "letter"]
abbrev s_law_letters_of : Stmt := top 27
abbrev N_law_letters_of : List Str := ["word", "letter"]
abbrev s_law_step_ok : Stmt := top 28
abbrev N_law_step_ok : List Str := ["letters", "step", "triple", "word", "x"]
abbrev s_law_maps : Stmt := top 29
abbrev N_law_maps : List Str := ["machine", "word", "most", "maps", "count", "state"]
abbrev s_law_ends_of : Stmt := top 30
abbrev N_law_ends_of : List Str := ["machine", "steps", "side", "most", "maps", "ends", "count", "state", "spot", "step"]
abbrev s_law_is_bond : Stmt := top 31
abbrev N_law_is_bond : List Str := ["first", "second", "steps", "most", "step", "state"]
abbrev s_law_drawn_steps : Stmt := top 32
abbrev N_law_drawn_steps : List Str := ["script", "k", "letters", "count", "steps", "j", "picks", "chosen", "words", "side", "spare", "turned", "around", "index", "pick"]
abbrev s_law_bent_step : Stmt := top 33
abbrev N_law_bent_step : List Str := ["step", "letters", "picks", "one", "at", "word", "found", "other", "bent", "x"]
abbrev s_law_with_finals : Stmt := top 34
abbrev N_law_with_finals : List Str := ["machine", "states", "p"]
abbrev s_law : Stmt := top 35
abbrev N_law : List Str := ["script", "shape", "letters", "first", "second", "steps", "picks", "ones", "twos", "good", "lost", "worse", "papers", "at", "other", "paper", "given", "due", "p"]
structure Txt (K : PySem.W.Frag) (mg : Str → Option Value) : Prop where
  t_is_word : TopF K mg "is_word" s_is_word ["letters", "word"]
  t_letter_index : TopF K mg "letter_index" s_letter_index ["letter"]
  t_state_behind : TopF K mg "state_behind" s_state_behind ["machine", "state", "word"]
  t_is_final : TopF K mg "is_final" s_is_final ["machine", "state"]
  t_deed_on : TopF K mg "deed_on" s_deed_on ["machine", "word"]
  t_product : TopF K mg "product" s_product ["first", "second"]
  t_mask_of_word : TopF K mg "mask_of_word" s_mask_of_word ["word"]
  t_is_triple : TopF K mg "is_triple" s_is_triple ["letters", "triple", "mask"]
  t_is_step : TopF K mg "is_step" s_is_step ["letters", "step"]
  t_loop_deeds : TopF K mg "loop_deeds" s_loop_deeds ["machine", "steps", "side"]
  t_one_copy_more : TopF K mg "one_copy_more" s_one_copy_more ["powers", "deeds"]
  t_end_state : TopF K mg "end_state" s_end_state ["machine", "steps", "side", "powers"]
  t_is_accepted : TopF K mg "is_accepted" s_is_accepted ["machine", "steps", "side", "powers"]
  t_fits_always : TopF K mg "fits_always" s_fits_always ["first", "second", "steps"]
  t_is_bond : TopF K mg "is_bond" s_is_bond ["first", "second", "steps"]
  t_law_same : TopF K mg "_law_same" s_law_same ["told", "due"]
  t_law_number : TopF K mg "_law_number" s_law_number ["script", "k"]
  t_law_draws : TopF K mg "_law_draws" s_law_draws ["script", "k", "count", "many"]
  t_law_machine : TopF K mg "_law_machine" s_law_machine ["script", "k", "letters", "n"]
  t_law_state : TopF K mg "_law_state" s_law_state ["machine", "state", "word"]
  t_law_letters_of : TopF K mg "_law_letters_of" s_law_letters_of ["word"]
  t_law_step_ok : TopF K mg "_law_step_ok" s_law_step_ok ["letters", "step"]
  t_law_maps : TopF K mg "_law_maps" s_law_maps ["machine", "word", "most"]
  t_law_ends_of : TopF K mg "_law_ends_of" s_law_ends_of ["machine", "steps", "side", "most"]
  t_law_is_bond : TopF K mg "_law_is_bond" s_law_is_bond ["first", "second", "steps", "most"]
  t_law_drawn_steps : TopF K mg "_law_drawn_steps" s_law_drawn_steps ["script", "k", "letters", "count"]
  t_law_bent_step : TopF K mg "_law_bent_step" s_law_bent_step ["step", "letters", "picks"]
  t_law_with_finals : TopF K mg "_law_with_finals" s_law_with_finals ["machine", "states"]
  t_law : TopF K mg "law" s_law ["script"]
  n_abs : mg "abs" = none
  n_bool : mg "bool" = none
  n_int : mg "int" = none
  n_isinstance : mg "isinstance" = none
  n_len : mg "len" = none
  n_list : mg "list" = none
  n_range : mg "range" = none
  n_sorted : mg "sorted" = none
  n_str : mg "str" = none
  n_sum : mg "sum" = none
  n_tuple : mg "tuple" = none
  c_LETTERS : ∃ t, mg "LETTERS" = some (.str "abc" t)
section
variable {P : Program} {w : World} {K : PySem.W.Frag} {mg : Str → Option Value} {base : Heap}
theorem sc_is_word : FnScope N_is_word ["letters", "word"] (defScope s_is_word) := ⟨rfl, rfl, rfl, by decide +kernel, rfl, by decide +kernel, by decide +kernel⟩
theorem d_is_word (T : Txt K mg) : DefD P w K mg base 1 "is_word" LM.F_is_word := by
  refine .of (N := N_is_word) (b := LM.b_is_word) T.t_is_word sc_is_word fun f cdv A outer s H E hr => ?_
  have hu64 := hr.units
  have hu := hu_of hr
  have hu65 : _ + 65 < cLine := room65 hr
  exact (ss_cons (s_for PassesOwn.never rfl (i_any (f_v 1)) (g_name 2 sc_is_word.nd) (ss_one (s_if (t_cm (c_nin hu65) (b_v 2) (f_b (f_sl (f_b (f_glS rfl T.c_LETTERS.choose_spec)) p_none (p_some (f_v 0)))) (by with_unfolding_all rfl)) (ss_one (s_ret f_bl)) ss_nil)))
      (ss_one (s_ret f_bl)))
theorem sc_letter_index : FnScope N_letter_index ["letter"] (defScope s_letter_index) := ⟨rfl, rfl, rfl, by decide +kernel, rfl, by decide +kernel, by decide +kernel⟩
theorem d_letter_index (T : Txt K mg) : DefD P w K mg base 1 "letter_index" LM.F_letter_index := by
  refine .of (N := N_letter_index) (b := LM.b_letter_index) T.t_letter_index sc_letter_index fun f cdv A outer s H E hr => ?_
  have hu64 := hr.units
  have hu := hu_of hr
  have hu65 : _ + 65 < cLine := room65 hr
  exact (ss_one (s_ret (f_index (f_b (f_glS rfl T.c_LETTERS.choose_spec)) (ab_cons (b_v 0) ab_nil))))
theorem sc_state_behind : FnScope N_state_behind ["machine", "state", "word"] (defScope s_state_behind) := ⟨rfl, rfl, rfl, by decide +kernel, rfl, by decide +kernel, by decide +kernel⟩
theorem d_state_behind (T : Txt K mg) : DefD P w K mg base 2 "state_behind" LM.F_state_behind := by
  refine .of (N := N_state_behind) (b := LM.b_state_behind) T.t_state_behind sc_state_behind fun f cdv A outer s H E hr => ?_
  have hu64 := hr.units
  have hu := hu_of hr
  have hu65 : _ + 65 < cLine := room65 hr
  exact (ss_cons (s_for PassesOwn.never rfl (i_any (f_v 2)) (g_name 3 sc_state_behind.nd) (ss_one (s_set 1 (f_ix hu (f_b (f_ix hu (f_b (f_ix hu (b_v 0) (f_b f_int))) (b_v 1))) (f_b (f_call (d_letter_index T) (hr.mono (by decide)) (a_cons (f_v 3) a_nil)))) sc_state_behind.nd)))
      (ss_one (s_ret (f_v 1))))
theorem sc_is_final : FnScope N_is_final ["machine", "state"] (defScope s_is_final) := ⟨rfl, rfl, rfl, by decide +kernel, rfl, by decide +kernel, by decide +kernel⟩
theorem d_is_final (T : Txt K mg) : DefD P w K mg base 1 "is_final" LM.F_is_final := by
  refine .of (N := N_is_final) (b := LM.b_is_final) T.t_is_final sc_is_final fun f cdv A outer s H E hr => ?_
  have hu64 := hr.units
  have hu := hu_of hr
  have hu65 : _ + 65 < cLine := room65 hr
  exact (ss_one (s_ret (f_cm (c_in hu65) (b_v 1) (f_b (f_ix hu (b_v 0) (f_b f_int))) (by with_unfolding_all rfl))))
theorem sc_deed_on : FnScope N_deed_on ["machine", "word"] (defScope s_deed_on) := ⟨rfl, rfl, rfl, by decide +kernel, rfl, by decide +kernel, by decide +kernel⟩
theorem d_deed_on (T : Txt K mg) : DefD P w K mg base 3 "deed_on" LM.F_deed_on := by
  refine .of (N := N_deed_on) (b := LM.b_deed_on) T.t_deed_on sc_deed_on fun f cdv A outer s H E hr => ?_
  have hu64 := hr.units
  have hu := hu_of hr
  have hu65 : _ + 65 < cLine := room65 hr
  exact (ss_one (s_ret (f_tuple T.n_tuple (ab_cons (n_b (n_lc [("state", 2)] rfl sc_deed_on.nd (i_rng1 T.n_range (a_cons (f_len T.n_len (ab_cons (f_b (f_ix hu (b_v 0) (f_b f_int))) ab_nil)) a_nil)) (show blkC N_deed_on (defScope s_deed_on) _ _ = true by decide +kernel) (fun _ _ _ _ _ => (gc_name 2 sc_deed_on.nd)) (fun _ _ _ _ _ => ts_nil) (fun _ _ _ _ _ => (f_call (d_state_behind T) (hr.mono (by decide)) (a_cons (f_v 0) (a_cons (f_v 2) (a_cons (f_v 1) a_nil))))))) ab_nil))))
theorem sc_product : FnScope N_product ["first", "second"] (defScope s_product) := ⟨rfl, rfl, rfl, by decide +kernel, rfl, by decide +kernel, by decide +kernel⟩
theorem d_product (T : Txt K mg) : DefD P w K mg base 1 "product" LM.F_product := by
  refine .of (N := N_product) (b := LM.b_product) T.t_product sc_product fun f cdv A outer s H E hr => ?_
  have hu64 := hr.units
  have hu := hu_of hr
  have hu65 : _ + 65 < cLine := room65 hr
  exact (ss_one (s_ret (f_tuple T.n_tuple (ab_cons (n_b (n_lc [("state", 2)] rfl sc_product.nd (i_any (f_v 0)) (show blkC N_product (defScope s_product) _ _ = true by decide +kernel) (fun _ _ _ _ _ => (gc_name 2 sc_product.nd)) (fun _ _ _ _ _ => ts_nil) (fun _ _ _ _ _ => (f_ix hu (b_v 1) (b_v 2))))) ab_nil))))
theorem sc_mask_of_word : FnScope N_mask_of_word ["word"] (defScope s_mask_of_word) := ⟨rfl, rfl, rfl, by decide +kernel, rfl, by decide +kernel, by decide +kernel⟩
def b_mask_of_word : FS :=
    (sRet (eCall sumF (lC (eLc [1] (iCall rng1 (lC (eCall lenF (lC (eC (.str "abc")) lN)) lN)) (gN 1) (toT (o2 inD (o2 ixD (eC (.str "abc")) (eW 1)) (eW 0))) (o2 shlD (eC (.int 1)) (eW 1))) lN)))
def F_mask_of_word : List D → Option D := callF 2 1 b_mask_of_word
theorem d_mask_of_word (T : Txt K mg) : DefD P w K mg base 1 "mask_of_word" F_mask_of_word := by
  refine .of (N := N_mask_of_word) (b := b_mask_of_word) T.t_mask_of_word sc_mask_of_word fun f cdv A outer s H E hr => ?_
  have hu64 := hr.units
  have hu := hu_of hr
  have hu65 : _ + 65 < cLine := room65 hr
  exact (ss_one (s_ret (f_sum rfl T.n_sum (ab_cons (n_b (n_lc [("index", 1)] rfl sc_mask_of_word.nd (i_rng1 T.n_range (a_cons (f_len T.n_len (ab_cons (f_b (f_glS rfl T.c_LETTERS.choose_spec)) ab_nil)) a_nil)) (show blkC N_mask_of_word (defScope s_mask_of_word) _ _ = true by decide +kernel) (fun _ _ _ _ _ => (gc_name 1 sc_mask_of_word.nd)) (fun _ _ _ _ _ => (ts_one (t_cm (c_in hu65) (f_b (f_ix hu (f_b (f_glS rfl T.c_LETTERS.choose_spec)) (b_v 1))) (b_v 0) (by with_unfolding_all rfl)))) (fun _ _ _ _ _ => (f_shl (f_b f_int) (b_v 1))))) ab_nil))))
theorem sc_is_triple : FnScope N_is_triple ["letters", "triple", "mask"] (defScope s_is_triple) := ⟨rfl, rfl, rfl, by decide +kernel, rfl, by decide +kernel, by decide +kernel⟩
def L1_is_triple : FS :=
    (sIf (tOrF (tNotF (toT (eCall LM.F_is_word (lC (eV 0) (lC (eV 3) lN))))) (toT (o2 neD (o2 andD (eCall F_mask_of_word (lC (eV 3) lN)) (o1 invD (eW 2))) (eC (.int 0))))) (sRet (eC (.bool false))) sNx)
def b_is_triple : FS :=
    (sSeq (sFor (iAny (eV 1)) (gN 3) L1_is_triple)
    (sRet (o2 eqD (eCall F_mask_of_word (lC (o2 ixD (eW 1) (eC (.int 1))) lN)) (eW 2))))
def F_is_triple : List D → Option D := callF 4 3 b_is_triple
theorem d_is_triple (T : Txt K mg) : DefD P w K mg base 2 "is_triple" F_is_triple := by
  refine .of (N := N_is_triple) (b := b_is_triple) T.t_is_triple sc_is_triple fun f cdv A outer s H E hr => ?_
  have hu64 := hr.units
  have hu := hu_of hr
  have hu65 : _ + 65 < cLine := room65 hr
  exact (ss_cons (s_for PassesOwn.never rfl (i_any (f_v 1)) (g_name 3 sc_is_triple.nd) (ss_one (s_if (t_w (w_or (t_not (t_val (f_call (d_is_word T) (hr.mono (by decide)) (a_cons (f_v 0) (a_cons (f_v 3) a_nil))))) (w_or1 (t_cm (c_ne hu64) (f_b (f_bitand (f_b (f_call (d_mask_of_word T) (hr.mono (by decide)) (a_cons (f_v 3) a_nil))) (f_b (f_inv (b_v 2))))) (f_b f_int) (nomark _))))) (ss_one (s_ret f_bl)) ss_nil)))
      (ss_one (s_ret (f_cm (c_eq hu64) (f_b (f_call (d_mask_of_word T) (hr.mono (by decide)) (a_cons (f_ix hu (b_v 1) (f_b f_int)) a_nil))) (b_v 2) (nomark _)))))
theorem sc_is_step : FnScope N_is_step ["letters", "step"] (defScope s_is_step) := ⟨rfl, rfl, rfl, by decide +kernel, rfl, by decide +kernel, by decide +kernel⟩
def b_is_step : FS :=
    (sSeq (sIf (toT (o2 eqD (o2 ixD (eW 1) (eC (.int 0))) (eC (.str "letter")))) (sRet (o3c leD ltD (eC (.int 0)) (o2 ixD (eW 1) (eC (.int 1))) (eW 0))) sNx)
    (sSeq (sAsg (eCall F_mask_of_word (lC (o2 ixD (o2 ixD (eW 1) (eC (.int 1))) (eC (.int 1))) lN)) (gN 2))
    (sRet (eAnd (o2 neD (eW 2) (eC (.int 0))) (eAnd (eCall F_is_triple (lC (eV 0) (lC (o2 ixD (eW 1) (eC (.int 1))) (lC (eV 2) lN)))) (eCall F_is_triple (lC (eV 0) (lC (o2 ixD (eW 1) (eC (.int 2))) (lC (eV 2) lN)))))))))
def F_is_step : List D → Option D := callF 3 2 b_is_step
theorem d_is_step (T : Txt K mg) : DefD P w K mg base 3 "is_step" F_is_step := by
  refine .of (N := N_is_step) (b := b_is_step) T.t_is_step sc_is_step fun f cdv A outer s H E hr => ?_
  have hu64 := hr.units
  have hu := hu_of hr
  have hu65 : _ + 65 < cLine := room65 hr
  exact (ss_cons (s_if (t_cm (c_eq hu64) (f_b (f_ix hu (b_v 1) (f_b f_int))) (f_b f_str) (nomark _)) (ss_one (s_ret (f_chain c_le c_lt (f_b f_int) (f_b (f_ix hu (b_v 1) (f_b f_int))) (b_v 0)))) ss_nil)
      (ss_cons (s_set 2 (f_call (d_mask_of_word T) (hr.mono (by decide)) (a_cons (f_ix hu (f_b (f_ix hu (b_v 1) (f_b f_int))) (f_b f_int)) a_nil)) sc_is_step.nd)
      (ss_one (s_ret (f_and (f_cm (c_ne hu64) (b_v 2) (f_b f_int) (nomark _)) (f_and (f_call (d_is_triple T) (hr.mono (by decide)) (a_cons (f_v 0) (a_cons (f_ix hu (b_v 1) (f_b f_int)) (a_cons (f_v 2) a_nil)))) (f_one (f_call (d_is_triple T) (hr.mono (by decide)) (a_cons (f_v 0) (a_cons (f_ix hu (b_v 1) (f_b f_int)) (a_cons (f_v 2) a_nil)))))))))))
theorem sc_loop_deeds : FnScope N_loop_deeds ["machine", "steps", "side"] (defScope s_loop_deeds) := ⟨rfl, rfl, rfl, by decide +kernel, rfl, by decide +kernel, by decide +kernel⟩
def b_loop_deeds : FS :=
    (sRet (eCall tupF (lC (eLc [3] (iAny (eV 1)) (gN 3) (toT (o2 eqD (o2 ixD (eW 3) (eC (.int 0))) (eC (.str "set")))) (eCall LM.F_deed_on (lC (eV 0) (lC (o2 ixD (o2 ixD (eW 3) (eW 2)) (eC (.int 1))) lN)))) lN)))
def F_loop_deeds : List D → Option D := callF 4 3 b_loop_deeds
theorem d_loop_deeds (T : Txt K mg) : DefD P w K mg base 4 "loop_deeds" F_loop_deeds := by
  refine .of (N := N_loop_deeds) (b := b_loop_deeds) T.t_loop_deeds sc_loop_deeds fun f cdv A outer s H E hr => ?_
  have hu64 := hr.units
  have hu := hu_of hr
  have hu65 : _ + 65 < cLine := room65 hr
  exact (ss_one (s_ret (f_tuple T.n_tuple (ab_cons (n_b (n_lc [("step", 3)] rfl sc_loop_deeds.nd (i_any (f_v 1)) (show blkC N_loop_deeds (defScope s_loop_deeds) _ _ = true by decide +kernel) (fun _ _ _ _ _ => (gc_name 3 sc_loop_deeds.nd)) (fun _ _ _ _ _ => (ts_one (t_cm (c_eq hu64) (f_b (f_ix hu (b_v 3) (f_b f_int))) (f_b f_str) (nomark _)))) (fun _ _ _ _ _ => (f_call (d_deed_on T) (hr.mono (by decide)) (a_cons (f_v 0) (a_cons (f_ix hu (f_b (f_ix hu (b_v 3) (b_v 2))) (f_b f_int)) a_nil)))))) ab_nil))))
theorem sc_one_copy_more : FnScope N_one_copy_more ["powers", "deeds"] (defScope s_one_copy_more) := ⟨rfl, rfl, rfl, by decide +kernel, rfl, by decide +kernel, by decide +kernel⟩
def b_one_copy_more : FS :=
    (sRet (eCall tupF (lC (eLc [2] (iCall rng1 (lC (eCall lenF (lC (eW 1) lN)) lN)) (gN 2) tYs (eCall LM.F_product (lC (o2 ixD (eW 0) (eW 2)) (lC (o2 ixD (eW 1) (eW 2)) lN)))) lN)))
def F_one_copy_more : List D → Option D := callF 3 2 b_one_copy_more
theorem d_one_copy_more (T : Txt K mg) : DefD P w K mg base 2 "one_copy_more" F_one_copy_more := by
  refine .of (N := N_one_copy_more) (b := b_one_copy_more) T.t_one_copy_more sc_one_copy_more fun f cdv A outer s H E hr => ?_
  have hu64 := hr.units
  have hu := hu_of hr
  have hu65 : _ + 65 < cLine := room65 hr
  exact (ss_one (s_ret (f_tuple T.n_tuple (ab_cons (n_b (n_lc [("number", 2)] rfl sc_one_copy_more.nd (i_rng1 T.n_range (a_cons (f_len T.n_len (ab_cons (b_v 1) ab_nil)) a_nil)) (show blkC N_one_copy_more (defScope s_one_copy_more) _ _ = true by decide +kernel) (fun _ _ _ _ _ => (gc_name 2 sc_one_copy_more.nd)) (fun _ _ _ _ _ => ts_nil) (fun _ _ _ _ _ => (f_call (d_product T) (hr.mono (by decide)) (a_cons (f_ix hu (b_v 0) (b_v 2)) (a_cons (f_ix hu (b_v 1) (b_v 2)) a_nil)))))) ab_nil))))
theorem sc_end_state : FnScope N_end_state ["machine", "steps", "side", "powers"] (defScope s_end_state) := ⟨rfl, rfl, rfl, by decide +kernel, rfl, by decide +kernel, by decide +kernel⟩
def L1_end_state : FS :=
    (sIf (toT (o2 eqD (o2 ixD (eW 6) (eC (.int 0))) (eC (.str "letter")))) (sAsg (o2 ixD (o2 ixD (o2 ixD (eW 0) (eC (.int 1))) (eW 4)) (o2 ixD (eW 6) (eC (.int 1)))) (gN 4)) (sSeq (sAsg (o2 ixD (o2 ixD (eW 3) (eW 5)) (eCall LM.F_state_behind (lC (eV 0) (lC (eV 4) (lC (o2 ixD (o2 ixD (eW 6) (eW 2)) (eC (.int 0))) lN))))) (gN 4))
    (sSeq (sAsg (eCall LM.F_state_behind (lC (eV 0) (lC (eV 4) (lC (o2 ixD (o2 ixD (eW 6) (eW 2)) (eC (.int 2))) lN)))) (gN 4))
    (sAsg (o2 addD (eW 5) (eC (.int 1))) (gN 5)))))
def b_end_state : FS :=
    (sSeq (sAsg (eC (.int 0)) (gN 4))
    (sSeq (sAsg (eC (.int 0)) (gN 5))
    (sSeq (sFor (iAny (eV 1)) (gN 6) L1_end_state)
    (sRet (eV 4)))))
def F_end_state : List D → Option D := callF 7 4 b_end_state
theorem d_end_state (T : Txt K mg) : DefD P w K mg base 3 "end_state" F_end_state := by
  refine .of (N := N_end_state) (b := b_end_state) T.t_end_state sc_end_state fun f cdv A outer s H E hr => ?_
  have hu64 := hr.units
  have hu := hu_of hr
  have hu65 : _ + 65 < cLine := room65 hr
  exact (ss_cons (s_set 4 f_int sc_end_state.nd)
      (ss_cons (s_set 5 f_int sc_end_state.nd)
      (ss_cons (s_for PassesOwn.never rfl (i_any (f_v 1)) (g_name 6 sc_end_state.nd) (ss_one (s_if (t_cm (c_eq hu64) (f_b (f_ix hu (b_v 6) (f_b f_int))) (f_b f_str) (nomark _)) (ss_one (s_set 4 (f_ix hu (f_b (f_ix hu (f_b (f_ix hu (b_v 0) (f_b f_int))) (b_v 4))) (f_b (f_ix hu (b_v 6) (f_b f_int)))) sc_end_state.nd)) (ss_cons (s_set 4 (f_ix hu (f_b (f_ix hu (b_v 3) (b_v 5))) (f_b (f_call (d_state_behind T) (hr.mono (by decide)) (a_cons (f_v 0) (a_cons (f_v 4) (a_cons (f_ix hu (f_b (f_ix hu (b_v 6) (b_v 2))) (f_b f_int)) a_nil)))))) sc_end_state.nd)
      (ss_cons (s_set 4 (f_call (d_state_behind T) (hr.mono (by decide)) (a_cons (f_v 0) (a_cons (f_v 4) (a_cons (f_ix hu (f_b (f_ix hu (b_v 6) (b_v 2))) (f_b f_int)) a_nil)))) sc_end_state.nd)
      (ss_one (s_set 5 (f_add (b_v 5) (f_b f_int)) sc_end_state.nd)))))))
      (ss_one (s_ret (f_v 4))))))
theorem sc_is_accepted : FnScope N_is_accepted ["machine", "steps", "side", "powers"] (defScope s_is_accepted) := ⟨rfl, rfl, rfl, by decide +kernel, rfl, by decide +kernel, by decide +kernel⟩
def b_is_accepted : FS :=
    (sRet (eCall LM.F_is_final (lC (eV 0) (lC (eCall F_end_state (lC (eV 0) (lC (eV 1) (lC (eV 2) (lC (eV 3) lN))))) lN))))
def F_is_accepted : List D → Option D := callF 4 4 b_is_accepted
theorem d_is_accepted (T : Txt K mg) : DefD P w K mg base 4 "is_accepted" F_is_accepted := by
  refine .of (N := N_is_accepted) (b := b_is_accepted) T.t_is_accepted sc_is_accepted fun f cdv A outer s H E hr => ?_
  have hu64 := hr.units
  have hu := hu_of hr
  have hu65 : _ + 65 < cLine := room65 hr
  exact (ss_one (s_ret (f_call (d_is_final T) (hr.mono (by decide)) (a_cons (f_v 0) (a_cons (f_call (d_end_state T) (hr.mono (by decide)) (a_cons (f_v 0) (a_cons (f_v 1) (a_cons (f_v 2) (a_cons (f_v 3) a_nil))))) a_nil)))))
theorem sc_fits_always : FnScope N_fits_always ["first", "second", "steps"] (defScope s_fits_always) := ⟨rfl, rfl, rfl, by decide +kernel, rfl, by decide +kernel, by decide +kernel⟩
def L1_fits_always : FS :=
    (sSeq (sIf (tOrF (tNotF (toT (eCall F_is_accepted (lC (eV 0) (lC (eV 2) (lC (eC (.int 1)) (lC (o2 ixD (eW 5) (eC (.int 0))) lN))))))) (tNotF (toT (eCall F_is_accepted (lC (eV 1) (lC (eV 2) (lC (eC (.int 2)) (lC (o2 ixD (eW 5) (eC (.int 1))) lN)))))))) (sRet (eC (.bool false))) sNx)
    (sSeq (sPutN 6 (eV 5) (eC (.bool true)))
    (sAsg (eTup (lC (eCall F_one_copy_more (lC (o2 ixD (eW 5) (eC (.int 0))) (lC (eV 3) lN))) (lC (eCall F_one_copy_more (lC (o2 ixD (eW 5) (eC (.int 1))) (lC (eV 4) lN))) lN))) (gN 5))))
def b_fits_always : FS :=
    (sSeq (sAsg (eCall F_loop_deeds (lC (eV 0) (lC (eV 2) (lC (eC (.int 1)) lN)))) (gN 3))
    (sSeq (sAsg (eCall F_loop_deeds (lC (eV 1) (lC (eV 2) (lC (eC (.int 2)) lN)))) (gN 4))
    (sSeq (sAsg (eTup (lC (eV 3) (lC (eV 4) lN))) (gN 5))
    (sSeq (sOwn 6 (eC (.dict [(.none, .int 2)])))
    (sSeq (sWh 1000000 (toT (o2 ninND (eW 5) (eW 6))) L1_fits_always)
    (sRet (eC (.bool true))))))))
def F_fits_always : List D → Option D := callF 7 3 b_fits_always
theorem d_fits_always (T : Txt K mg) : DefD P w K mg base 5 "fits_always" F_fits_always := by
  refine .of (N := N_fits_always) (b := b_fits_always) T.t_fits_always sc_fits_always fun f cdv A outer s H E hr => ?_
  have hu64 := hr.units
  have hu := hu_of hr
  have hu65 : _ + 65 < cLine := room65 hr
  exact (ss_cons (s_set 3 (f_call (d_loop_deeds T) (hr.mono (by decide)) (a_cons (f_v 0) (a_cons (f_v 2) (a_cons f_int a_nil)))) sc_fits_always.nd)
      (ss_cons (s_set 4 (f_call (d_loop_deeds T) (hr.mono (by decide)) (a_cons (f_v 1) (a_cons (f_v 2) (a_cons f_int a_nil)))) sc_fits_always.nd)
      (ss_cons (s_set 5 (f_tup (a_cons (f_v 3) (a_cons (f_v 4) a_nil))) sc_fits_always.nd)
      (ss_cons (s_own 6 n_dN sc_fits_always.nd)
      (ss_cons (s_while 1000000 PassesOwn.never (t_cm (c_ninN hu64) (b_v 5) (b_v 6) (by with_unfolding_all rfl)) (ss_cons (s_if (t_w (w_or (t_not (t_val (f_call (d_is_accepted T) (hr.mono (by decide)) (a_cons (f_v 0) (a_cons (f_v 2) (a_cons f_int (a_cons (f_ix hu (b_v 5) (f_b f_int)) a_nil))))))) (w_or1 (t_not (t_val (f_call (d_is_accepted T) (hr.mono (by decide)) (a_cons (f_v 1) (a_cons (f_v 2) (a_cons f_int (a_cons (f_ix hu (b_v 5) (f_b f_int)) a_nil)))))))))) (ss_one (s_ret f_bl)) ss_nil)
      (ss_cons (s_putN 6 hu64 f_bl (f_v 5))
      (ss_one (s_set 5 (f_tup (a_cons (f_call (d_one_copy_more T) (hr.mono (by decide)) (a_cons (f_ix hu (b_v 5) (f_b f_int)) (a_cons (f_v 3) a_nil))) (a_cons (f_call (d_one_copy_more T) (hr.mono (by decide)) (a_cons (f_ix hu (b_v 5) (f_b f_int)) (a_cons (f_v 4) a_nil))) a_nil))) sc_fits_always.nd)))))
      (ss_one (s_ret f_bl)))))))
theorem sc_is_bond : FnScope N_is_bond ["first", "second", "steps"] (defScope s_is_bond) := ⟨rfl, rfl, rfl, by decide +kernel, rfl, by decide +kernel, by decide +kernel⟩
def L1_is_bond : FS :=
    (sIf (tNotF (toT (eCall F_is_step (lC (o2 ixD (eW 0) (eC (.int 0))) (lC (eV 3) lN))))) (sRet (eC (.bool false))) sNx)
def b_is_bond : FS :=
    (sSeq (sFor (iAny (eV 2)) (gN 3) L1_is_bond)
    (sRet (eCall F_fits_always (lC (eV 0) (lC (eV 1) (lC (eV 2) lN))))))
def F_is_bond : List D → Option D := callF 4 3 b_is_bond
theorem d_is_bond (T : Txt K mg) : DefD P w K mg base 6 "is_bond" F_is_bond := by
  refine .of (N := N_is_bond) (b := b_is_bond) T.t_is_bond sc_is_bond fun f cdv A outer s H E hr => ?_
  have hu64 := hr.units
  have hu := hu_of hr
  have hu65 : _ + 65 < cLine := room65 hr
  exact (ss_cons (s_for PassesOwn.never rfl (i_any (f_v 2)) (g_name 3 sc_is_bond.nd) (ss_one (s_if (t_not (t_val (f_call (d_is_step T) (hr.mono (by decide)) (a_cons (f_ix hu (b_v 0) (f_b f_int)) (a_cons (f_v 3) a_nil))))) (ss_one (s_ret f_bl)) ss_nil)))
      (ss_one (s_ret (f_call (d_fits_always T) (hr.mono (by decide)) (a_cons (f_v 0) (a_cons (f_v 1) (a_cons (f_v 2) a_nil)))))))
theorem sc_law_same : FnScope N_law_same ["told", "due"] (defScope s_law_same) := ⟨rfl, rfl, rfl, by decide +kernel, rfl, by decide +kernel, by decide +kernel⟩
theorem d_law_same (T : Txt K mg) : ∀ n, DefD P w K mg base (n + 0) "_law_same" (LC.F_law_same n)
  | 0 => .nil T.t_law_same
  | n + 1 => by
    have hrec : DefD P w K mg base (n + 0) "_law_same" (LC.F_law_same n) := d_law_same T n
    refine .of (N := N_law_same) (b := LC.b_law_same (LC.F_law_same n)) T.t_law_same sc_law_same fun f cdv A outer s H E hr => ?_
    have hu64 := hr.units
    have hu := hu_of hr
    have hu65 : _ + 65 < cLine := room65 hr
    exact (ss_cons (s_if (t_w (w_or (t_val (f_isi "bool" T.n_isinstance T.n_bool (b_v 1))) (w_or1 (t_val (f_isi "bool" T.n_isinstance T.n_bool (b_v 0)))))) (ss_one (s_ret (f_and (f_isi "bool" T.n_isinstance T.n_bool (b_v 1)) (f_and (f_isi "bool" T.n_isinstance T.n_bool (b_v 0)) (f_one (f_cm (c_eq hu64) (b_v 0) (b_v 1) (nomark _))))))) ss_nil)
      (ss_cons (s_if (t_w (w_or (t_cm c_is (b_v 1) (f_b f_non) (nomark _)) (w_or1 (t_val (f_isi "int" T.n_isinstance T.n_int (b_v 1)))))) (ss_one (s_ret (f_and (f_cm (c_eq hu64) (b_v 0) (b_v 1) (nomark _)) (f_one (f_or (f_cm c_is (b_v 1) (f_b f_non) (nomark _)) (f_one (f_isi "int" T.n_isinstance T.n_int (b_v 0)))))))) ss_nil)
      (ss_cons (s_if (t_val (f_isi "str" T.n_isinstance T.n_str (b_v 1))) (ss_one (s_ret (f_and (f_isi "str" T.n_isinstance T.n_str (b_v 0)) (f_one (f_cm (c_eq hu64) (b_v 0) (b_v 1) (nomark _)))))) ss_nil)
      (ss_cons (s_if (t_w (w_or (t_cm (c_ne hu64) (f_b (f_isi "list" T.n_isinstance T.n_list (b_v 1))) (f_b (f_isi "list" T.n_isinstance T.n_list (b_v 0))) (nomark _)) (w_or1 (t_cm (c_ne hu64) (f_b (f_isi "tuple" T.n_isinstance T.n_tuple (b_v 1))) (f_b (f_isi "tuple" T.n_isinstance T.n_tuple (b_v 0))) (nomark _))))) (ss_one (s_ret f_bl)) ss_nil)
      (ss_cons (s_if (t_cm (c_ne hu64) (f_b (f_len T.n_len (ab_cons (b_v 0) ab_nil))) (f_b (f_len T.n_len (ab_cons (b_v 1) ab_nil))) (nomark _)) (ss_one (s_ret f_bl)) ss_nil)
      (ss_cons (s_for PassesOwn.never rfl (i_rng1 T.n_range (a_cons (f_len T.n_len (ab_cons (b_v 1) ab_nil)) a_nil)) (g_name 2 sc_law_same.nd) (ss_one (s_if (t_not (t_val (f_call hrec (hr.mono (by omega)) (a_cons (f_ix hu (b_v 0) (b_v 2)) (a_cons (f_ix hu (b_v 1) (b_v 2)) a_nil))))) (ss_one (s_ret f_bl)) ss_nil)))
      (ss_one (s_ret f_bl))))))))
theorem sc_law_number : FnScope N_law_number ["script", "k"] (defScope s_law_number) := ⟨rfl, rfl, rfl, by decide +kernel, rfl, by decide +kernel, by decide +kernel⟩
theorem d_law_number (T : Txt K mg) : DefD P w K mg base 1 "_law_number" LC.F_law_number := by
  refine .of (N := N_law_number) (b := LC.b_law_number) T.t_law_number sc_law_number fun f cdv A outer s H E hr => ?_
  have hu64 := hr.units
  have hu := hu_of hr
  have hu65 : _ + 65 < cLine := room65 hr
  exact (ss_cons (s_set 2 (f_add (f_b (f_mul (f_b (f_sum rfl T.n_sum (ab_cons (b_v 0) ab_nil))) (f_b f_int))) (f_b (f_mul (f_b f_int) (f_b (f_add (b_v 1) (f_b f_int)))))) sc_law_number.nd)
      (ss_cons (s_if (t_cm c_lt (b_v 1) (f_b (f_len T.n_len (ab_cons (b_v 0) ab_nil))) (nomark _)) (ss_one (s_set 2 (f_ix hu (b_v 0) (b_v 1)) sc_law_number.nd)) ss_nil)
      (ss_one (s_ret (f_abs T.n_abs (ab_cons (b_v 2) ab_nil))))))
theorem sc_law_draws : FnScope N_law_draws ["script", "k", "count", "many"] (defScope s_law_draws) := ⟨rfl, rfl, rfl, by decide +kernel, rfl, by decide +kernel, by decide +kernel⟩
theorem d_law_draws (T : Txt K mg) : DefD P w K mg base 2 "_law_draws" LC.F_law_draws := by
  refine .of (N := N_law_draws) (b := LC.b_law_draws) T.t_law_draws sc_law_draws fun f cdv A outer s H E hr => ?_
  have hu64 := hr.units
  have hu := hu_of hr
  have hu65 : _ + 65 < cLine := room65 hr
  exact (ss_cons (s_set 4 (f_call (d_law_number T) (hr.mono (by decide)) (a_cons (f_v 0) (a_cons (f_v 1) a_nil))) sc_law_draws.nd)
      (ss_cons (s_own 5 (n_lst a_nil) sc_law_draws.nd)
      (ss_cons (s_if (t_cm c_ge (b_v 4) (f_b (f_pow (f_b f_int) (f_b f_int))) (nomark _)) (ss_cons (s_set 4 (f_sub (b_v 4) (f_b (f_pow (f_b f_int) (f_b f_int)))) sc_law_draws.nd)
      (ss_cons (s_for PassesOwn.never rfl (i_rng1 T.n_range (a_cons (f_v 2) a_nil)) (g_name 6 sc_law_draws.nd) (ss_cons (s_app 5 (f_mod (b_v 4) (b_v 3)))
      (ss_one (s_set 4 (f_fdiv (b_v 4) (b_v 3)) sc_law_draws.nd))))
      (ss_one (s_frz 5 (s_ret (f_v 5)))))) ss_nil)
      (ss_cons (s_set 7 (f_add (f_b (f_mod (b_v 4) (f_b f_int))) (f_b f_int)) sc_law_draws.nd)
      (ss_cons (s_for PassesOwn.never rfl (i_rng1 T.n_range (a_cons (f_v 2) a_nil)) (g_name 6 sc_law_draws.nd) (ss_cons (s_set 7 (f_mod (f_b (f_add (f_b (f_add (f_b (f_mul (b_v 7) (f_b f_int))) (f_b (f_mul (f_b f_int) (b_v 6))))) (f_b f_int))) (f_b f_int)) sc_law_draws.nd)
      (ss_cons (s_set 8 (f_mod (f_b (f_add (f_b (f_add (f_b (f_mul (b_v 7) (b_v 7))) (f_b (f_mul (f_b f_int) (b_v 6))))) (f_b f_int))) (f_b f_int)) sc_law_draws.nd)
      (ss_one (s_app 5 (f_mod (f_b (f_fdiv (b_v 8) (f_b f_int))) (b_v 3)))))))
      (ss_one (s_frz 5 (s_ret (f_v 5)))))))))
theorem sc_law_machine : FnScope N_law_machine ["script", "k", "letters", "n"] (defScope s_law_machine) := ⟨rfl, rfl, rfl, by decide +kernel, rfl, by decide +kernel, by decide +kernel⟩
theorem d_law_machine (T : Txt K mg) : DefD P w K mg base 3 "_law_machine" LM.F_law_machine := by
  refine .of (N := N_law_machine) (b := LM.b_law_machine) T.t_law_machine sc_law_machine fun f cdv A outer s H E hr => ?_
  have hu64 := hr.units
  have hu := hu_of hr
  have hu65 : _ + 65 < cLine := room65 hr
  exact (ss_cons (s_set 4 (f_call (d_law_draws T) (hr.mono (by decide)) (a_cons (f_v 0) (a_cons (f_v 1) (a_cons (f_add (f_b (f_mul (b_v 3) (b_v 2))) (b_v 3)) (a_cons (f_mul (b_v 3) (f_b f_int)) a_nil))))) sc_law_machine.nd)
      (ss_cons (s_own 5 (n_lst a_nil) sc_law_machine.nd)
      (ss_cons (s_for PassesOwn.never rfl (i_rng1 T.n_range (a_cons (f_v 3) a_nil)) (g_name 6 sc_law_machine.nd) (ss_one (s_app 5 (f_tuple T.n_tuple (ab_cons (n_b (n_lc [("pick", 8)] rfl sc_law_machine.nd (i_any (f_sl (b_v 4) (p_some (f_mul (b_v 6) (b_v 2))) (p_some (f_add (f_b (f_mul (b_v 6) (b_v 2))) (b_v 2))))) (show blkC N_law_machine (defScope s_law_machine) _ _ = true by decide +kernel) (fun _ _ _ _ _ => (gc_name 8 sc_law_machine.nd)) (fun _ _ _ _ _ => ts_nil) (fun _ _ _ _ _ => (f_mod (b_v 8) (b_v 3))))) ab_nil)))))
      (ss_cons (s_thenF 7 (s_lc 7 [("p", 6)] rfl sc_law_machine.nd (i_rng1 T.n_range (a_cons (f_v 3) a_nil)) (show blkC N_law_machine (defScope s_law_machine) _ _ = true by decide +kernel) (fun _ _ _ _ _ => (gc_name 6 sc_law_machine.nd)) (fun _ _ _ _ _ => (ts_one (t_cm (c_eq hu64) (f_b (f_mod (f_b (f_ix hu (b_v 4) (f_b (f_add (f_b (f_mul (b_v 3) (b_v 2))) (b_v 6))))) (f_b f_int))) (f_b f_int) (nomark _)))) (fun _ _ _ _ _ => (f_v 6))))
      (ss_one (s_ret (f_tup (a_cons (f_v 2) (a_cons (f_tuple T.n_tuple (ab_cons (b_v 5) ab_nil)) (a_cons (f_tuple T.n_tuple (ab_cons (b_v 7) ab_nil)) a_nil))))))))))
theorem sc_law_state : FnScope N_law_state ["machine", "state", "word"] (defScope s_law_state) := ⟨rfl, rfl, rfl, by decide +kernel, rfl, by decide +kernel, by decide +kernel⟩
theorem d_law_state (T : Txt K mg) : DefD P w K mg base 1 "_law_state" LM.F_law_state := by
  refine .of (N := N_law_state) (b := LM.b_law_state) T.t_law_state sc_law_state fun f cdv A outer s H E hr => ?_
  have hu64 := hr.units
  have hu := hu_of hr
  have hu65 : _ + 65 < cLine := room65 hr
  exact (ss_cons (s_for PassesOwn.never rfl (i_any (f_v 2)) (g_name 3 sc_law_state.nd) (ss_one (s_set 1 (f_ix hu (f_b (f_ix hu (f_b (f_ix hu (b_v 0) (f_b f_int))) (b_v 1))) (f_b (f_index (f_b f_str) (ab_cons (b_v 3) ab_nil)))) sc_law_state.nd)))
      (ss_one (s_ret (f_v 1))))
theorem sc_law_letters_of : FnScope N_law_letters_of ["word"] (defScope s_law_letters_of) := ⟨rfl, rfl, rfl, by decide +kernel, rfl, by decide +kernel, by decide +kernel⟩
def b_law_letters_of : FS :=
    (sRet (eCall sortedF (lC (eLc [1] (iAny (eC (.str "abc"))) (gN 1) (toT (o2 inD (eW 1) (eW 0))) (eV 1)) lN)))
def F_law_letters_of : List D → Option D := callF 2 1 b_law_letters_of
theorem d_law_letters_of (T : Txt K mg) : DefD P w K mg base 1 "_law_letters_of" F_law_letters_of := by
  refine .of (N := N_law_letters_of) (b := b_law_letters_of) T.t_law_letters_of sc_law_letters_of fun f cdv A outer s H E hr => ?_
  have hu64 := hr.units
  have hu := hu_of hr
  have hu65 : _ + 65 < cLine := room65 hr
  exact (ss_one (s_ret (f_sorted T.n_sorted (ab_cons (n_b (n_lc [("letter", 1)] rfl sc_law_letters_of.nd (i_any f_str) (show blkC N_law_letters_of (defScope s_law_letters_of) _ _ = true by decide +kernel) (fun _ _ _ _ _ => (gc_name 1 sc_law_letters_of.nd)) (fun _ _ _ _ _ => (ts_one (t_cm (c_in hu65) (b_v 1) (b_v 0) (by with_unfolding_all rfl)))) (fun _ _ _ _ _ => (f_v 1)))) ab_nil))))
theorem sc_law_step_ok : FnScope N_law_step_ok ["letters", "step"] (defScope s_law_step_ok) := ⟨rfl, rfl, rfl, by decide +kernel, rfl, by decide +kernel, by decide +kernel⟩
def L1_law_step_ok : FS :=
    (sIf (toT (o2 gtD (eCall lenF (lC (eLc [4] (iAny (eV 3)) (gN 4) (tOrF (toT (o2 ninD (eW 4) (eSl (eC (.str "abc")) pN (pS (eV 0))))) (toT (o2 ninD (eW 4) (o2 ixD (eW 2) (eC (.int 1)))))) (eV 4)) lN)) (eC (.int 0)))) (sRet (eC (.bool false))) sNx)
def L2_law_step_ok : FS :=
    (sFor (iAny (eV 2)) (gN 3) L1_law_step_ok)
def b_law_step_ok : FS :=
    (sSeq (sIf (toT (o2 eqD (o2 ixD (eW 1) (eC (.int 0))) (eC (.str "letter")))) (sRet (o3c leD ltD (eC (.int 0)) (o2 ixD (eW 1) (eC (.int 1))) (eW 0))) sNx)
    (sSeq (sFor (iAny (eSl (eW 1) (pS (eC (.int 1))) pN)) (gN 2) L2_law_step_ok)
    (sRet (eAnd (o2 gtD (eCall lenF (lC (o2 ixD (o2 ixD (eW 1) (eC (.int 1))) (eC (.int 1))) lN)) (eC (.int 0))) (o2 eqD (eCall F_law_letters_of (lC (o2 ixD (o2 ixD (eW 1) (eC (.int 1))) (eC (.int 1))) lN)) (eCall F_law_letters_of (lC (o2 ixD (o2 ixD (eW 1) (eC (.int 2))) (eC (.int 1))) lN)))))))
def F_law_step_ok : List D → Option D := callF 5 2 b_law_step_ok
theorem d_law_step_ok (T : Txt K mg) : DefD P w K mg base 2 "_law_step_ok" F_law_step_ok := by
  refine .of (N := N_law_step_ok) (b := b_law_step_ok) T.t_law_step_ok sc_law_step_ok fun f cdv A outer s H E hr => ?_
  have hu64 := hr.units
  have hu := hu_of hr
  have hu65 : _ + 65 < cLine := room65 hr
  exact (ss_cons (s_if (t_cm (c_eq hu64) (f_b (f_ix hu (b_v 1) (f_b f_int))) (f_b f_str) (nomark _)) (ss_one (s_ret (f_chain c_le c_lt (f_b f_int) (f_b (f_ix hu (b_v 1) (f_b f_int))) (b_v 0)))) ss_nil)
      (ss_cons (s_for PassesOwn.never rfl (i_any (f_sl (b_v 1) (p_some f_int) p_none)) (g_name 2 sc_law_step_ok.nd) (ss_one (s_for PassesOwn.never rfl (i_any (f_v 2)) (g_name 3 sc_law_step_ok.nd) (ss_one (s_if (t_cm c_gt (f_b (f_len T.n_len (ab_cons (n_b (n_lc [("x", 4)] rfl sc_law_step_ok.nd (i_any (f_v 3)) (show blkC N_law_step_ok (defScope s_law_step_ok) _ _ = true by decide +kernel) (fun _ _ _ _ _ => (gc_name 4 sc_law_step_ok.nd)) (fun _ _ _ _ _ => (ts_one (t_w (w_or (t_cm (c_nin hu65) (b_v 4) (f_b (f_sl (f_b f_str) p_none (p_some (f_v 0)))) (by with_unfolding_all rfl)) (w_or1 (t_cm (c_nin hu65) (b_v 4) (f_b (f_ix hu (b_v 2) (f_b f_int))) (by with_unfolding_all rfl))))))) (fun _ _ _ _ _ => (f_v 4)))) ab_nil))) (f_b f_int) (nomark _)) (ss_one (s_ret f_bl)) ss_nil)))))
      (ss_one (s_ret (f_and (f_cm c_gt (f_b (f_len T.n_len (ab_cons (f_b (f_ix hu (f_b (f_ix hu (b_v 1) (f_b f_int))) (f_b f_int))) ab_nil))) (f_b f_int) (nomark _)) (f_one (f_cm (c_eq hu64) (f_b (f_call (d_law_letters_of T) (hr.mono (by decide)) (a_cons (f_ix hu (f_b (f_ix hu (b_v 1) (f_b f_int))) (f_b f_int)) a_nil))) (f_b (f_call (d_law_letters_of T) (hr.mono (by decide)) (a_cons (f_ix hu (f_b (f_ix hu (b_v 1) (f_b f_int))) (f_b f_int)) a_nil))) (nomark _))))))))
theorem sc_law_maps : FnScope N_law_maps ["machine", "word", "most"] (defScope s_law_maps) := ⟨rfl, rfl, rfl, by decide +kernel, rfl, by decide +kernel, by decide +kernel⟩
def L1_law_maps : FS :=
    (sApp 3 (eLc [5] (iAny (o2 ixD (eW 3) (o1 negD (eC (.int 1))))) (gN 5) tYs (eCall LM.F_law_state (lC (eV 0) (lC (eV 5) (lC (eV 1) lN))))))
def b_law_maps : FS :=
    (sSeq (sOwn 3 (eLst (lC (eCall lrgF (lC (eCall lenF (lC (o2 ixD (eW 0) (eC (.int 1))) lN)) lN)) lN)))
    (sSeq (sFor (iCall rng1 (lC (eV 2) lN)) (gN 4) L1_law_maps)
    (sFrz 3 (sRet (eV 3)))))
def F_law_maps : List D → Option D := callF 6 3 b_law_maps
theorem d_law_maps (T : Txt K mg) : DefD P w K mg base 2 "_law_maps" F_law_maps := by
  refine .of (N := N_law_maps) (b := b_law_maps) T.t_law_maps sc_law_maps fun f cdv A outer s H E hr => ?_
  have hu64 := hr.units
  have hu := hu_of hr
  have hu65 : _ + 65 < cLine := room65 hr
  exact (ss_cons (s_own 3 (n_lst (a_cons (f_lrg rfl T.n_list T.n_range (f_len T.n_len (ab_cons (f_b (f_ix hu (b_v 0) (f_b f_int))) ab_nil))) a_nil)) sc_law_maps.nd)
      (ss_cons (s_for PassesOwn.never rfl (i_rng1 T.n_range (a_cons (f_v 2) a_nil)) (g_name 4 sc_law_maps.nd) (ss_one (s_app 3 (n_f (n_lc [("state", 5)] rfl sc_law_maps.nd (i_any (f_ix hu (b_v 3) (f_b (f_neg (f_b f_int))))) (show blkC N_law_maps (defScope s_law_maps) _ _ = true by decide +kernel) (fun _ _ _ _ _ => (gc_name 5 sc_law_maps.nd)) (fun _ _ _ _ _ => ts_nil) (fun _ _ _ _ _ => (f_call (d_law_state T) (hr.mono (by decide)) (a_cons (f_v 0) (a_cons (f_v 5) (a_cons (f_v 1) a_nil))))))))))
      (ss_one (s_frz 3 (s_ret (f_v 3))))))
theorem sc_law_ends_of : FnScope N_law_ends_of ["machine", "steps", "side", "most"] (defScope s_law_ends_of) := ⟨rfl, rfl, rfl, by decide +kernel, rfl, by decide +kernel, by decide +kernel⟩
def L1_law_ends_of : FS :=
    (sIf (toT (o2 eqD (o2 ixD (eW 9) (eC (.int 0))) (eC (.str "letter")))) (sAsg (o2 ixD (o2 ixD (o2 ixD (eW 0) (eC (.int 1))) (eW 7)) (o2 ixD (eW 9) (eC (.int 1)))) (gN 7)) (sSeq (sAsg (o2 ixD (o2 ixD (o2 ixD (eW 4) (eW 8)) (eW 6)) (eCall LM.F_law_state (lC (eV 0) (lC (eV 7) (lC (o2 ixD (o2 ixD (eW 9) (eW 2)) (eC (.int 0))) lN))))) (gN 7))
    (sSeq (sAsg (eCall LM.F_law_state (lC (eV 0) (lC (eV 7) (lC (o2 ixD (o2 ixD (eW 9) (eW 2)) (eC (.int 2))) lN)))) (gN 7))
    (sAsg (o2 addD (eW 8) (eC (.int 1))) (gN 8)))))
def L2_law_ends_of : FS :=
    (sSeq (sAsg (eC (.int 0)) (gN 7))
    (sSeq (sAsg (eC (.int 0)) (gN 8))
    (sSeq (sFor (iAny (eV 1)) (gN 9) L1_law_ends_of)
    (sApp 5 (eV 7)))))
def b_law_ends_of : FS :=
    (sSeq (thenF 4 (sOwn 4 (eLc [9] (iAny (eV 1)) (gN 9) (toT (o2 eqD (o2 ixD (eW 9) (eC (.int 0))) (eC (.str "set")))) (eCall F_law_maps (lC (eV 0) (lC (o2 ixD (o2 ixD (eW 9) (eW 2)) (eC (.int 1))) (lC (eV 3) lN)))))))
    (sSeq (sOwn 5 (eLst lN))
    (sSeq (sFor (iCall rng2 (lC (eC (.int 1)) (lC (o2 addD (eW 3) (eC (.int 1))) lN))) (gN 6) L2_law_ends_of)
    (sFrz 5 (sRet (eV 5))))))
def F_law_ends_of : List D → Option D := callF 10 4 b_law_ends_of
theorem d_law_ends_of (T : Txt K mg) : DefD P w K mg base 3 "_law_ends_of" F_law_ends_of := by
  refine .of (N := N_law_ends_of) (b := b_law_ends_of) T.t_law_ends_of sc_law_ends_of fun f cdv A outer s H E hr => ?_
  have hu64 := hr.units
  have hu := hu_of hr
  have hu65 : _ + 65 < cLine := room65 hr
  exact (ss_cons (s_thenF 4 (s_lc 4 [("step", 9)] rfl sc_law_ends_of.nd (i_any (f_v 1)) (show blkC N_law_ends_of (defScope s_law_ends_of) _ _ = true by decide +kernel) (fun _ _ _ _ _ => (gc_name 9 sc_law_ends_of.nd)) (fun _ _ _ _ _ => (ts_one (t_cm (c_eq hu64) (f_b (f_ix hu (b_v 9) (f_b f_int))) (f_b f_str) (nomark _)))) (fun _ _ _ _ _ => (f_call (d_law_maps T) (hr.mono (by decide)) (a_cons (f_v 0) (a_cons (f_ix hu (f_b (f_ix hu (b_v 9) (b_v 2))) (f_b f_int)) (a_cons (f_v 3) a_nil)))))))
      (ss_cons (s_own 5 (n_lst a_nil) sc_law_ends_of.nd)
      (ss_cons (s_for PassesOwn.never rfl (i_rng2 T.n_range (a_cons f_int (a_cons (f_add (b_v 3) (f_b f_int)) a_nil))) (g_name 6 sc_law_ends_of.nd) (ss_cons (s_set 7 f_int sc_law_ends_of.nd)
      (ss_cons (s_set 8 f_int sc_law_ends_of.nd)
      (ss_cons (s_for PassesOwn.never rfl (i_any (f_v 1)) (g_name 9 sc_law_ends_of.nd) (ss_one (s_if (t_cm (c_eq hu64) (f_b (f_ix hu (b_v 9) (f_b f_int))) (f_b f_str) (nomark _)) (ss_one (s_set 7 (f_ix hu (f_b (f_ix hu (f_b (f_ix hu (b_v 0) (f_b f_int))) (b_v 7))) (f_b (f_ix hu (b_v 9) (f_b f_int)))) sc_law_ends_of.nd)) (ss_cons (s_set 7 (f_ix hu (f_b (f_ix hu (f_b (f_ix hu (b_v 4) (b_v 8))) (b_v 6))) (f_b (f_call (d_law_state T) (hr.mono (by decide)) (a_cons (f_v 0) (a_cons (f_v 7) (a_cons (f_ix hu (f_b (f_ix hu (b_v 9) (b_v 2))) (f_b f_int)) a_nil)))))) sc_law_ends_of.nd)
      (ss_cons (s_set 7 (f_call (d_law_state T) (hr.mono (by decide)) (a_cons (f_v 0) (a_cons (f_v 7) (a_cons (f_ix hu (f_b (f_ix hu (b_v 9) (b_v 2))) (f_b f_int)) a_nil)))) sc_law_ends_of.nd)
      (ss_one (s_set 8 (f_add (b_v 8) (f_b f_int)) sc_law_ends_of.nd)))))))
      (ss_one (s_app 5 (f_v 7)))))))
      (ss_one (s_frz 5 (s_ret (f_v 5)))))))
theorem sc_law_is_bond : FnScope N_law_is_bond ["first", "second", "steps", "most"] (defScope s_law_is_bond) := ⟨rfl, rfl, rfl, by decide +kernel, rfl, by decide +kernel, by decide +kernel⟩
def L1_law_is_bond : FS :=
    (sIf (tNotF (toT (eCall F_law_step_ok (lC (o2 ixD (eW 0) (eC (.int 0))) (lC (eV 4) lN))))) (sRet (eC (.bool false))) sNx)
def b_law_is_bond : FS :=
    (sSeq (sFor (iAny (eV 2)) (gN 4) L1_law_is_bond)
    (sSeq (sIf (toT (o2 gtD (eCall lenF (lC (eLc [5] (iAny (eCall F_law_ends_of (lC (eV 0) (lC (eV 2) (lC (eC (.int 1)) (lC (eV 3) lN)))))) (gN 5) (toT (o2 ninD (eW 5) (o2 ixD (eW 0) (eC (.int 2))))) (eV 5)) lN)) (eC (.int 0)))) (sRet (eC (.bool false))) sNx)
    (sRet (o2 eqD (eCall lenF (lC (eLc [5] (iAny (eCall F_law_ends_of (lC (eV 1) (lC (eV 2) (lC (eC (.int 2)) (lC (eV 3) lN)))))) (gN 5) (toT (o2 ninD (eW 5) (o2 ixD (eW 1) (eC (.int 2))))) (eV 5)) lN)) (eC (.int 0))))))
def F_law_is_bond : List D → Option D := callF 6 4 b_law_is_bond
theorem d_law_is_bond (T : Txt K mg) : DefD P w K mg base 4 "_law_is_bond" F_law_is_bond := by
  refine .of (N := N_law_is_bond) (b := b_law_is_bond) T.t_law_is_bond sc_law_is_bond fun f cdv A outer s H E hr => ?_
  have hu64 := hr.units
  have hu := hu_of hr
  have hu65 : _ + 65 < cLine := room65 hr
  exact (ss_cons (s_for PassesOwn.never rfl (i_any (f_v 2)) (g_name 4 sc_law_is_bond.nd) (ss_one (s_if (t_not (t_val (f_call (d_law_step_ok T) (hr.mono (by decide)) (a_cons (f_ix hu (b_v 0) (f_b f_int)) (a_cons (f_v 4) a_nil))))) (ss_one (s_ret f_bl)) ss_nil)))
      (ss_cons (s_if (t_cm c_gt (f_b (f_len T.n_len (ab_cons (n_b (n_lc [("state", 5)] rfl sc_law_is_bond.nd (i_any (f_call (d_law_ends_of T) (hr.mono (by decide)) (a_cons (f_v 0) (a_cons (f_v 2) (a_cons f_int (a_cons (f_v 3) a_nil)))))) (show blkC N_law_is_bond (defScope s_law_is_bond) _ _ = true by decide +kernel) (fun _ _ _ _ _ => (gc_name 5 sc_law_is_bond.nd)) (fun _ _ _ _ _ => (ts_one (t_cm (c_nin hu65) (b_v 5) (f_b (f_ix hu (b_v 0) (f_b f_int))) (by with_unfolding_all rfl)))) (fun _ _ _ _ _ => (f_v 5)))) ab_nil))) (f_b f_int) (nomark _)) (ss_one (s_ret f_bl)) ss_nil)
      (ss_one (s_ret (f_cm (c_eq hu64) (f_b (f_len T.n_len (ab_cons (n_b (n_lc [("state", 5)] rfl sc_law_is_bond.nd (i_any (f_call (d_law_ends_of T) (hr.mono (by decide)) (a_cons (f_v 1) (a_cons (f_v 2) (a_cons f_int (a_cons (f_v 3) a_nil)))))) (show blkC N_law_is_bond (defScope s_law_is_bond) _ _ = true by decide +kernel) (fun _ _ _ _ _ => (gc_name 5 sc_law_is_bond.nd)) (fun _ _ _ _ _ => (ts_one (t_cm (c_nin hu65) (b_v 5) (f_b (f_ix hu (b_v 1) (f_b f_int))) (by with_unfolding_all rfl)))) (fun _ _ _ _ _ => (f_v 5)))) ab_nil))) (f_b f_int) (nomark _))))))
theorem sc_law_drawn_steps : FnScope N_law_drawn_steps ["script", "k", "letters", "count"] (defScope s_law_drawn_steps) := ⟨rfl, rfl, rfl, by decide +kernel, rfl, by decide +kernel, by decide +kernel⟩
theorem d_law_drawn_steps (T : Txt K mg) : DefD P w K mg base 3 "_law_drawn_steps" LS.F_law_drawn_steps := by
  refine .of (N := N_law_drawn_steps) (b := LS.b_law_drawn_steps) T.t_law_drawn_steps sc_law_drawn_steps fun f cdv A outer s H E hr => ?_
  have hu64 := hr.units
  have hu := hu_of hr
  have hu65 : _ + 65 < cLine := room65 hr
  exact (ss_cons (s_own 4 (n_lst a_nil) sc_law_drawn_steps.nd)
      (ss_cons (s_for PassesOwn.never rfl (i_rng1 T.n_range (a_cons (f_v 3) a_nil)) (g_name 5 sc_law_drawn_steps.nd) (ss_cons (s_set 6 (f_call (d_law_draws T) (hr.mono (by decide)) (a_cons (f_v 0) (a_cons (f_add (b_v 1) (b_v 5)) (a_cons f_int (a_cons f_int a_nil))))) sc_law_drawn_steps.nd)
      (ss_one (s_if (t_cm (c_eq hu64) (f_b (f_mod (f_b (f_ix hu (b_v 6) (f_b f_int))) (f_b f_int))) (f_b f_int) (nomark _)) (ss_one (s_app 4 (f_tup (a_cons f_str (a_cons (f_mod (f_b (f_ix hu (b_v 6) (f_b f_int))) (b_v 2)) a_nil))))) (ss_cons (s_set 7 (n_f (n_lc [("index", 13)] rfl sc_law_drawn_steps.nd (i_rng1 T.n_range (a_cons (f_v 2) a_nil)) (show blkC N_law_drawn_steps (defScope s_law_drawn_steps) _ _ = true by decide +kernel) (fun _ _ _ _ _ => (gc_name 13 sc_law_drawn_steps.nd)) (fun _ _ _ _ _ => (ts_one (t_cm (c_eq hu64) (f_b (f_bitand (f_b (f_shr (f_b (f_add (f_b f_int) (f_b (f_mod (f_b (f_ix hu (b_v 6) (f_b f_int))) (f_b (f_sub (f_b (f_shl (f_b f_int) (b_v 2))) (f_b f_int))))))) (b_v 13))) (f_b f_int))) (f_b f_int) (nomark _)))) (fun _ _ _ _ _ => (f_ix hu (f_b f_str) (b_v 13))))) sc_law_drawn_steps.nd)
      (ss_cons (s_own 8 (n_lst a_nil) sc_law_drawn_steps.nd)
      (ss_cons (s_for PassesOwn.never rfl (i_rng1 T.n_range (a_cons f_int a_nil)) (g_name 9 sc_law_drawn_steps.nd) (ss_cons (s_thenF 10 (s_lc 10 [("pick", 14)] rfl sc_law_drawn_steps.nd (i_any (f_sl (b_v 6) (p_some (f_add (f_b f_int) (f_b (f_mul (f_b f_int) (b_v 9))))) (p_some (f_add (f_b f_int) (f_b (f_mul (f_b f_int) (b_v 9))))))) (show blkC N_law_drawn_steps (defScope s_law_drawn_steps) _ _ = true by decide +kernel) (fun _ _ _ _ _ => (gc_name 14 sc_law_drawn_steps.nd)) (fun _ _ _ _ _ => ts_nil) (fun _ _ _ _ _ => (f_ix hu (b_v 7) (f_b (f_mod (b_v 14) (f_b (f_len T.n_len (ab_cons (b_v 7) ab_nil)))))))))
      (ss_cons (s_set 11 (f_slS (b_v 7) p_none p_none (p_some (f_sub (f_b f_int) (f_b (f_mul (f_b f_int) (f_b (f_mod (f_b (f_fdiv (f_b (f_ix hu (b_v 6) (f_b f_int))) (f_b (f_add (f_b f_int) (b_v 9))))) (f_b f_int)))))))) sc_law_drawn_steps.nd)
      (ss_cons (s_set 12 (f_join (f_b f_str) (ab_cons (b_v 10) ab_nil)) sc_law_drawn_steps.nd)
      (ss_one (s_app 8 (f_tup (a_cons (f_sl (b_v 12) p_none (p_some (f_mod (f_b (f_ix hu (b_v 6) (f_b f_int))) (f_b f_int)))) (a_cons (f_add (f_b (f_join (f_b f_str) (ab_cons (b_v 11) ab_nil))) (f_b (f_sl (b_v 12) (p_some f_int) (p_some (f_add (f_b f_int) (f_b (f_mod (f_b (f_ix hu (b_v 6) (f_b f_int))) (f_b f_int)))))))) (a_cons (f_sl (b_v 12) (p_some f_int) (p_some (f_add (f_b f_int) (f_b (f_mod (f_b (f_ix hu (b_v 6) (f_b f_int))) (f_b f_int)))))) a_nil))))))))))
      (ss_one (s_app 4 (f_tup (a_cons f_str (a_cons (f_ix hu (b_v 8) (f_b f_int)) (a_cons (f_ix hu (b_v 8) (f_b f_int)) a_nil)))))))))))))
      (ss_one (s_frz 4 (s_ret (f_v 4))))))
theorem sc_law_bent_step : FnScope N_law_bent_step ["step", "letters", "picks"] (defScope s_law_bent_step) := ⟨rfl, rfl, rfl, by decide +kernel, rfl, by decide +kernel, by decide +kernel⟩
def L1_law_bent_step : FS :=
    (sSeq (sAsg (o2 addD (o2 addD (eSl (eW 3) pN (pS (eV 4))) (eTup (lC (eV 7) lN))) (eSl (eW 3) (pS (o2 addD (eW 4) (eC (.int 1)))) pN)) (gN 8))
    (sAsg (o2 addD (eW 6) (eLst (lC (eTup (lC (eC (.str "set")) (lC (eV 8) (lC (o2 ixD (eW 0) (eC (.int 2))) lN)))) (lC (eTup (lC (eC (.str "set")) (lC (o2 ixD (eW 0) (eC (.int 2))) (lC (eV 8) lN)))) lN)))) (gN 6)))
def b_law_bent_step : FS :=
    (sSeq (sIf (toT (o2 eqD (o2 ixD (eW 0) (eC (.int 0))) (eC (.str "letter")))) (sRet (eLc [9] (iAny (eLst (lC (o2 modD (o2 addD (o2 ixD (eW 0) (eC (.int 1))) (eC (.int 1))) (eC (.int 3))) (lC (o2 subD (eC (.int 0)) (eC (.int 1))) (lC (eV 1) (lC (o2 powD (eC (.int 10)) (eC (.int 20))) lN)))))) (gN 9) tYs (eTup (lC (eC (.str "letter")) (lC (eV 9) lN))))) sNx)
    (sSeq (sAsg (o2 ixD (eW 0) (eC (.int 1))) (gN 3))
    (sSeq (sAsg (o2 modD (o2 ixD (eW 2) (eC (.int 0))) (eC (.int 3))) (gN 4))
    (sSeq (sAsg (o2 ixD (eW 3) (eW 4)) (gN 5))
    (sSeq (sAsg (eLst (lC (eTup (lC (eC (.str "set")) (lC (o2 ixD (eW 0) (eC (.int 2))) (lC (o2 ixD (eW 0) (eC (.int 1))) lN)))) (lC (eTup (lC (eC (.str "set")) (lC (eV 3) (lC (eV 3) lN)))) (lC (eTup (lC (eC (.str "set")) (lC (eTup (lC (o2 ixD (eW 3) (eC (.int 0))) (lC (eC (.str "")) (lC (o2 ixD (eW 3) (eC (.int 2))) lN)))) (lC (eTup (lC (o2 ixD (eW 3) (eC (.int 0))) (lC (eC (.str "")) (lC (o2 ixD (eW 3) (eC (.int 2))) lN)))) lN)))) lN)))) (gN 6))
    (sSeq (sFor (iAny (eLst (lC (o2 addD (eW 5) (o2 ixD (eC (.str "abc")) (o2 modD (o2 ixD (eW 2) (eC (.int 1))) (eC (.int 3))))) (lC (eSl (eW 5) (pS (eC (.int 1))) pN) (lC (o2 addD (eW 5) (eW 5)) (lC (o2 addD (eW 5) (eC (.str "d"))) (lC (o2 addD (eC (.str "A")) (eW 5)) (lC (eSl (eC (.str "abc")) pN (pS (eV 1))) (lC (eC (.str "")) lN))))))))) (gN 7) L1_law_bent_step)
    (sRet (eV 6))))))))
def F_law_bent_step : List D → Option D := callF 10 3 b_law_bent_step
theorem d_law_bent_step (T : Txt K mg) : DefD P w K mg base 1 "_law_bent_step" F_law_bent_step := by
  refine .of (N := N_law_bent_step) (b := b_law_bent_step) T.t_law_bent_step sc_law_bent_step fun f cdv A outer s H E hr => ?_
  have hu64 := hr.units
  have hu := hu_of hr
  have hu65 : _ + 65 < cLine := room65 hr
  exact (ss_cons (s_if (t_cm (c_eq hu64) (f_b (f_ix hu (b_v 0) (f_b f_int))) (f_b f_str) (nomark _)) (ss_one (s_ret (n_f (n_lc [("x", 9)] rfl sc_law_bent_step.nd (i_any (n_f (n_lst (a_cons (f_mod (f_b (f_add (f_b (f_ix hu (b_v 0) (f_b f_int))) (f_b f_int))) (f_b f_int)) (a_cons (f_sub (f_b f_int) (f_b f_int)) (a_cons (f_v 1) (a_cons (f_pow (f_b f_int) (f_b f_int)) a_nil))))))) (show blkC N_law_bent_step (defScope s_law_bent_step) _ _ = true by decide +kernel) (fun _ _ _ _ _ => (gc_name 9 sc_law_bent_step.nd)) (fun _ _ _ _ _ => ts_nil) (fun _ _ _ _ _ => (f_tup (a_cons f_str (a_cons (f_v 9) a_nil)))))))) ss_nil)
      (ss_cons (s_set 3 (f_ix hu (b_v 0) (f_b f_int)) sc_law_bent_step.nd)
      (ss_cons (s_set 4 (f_mod (f_b (f_ix hu (b_v 2) (f_b f_int))) (f_b f_int)) sc_law_bent_step.nd)
      (ss_cons (s_set 5 (f_ix hu (b_v 3) (b_v 4)) sc_law_bent_step.nd)
      (ss_cons (s_set 6 (n_f (n_lst (a_cons (f_tup (a_cons f_str (a_cons (f_ix hu (b_v 0) (f_b f_int)) (a_cons (f_ix hu (b_v 0) (f_b f_int)) a_nil)))) (a_cons (f_tup (a_cons f_str (a_cons (f_v 3) (a_cons (f_v 3) a_nil)))) (a_cons (f_tup (a_cons f_str (a_cons (f_tup (a_cons (f_ix hu (b_v 3) (f_b f_int)) (a_cons f_str (a_cons (f_ix hu (b_v 3) (f_b f_int)) a_nil)))) (a_cons (f_tup (a_cons (f_ix hu (b_v 3) (f_b f_int)) (a_cons f_str (a_cons (f_ix hu (b_v 3) (f_b f_int)) a_nil)))) a_nil)))) a_nil))))) sc_law_bent_step.nd)
      (ss_cons (s_for PassesOwn.never rfl (i_any (n_f (n_lst (a_cons (f_add (b_v 5) (f_b (f_ix hu (f_b f_str) (f_b (f_mod (f_b (f_ix hu (b_v 2) (f_b f_int))) (f_b f_int)))))) (a_cons (f_sl (b_v 5) (p_some f_int) p_none) (a_cons (f_add (b_v 5) (b_v 5)) (a_cons (f_add (b_v 5) (f_b f_str)) (a_cons (f_add (f_b f_str) (b_v 5)) (a_cons (f_sl (f_b f_str) p_none (p_some (f_v 1))) (a_cons f_str a_nil)))))))))) (g_name 7 sc_law_bent_step.nd) (ss_cons (s_set 8 (f_add (f_b (f_add (f_b (f_sl (b_v 3) p_none (p_some (f_v 4)))) (f_b (f_tup (a_cons (f_v 7) a_nil))))) (f_b (f_sl (b_v 3) (p_some (f_add (b_v 4) (f_b f_int))) p_none))) sc_law_bent_step.nd)
      (ss_one (s_set 6 (f_add (b_v 6) (n_b (n_lst (a_cons (f_tup (a_cons f_str (a_cons (f_v 8) (a_cons (f_ix hu (b_v 0) (f_b f_int)) a_nil)))) (a_cons (f_tup (a_cons f_str (a_cons (f_ix hu (b_v 0) (f_b f_int)) (a_cons (f_v 8) a_nil)))) a_nil))))) sc_law_bent_step.nd))))
      (ss_one (s_ret (f_v 6)))))))))
theorem sc_law_with_finals : FnScope N_law_with_finals ["machine", "states"] (defScope s_law_with_finals) := ⟨rfl, rfl, rfl, by decide +kernel, rfl, by decide +kernel, by decide +kernel⟩
def b_law_with_finals : FS :=
    (sRet (eTup (lC (o2 ixD (eW 0) (eC (.int 0))) (lC (o2 ixD (eW 0) (eC (.int 1))) (lC (eCall tupF (lC (eLc [2] (iCall rng1 (lC (eCall lenF (lC (o2 ixD (eW 0) (eC (.int 1))) lN)) lN)) (gN 2) (tOrF (toT (o2 inD (eW 2) (o2 ixD (eW 0) (eC (.int 2))))) (toT (o2 inD (eW 2) (eW 1)))) (eV 2)) lN)) lN)))))
def F_law_with_finals : List D → Option D := callF 3 2 b_law_with_finals
theorem d_law_with_finals (T : Txt K mg) : DefD P w K mg base 1 "_law_with_finals" F_law_with_finals := by
  refine .of (N := N_law_with_finals) (b := b_law_with_finals) T.t_law_with_finals sc_law_with_finals fun f cdv A outer s H E hr => ?_
  have hu64 := hr.units
  have hu := hu_of hr
  have hu65 : _ + 65 < cLine := room65 hr
  exact (ss_one (s_ret (f_tup (a_cons (f_ix hu (b_v 0) (f_b f_int)) (a_cons (f_ix hu (b_v 0) (f_b f_int)) (a_cons (f_tuple T.n_tuple (ab_cons (n_b (n_lc [("p", 2)] rfl sc_law_with_finals.nd (i_rng1 T.n_range (a_cons (f_len T.n_len (ab_cons (f_b (f_ix hu (b_v 0) (f_b f_int))) ab_nil)) a_nil)) (show blkC N_law_with_finals (defScope s_law_with_finals) _ _ = true by decide +kernel) (fun _ _ _ _ _ => (gc_name 2 sc_law_with_finals.nd)) (fun _ _ _ _ _ => (ts_one (t_w (w_or (t_cm (c_in hu65) (b_v 2) (f_b (f_ix hu (b_v 0) (f_b f_int))) (by with_unfolding_all rfl)) (w_or1 (t_cm (c_in hu65) (b_v 2) (b_v 1) (by with_unfolding_all rfl))))))) (fun _ _ _ _ _ => (f_v 2)))) ab_nil)) a_nil))))))
theorem sc_law : FnScope N_law ["script"] (defScope s_law) := ⟨rfl, rfl, rfl, by decide +kernel, rfl, by decide +kernel, by decide +kernel⟩
def L1_law : FS :=
    (sApp 12 (o2 addD (o2 addD (eSl (eW 5) pN (pS (eV 13))) (eLst (lC (eV 14) lN))) (eSl (eW 5) (pS (o2 addD (eW 13) (eC (.int 1)))) pN)))
def L2_law : FS :=
    (sSeq (sAsg (eCall lstF (lC (eW 15) lN)) (gN 16))
    (sSeq (sAsg (eCall F_law_is_bond (lC (o2 ixD (eW 9) (eC (.int 0))) (lC (o2 ixD (eW 9) (eC (.int 1))) (lC (eV 15) (lC (eC (.int 16)) lN))))) (gN 17))
    (sIf (tOrF (tNotF (toT (eCall (LC.F_law_same 4) (lC (eCall F_is_bond (lC (o2 ixD (eW 9) (eC (.int 0))) (lC (o2 ixD (eW 9) (eC (.int 1))) (lC (eV 16) lN)))) (lC (eV 17) lN))))) (tNotF (toT (eCall (LC.F_law_same 4) (lC (eV 16) (lC (eV 15) lN)))))) (sRet (eC (.bool false))) sNx)))
def L3_law : FS :=
    (sIf (tNotF (toT (eCall (LC.F_law_same 4) (lC (eCall F_is_bond (lC (eV 3) (lC (eV 4) (lC (eCall lstF (lC (eW 15) lN)) lN)))) (lC (eCall F_law_is_bond (lC (eV 3) (lC (eV 4) (lC (eV 15) (lC (eC (.int 16)) lN))))) lN))))) (sRet (eC (.bool false))) sNx)
def b_law : FS :=
    (sSeq (sAsg (eCall LC.F_law_draws (lC (eV 0) (lC (eC (.int 0)) (lC (eC (.int 5)) (lC (eC (.int 5040)) lN))))) (gN 1))
    (sSeq (sAsg (o2 addD (eC (.int 1)) (o2 modD (o2 ixD (eW 1) (eC (.int 0))) (eC (.int 3)))) (gN 2))
    (sSeq (sAsg (eCall LM.F_law_machine (lC (eV 0) (lC (eC (.int 1)) (lC (eV 2) (lC (o2 addD (eC (.int 1)) (o2 modD (o2 ixD (eW 1) (eC (.int 1))) (eC (.int 4)))) lN))))) (gN 3))
    (sSeq (sAsg (eCall LM.F_law_machine (lC (eV 0) (lC (eC (.int 2)) (lC (eV 2) (lC (o2 addD (eC (.int 1)) (o2 modD (o2 ixD (eW 1) (eC (.int 2))) (eC (.int 4)))) lN))))) (gN 4))
    (sSeq (sAsg (eCall LS.F_law_drawn_steps (lC (eV 0) (lC (eC (.int 3)) (lC (eV 2) (lC (o2 modD (o2 ixD (eW 1) (eC (.int 3))) (eC (.int 4))) lN))))) (gN 5))
    (sSeq (sAsg (eCall LC.F_law_draws (lC (eV 0) (lC (eC (.int 8)) (lC (eC (.int 6)) (lC (eC (.int 5040)) lN))))) (gN 6))
    (sSeq (sAsg (eCall F_law_ends_of (lC (eV 3) (lC (eV 5) (lC (eC (.int 1)) (lC (eC (.int 16)) lN))))) (gN 7))
    (sSeq (sAsg (eCall F_law_ends_of (lC (eV 4) (lC (eV 5) (lC (eC (.int 2)) (lC (eC (.int 16)) lN))))) (gN 8))
    (sSeq (sAsg (eLst (lC (eCall F_law_with_finals (lC (eV 3) (lC (eV 7) lN))) (lC (eCall F_law_with_finals (lC (eV 4) (lC (eV 8) lN))) lN))) (gN 9))
    (sSeq (sIf (toT (o2 isnD (eCall F_is_bond (lC (o2 ixD (eW 9) (eC (.int 0))) (lC (o2 ixD (eW 9) (eC (.int 1))) (lC (eCall lstF (lC (eW 5) lN)) lN)))) (eC (.bool true)))) (sRet (eC (.bool false))) sNx)
    (sSeq (sAsg (o2 ixD (eW 8) (o2 modD (o2 ixD (eW 6) (eC (.int 0))) (eC (.int 16)))) (gN 10))
    (sSeq (sAsg (eTup (lC (eV 2) (lC (o2 ixD (o2 ixD (eW 9) (eC (.int 1))) (eC (.int 1))) (lC (eCall tupF (lC (eLc [18] (iAny (o2 ixD (o2 ixD (eW 9) (eC (.int 1))) (eC (.int 2)))) (gN 18) (toT (o2 neD (eW 18) (eW 10))) (eV 18)) lN)) lN)))) (gN 11))
    (sSeq (sOwn 12 (eLst (lC (eV 5) (lC (eLst lN) (lC (o2 addD (eW 5) (eLst (lC (eTup (lC (eC (.str "letter")) (lC (eC (.int 0)) lN))) lN))) (lC (o2 addD (eLst (lC (eTup (lC (eC (.str "letter")) (lC (o2 subD (eW 2) (eC (.int 1))) lN))) lN)) (eW 5)) (lC (eSl (eW 5) (pS (eC (.int 1))) pN) (lC (o2 addD (eW 5) (eW 5)) lN))))))))
    (sSeq (sIf (toT (o2 gtD (eCall lenF (lC (eW 5) lN)) (eC (.int 0)))) (sSeq (sAsg (o2 modD (o2 ixD (eW 6) (eC (.int 1))) (eCall lenF (lC (eW 5) lN))) (gN 13))
    (sFor (iAny (eSlS (eCall F_law_bent_step (lC (o2 ixD (eW 5) (eW 13)) (lC (eV 2) (lC (eSl (eW 6) (pS (eC (.int 2))) pN) lN)))) (pS (o2 modD (o2 ixD (eW 6) (eC (.int 5))) (eC (.int 2)))) pN (pS (eC (.int 2))))) (gN 14) L1_law)) sNx)
    (sSeq (sFrz 12 (sFor (iAny (eV 12)) (gN 15) L2_law))
    (sSeq (sFor (iAny (eSl (eW 12) pN (pS (eC (.int 2))))) (gN 15) L3_law)
    (sRet (o2 isD (eCall F_is_bond (lC (o2 ixD (eW 9) (eC (.int 0))) (lC (eV 11) (lC (eCall lstF (lC (eW 5) lN)) lN)))) (eC (.bool false))))))))))))))))))))
def F_law : List D → Option D := callF 19 1 b_law
theorem ok_law {f : Addr} {fd : FuncData} (T : Txt K mg) (F : Fun K "law" "law" s_law f fd) : FnOk P w K mg base CX0 7 f fd ["script"] (spD ⟨P, w, K⟩ 1 F_law) := by
  refine F.okD (N := N_law) (b := b_law) sc_law fun cdv A outer s H E hr => ?_
  have hu64 := hr.units
  have hu := hu_of hr
  have hu65 : _ + 65 < cLine := room65 hr
  exact (ss_cons (s_set 1 (f_call (d_law_draws T) (hr.mono (by decide)) (a_cons (f_v 0) (a_cons f_int (a_cons f_int (a_cons f_int a_nil))))) sc_law.nd)
      (ss_cons (s_set 2 (f_add (f_b f_int) (f_b (f_mod (f_b (f_ix hu (b_v 1) (f_b f_int))) (f_b f_int)))) sc_law.nd)
      (ss_cons (s_set 3 (f_call (d_law_machine T) (hr.mono (by decide)) (a_cons (f_v 0) (a_cons f_int (a_cons (f_v 2) (a_cons (f_add (f_b f_int) (f_b (f_mod (f_b (f_ix hu (b_v 1) (f_b f_int))) (f_b f_int)))) a_nil))))) sc_law.nd)
      (ss_cons (s_set 4 (f_call (d_law_machine T) (hr.mono (by decide)) (a_cons (f_v 0) (a_cons f_int (a_cons (f_v 2) (a_cons (f_add (f_b f_int) (f_b (f_mod (f_b (f_ix hu (b_v 1) (f_b f_int))) (f_b f_int)))) a_nil))))) sc_law.nd)
      (ss_cons (s_set 5 (f_call (d_law_drawn_steps T) (hr.mono (by decide)) (a_cons (f_v 0) (a_cons f_int (a_cons (f_v 2) (a_cons (f_mod (f_b (f_ix hu (b_v 1) (f_b f_int))) (f_b f_int)) a_nil))))) sc_law.nd)
      (ss_cons (s_set 6 (f_call (d_law_draws T) (hr.mono (by decide)) (a_cons (f_v 0) (a_cons f_int (a_cons f_int (a_cons f_int a_nil))))) sc_law.nd)
      (ss_cons (s_set 7 (f_call (d_law_ends_of T) (hr.mono (by decide)) (a_cons (f_v 3) (a_cons (f_v 5) (a_cons f_int (a_cons f_int a_nil))))) sc_law.nd)
      (ss_cons (s_set 8 (f_call (d_law_ends_of T) (hr.mono (by decide)) (a_cons (f_v 4) (a_cons (f_v 5) (a_cons f_int (a_cons f_int a_nil))))) sc_law.nd)
      (ss_cons (s_set 9 (n_f (n_lst (a_cons (f_call (d_law_with_finals T) (hr.mono (by decide)) (a_cons (f_v 3) (a_cons (f_v 7) a_nil))) (a_cons (f_call (d_law_with_finals T) (hr.mono (by decide)) (a_cons (f_v 4) (a_cons (f_v 8) a_nil))) a_nil)))) sc_law.nd)
      (ss_cons (s_if (t_cm c_isn (f_b (f_call (d_is_bond T) (hr.mono (by decide)) (a_cons (f_ix hu (b_v 9) (f_b f_int)) (a_cons (f_ix hu (b_v 9) (f_b f_int)) (a_cons (f_list rfl T.n_list (ab_cons (b_v 5) ab_nil)) a_nil))))) (f_b f_bl) (nomark _)) (ss_one (s_ret f_bl)) ss_nil)
      (ss_cons (s_set 10 (f_ix hu (b_v 8) (f_b (f_mod (f_b (f_ix hu (b_v 6) (f_b f_int))) (f_b f_int)))) sc_law.nd)
      (ss_cons (s_set 11 (f_tup (a_cons (f_v 2) (a_cons (f_ix hu (f_b (f_ix hu (b_v 9) (f_b f_int))) (f_b f_int)) (a_cons (f_tuple T.n_tuple (ab_cons (n_b (n_lc [("p", 18)] rfl sc_law.nd (i_any (f_ix hu (f_b (f_ix hu (b_v 9) (f_b f_int))) (f_b f_int))) (show blkC N_law (defScope s_law) _ _ = true by decide +kernel) (fun _ _ _ _ _ => (gc_name 18 sc_law.nd)) (fun _ _ _ _ _ => (ts_one (t_cm (c_ne hu64) (b_v 18) (b_v 10) (nomark _)))) (fun _ _ _ _ _ => (f_v 18)))) ab_nil)) a_nil)))) sc_law.nd)
      (ss_cons (s_own 12 (n_lst (a_cons (f_v 5) (a_cons (n_f (n_lst a_nil)) (a_cons (f_add (b_v 5) (n_b (n_lst (a_cons (f_tup (a_cons f_str (a_cons f_int a_nil))) a_nil)))) (a_cons (f_add (n_b (n_lst (a_cons (f_tup (a_cons f_str (a_cons (f_sub (b_v 2) (f_b f_int)) a_nil))) a_nil))) (b_v 5)) (a_cons (f_sl (b_v 5) (p_some f_int) p_none) (a_cons (f_add (b_v 5) (b_v 5)) a_nil))))))) sc_law.nd)
      (ss_cons (s_if (t_cm c_gt (f_b (f_len T.n_len (ab_cons (b_v 5) ab_nil))) (f_b f_int) (nomark _)) (ss_cons (s_set 13 (f_mod (f_b (f_ix hu (b_v 6) (f_b f_int))) (f_b (f_len T.n_len (ab_cons (b_v 5) ab_nil)))) sc_law.nd)
      (ss_one (s_for PassesOwn.never rfl (i_any (f_slS (f_b (f_call (d_law_bent_step T) (hr.mono (by decide)) (a_cons (f_ix hu (b_v 5) (b_v 13)) (a_cons (f_v 2) (a_cons (f_sl (b_v 6) (p_some f_int) p_none) a_nil))))) (p_some (f_mod (f_b (f_ix hu (b_v 6) (f_b f_int))) (f_b f_int))) p_none (p_some f_int))) (g_name 14 sc_law.nd) (ss_one (s_app 12 (f_add (f_b (f_add (f_b (f_sl (b_v 5) p_none (p_some (f_v 13)))) (n_b (n_lst (a_cons (f_v 14) a_nil))))) (f_b (f_sl (b_v 5) (p_some (f_add (b_v 13) (f_b f_int))) p_none)))))))) ss_nil)
      (ss_cons (s_frz 12 (s_for PassesOwn.never rfl (i_any (f_v 12)) (g_name 15 sc_law.nd) (ss_cons (s_set 16 (f_list rfl T.n_list (ab_cons (b_v 15) ab_nil)) sc_law.nd)
      (ss_cons (s_set 17 (f_call (d_law_is_bond T) (hr.mono (by decide)) (a_cons (f_ix hu (b_v 9) (f_b f_int)) (a_cons (f_ix hu (b_v 9) (f_b f_int)) (a_cons (f_v 15) (a_cons f_int a_nil))))) sc_law.nd)
      (ss_one (s_if (t_w (w_or (t_not (t_val (f_call (d_law_same T 4) (hr.mono (by decide)) (a_cons (f_call (d_is_bond T) (hr.mono (by decide)) (a_cons (f_ix hu (b_v 9) (f_b f_int)) (a_cons (f_ix hu (b_v 9) (f_b f_int)) (a_cons (f_v 16) a_nil)))) (a_cons (f_v 17) a_nil))))) (w_or1 (t_not (t_val (f_call (d_law_same T 4) (hr.mono (by decide)) (a_cons (f_v 16) (a_cons (f_v 15) a_nil)))))))) (ss_one (s_ret f_bl)) ss_nil))))))
      (ss_cons (s_for PassesOwn.never rfl (i_any (f_sl (b_v 12) p_none (p_some f_int))) (g_name 15 sc_law.nd) (ss_one (s_if (t_not (t_val (f_call (d_law_same T 4) (hr.mono (by decide)) (a_cons (f_call (d_is_bond T) (hr.mono (by decide)) (a_cons (f_v 3) (a_cons (f_v 4) (a_cons (f_list rfl T.n_list (ab_cons (b_v 15) ab_nil)) a_nil)))) (a_cons (f_call (d_law_is_bond T) (hr.mono (by decide)) (a_cons (f_v 3) (a_cons (f_v 4) (a_cons (f_v 15) (a_cons f_int a_nil))))) a_nil))))) (ss_one (s_ret f_bl)) ss_nil)))
      (ss_one (s_ret (f_cm c_is (f_b (f_call (d_is_bond T) (hr.mono (by decide)) (a_cons (f_ix hu (b_v 9) (f_b f_int)) (a_cons (f_v 11) (a_cons (f_list rfl T.n_list (ab_cons (b_v 5) ab_nil)) a_nil))))) (f_b f_bl) (nomark _))))))))))))))))))))
end
/-- what the top has written -/
theorem all_mk {l : PySem.W.OpenLaw} {w : World} {K : PySem.W.Frag} {h : Heap} {mg : Str → Option Value} {fa : Addr} (hT : ∀ ns : List Int, ns.length ≤ 63 → F_law [scrD ns] = some (.bool true)) (X : K.In h) (G : h.Ns mainGlobals mg) (hfa : mg "law" = some (.ref fa))
    {od0 an0 : Option Addr} {sl0 : Array (Option Value)} {oc0 kV0 dc0 pm0 cd0 ct0 : Value} {f0 : Addr}
    {od1 an1 : Option Addr} {sl1 : Array (Option Value)} {oc1 kV1 dc1 pm1 cd1 ct1 : Value} {f1 : Addr}
    {od2 an2 : Option Addr} {sl2 : Array (Option Value)} {oc2 kV2 dc2 pm2 cd2 ct2 : Value} {f2 : Addr}
    {od3 an3 : Option Addr} {sl3 : Array (Option Value)} {oc3 kV3 dc3 pm3 cd3 ct3 : Value} {f3 : Addr}
    {od4 an4 : Option Addr} {sl4 : Array (Option Value)} {oc4 kV4 dc4 pm4 cd4 ct4 : Value} {f4 : Addr}
    {od5 an5 : Option Addr} {sl5 : Array (Option Value)} {oc5 kV5 dc5 pm5 cd5 ct5 : Value} {f5 : Addr}
    {od6 an6 : Option Addr} {sl6 : Array (Option Value)} {oc6 kV6 dc6 pm6 cd6 ct6 : Value} {f6 : Addr}
    {od7 an7 : Option Addr} {sl7 : Array (Option Value)} {oc7 kV7 dc7 pm7 cd7 ct7 : Value} {f7 : Addr}
    {od8 an8 : Option Addr} {sl8 : Array (Option Value)} {oc8 kV8 dc8 pm8 cd8 ct8 : Value} {f8 : Addr}
    {od9 an9 : Option Addr} {sl9 : Array (Option Value)} {oc9 kV9 dc9 pm9 cd9 ct9 : Value} {f9 : Addr}
    {od10 an10 : Option Addr} {sl10 : Array (Option Value)} {oc10 kV10 dc10 pm10 cd10 ct10 : Value} {f10 : Addr}
    {od11 an11 : Option Addr} {sl11 : Array (Option Value)} {oc11 kV11 dc11 pm11 cd11 ct11 : Value} {f11 : Addr}
    {od12 an12 : Option Addr} {sl12 : Array (Option Value)} {oc12 kV12 dc12 pm12 cd12 ct12 : Value} {f12 : Addr}
    {od13 an13 : Option Addr} {sl13 : Array (Option Value)} {oc13 kV13 dc13 pm13 cd13 ct13 : Value} {f13 : Addr}
    {od14 an14 : Option Addr} {sl14 : Array (Option Value)} {oc14 kV14 dc14 pm14 cd14 ct14 : Value} {f14 : Addr}
    {od15 an15 : Option Addr} {sl15 : Array (Option Value)} {oc15 kV15 dc15 pm15 cd15 ct15 : Value} {f15 : Addr}
    {od16 an16 : Option Addr} {sl16 : Array (Option Value)} {oc16 kV16 dc16 pm16 cd16 ct16 : Value} {f16 : Addr}
    {od17 an17 : Option Addr} {sl17 : Array (Option Value)} {oc17 kV17 dc17 pm17 cd17 ct17 : Value} {f17 : Addr}
    {od18 an18 : Option Addr} {sl18 : Array (Option Value)} {oc18 kV18 dc18 pm18 cd18 ct18 : Value} {f18 : Addr}
    {od19 an19 : Option Addr} {sl19 : Array (Option Value)} {oc19 kV19 dc19 pm19 cd19 ct19 : Value} {f19 : Addr}
    {od20 an20 : Option Addr} {sl20 : Array (Option Value)} {oc20 kV20 dc20 pm20 cd20 ct20 : Value} {f20 : Addr}
    {od21 an21 : Option Addr} {sl21 : Array (Option Value)} {oc21 kV21 dc21 pm21 cd21 ct21 : Value} {f21 : Addr}
    {od22 an22 : Option Addr} {sl22 : Array (Option Value)} {oc22 kV22 dc22 pm22 cd22 ct22 : Value} {f22 : Addr}
    {od23 an23 : Option Addr} {sl23 : Array (Option Value)} {oc23 kV23 dc23 pm23 cd23 ct23 : Value} {f23 : Addr}
    {od24 an24 : Option Addr} {sl24 : Array (Option Value)} {oc24 kV24 dc24 pm24 cd24 ct24 : Value} {f24 : Addr}
    {od25 an25 : Option Addr} {sl25 : Array (Option Value)} {oc25 kV25 dc25 pm25 cd25 ct25 : Value} {f25 : Addr}
    {od26 an26 : Option Addr} {sl26 : Array (Option Value)} {oc26 kV26 dc26 pm26 cd26 ct26 : Value} {f26 : Addr}
    {od27 an27 : Option Addr} {sl27 : Array (Option Value)} {oc27 kV27 dc27 pm27 cd27 ct27 : Value} {f27 : Addr}
    {od28 an28 : Option Addr} {sl28 : Array (Option Value)} {oc28 kV28 dc28 pm28 cd28 ct28 : Value} {f28 : Addr}
    {tk_LETTERS : Tok}
    (a0 : PySem.W.nsIn K mainGlobals "is_word" = some (some (.ref f0))) (l0 : K.lookup f0 = some ⟨oc0, od0, .func (PySem.W.fnOf "is_word" "is_word" (defArgs s_is_word) (defBody s_is_word) (defScope s_is_word) .none kV0 dc0 pm0 an0 cd0 ct0), sl0⟩) (c0 : PySem.W.codeIn K cd0 "is_word" = true) (k0 : PySem.W.keepIn K (.ref f0) = true)
    (a1 : PySem.W.nsIn K mainGlobals "letter_index" = some (some (.ref f1))) (l1 : K.lookup f1 = some ⟨oc1, od1, .func (PySem.W.fnOf "letter_index" "letter_index" (defArgs s_letter_index) (defBody s_letter_index) (defScope s_letter_index) .none kV1 dc1 pm1 an1 cd1 ct1), sl1⟩) (c1 : PySem.W.codeIn K cd1 "letter_index" = true) (k1 : PySem.W.keepIn K (.ref f1) = true)
    (a2 : PySem.W.nsIn K mainGlobals "state_behind" = some (some (.ref f2))) (l2 : K.lookup f2 = some ⟨oc2, od2, .func (PySem.W.fnOf "state_behind" "state_behind" (defArgs s_state_behind) (defBody s_state_behind) (defScope s_state_behind) .none kV2 dc2 pm2 an2 cd2 ct2), sl2⟩) (c2 : PySem.W.codeIn K cd2 "state_behind" = true) (k2 : PySem.W.keepIn K (.ref f2) = true)
    (a3 : PySem.W.nsIn K mainGlobals "is_final" = some (some (.ref f3))) (l3 : K.lookup f3 = some ⟨oc3, od3, .func (PySem.W.fnOf "is_final" "is_final" (defArgs s_is_final) (defBody s_is_final) (defScope s_is_final) .none kV3 dc3 pm3 an3 cd3 ct3), sl3⟩) (c3 : PySem.W.codeIn K cd3 "is_final" = true) (k3 : PySem.W.keepIn K (.ref f3) = true)
    (a4 : PySem.W.nsIn K mainGlobals "deed_on" = some (some (.ref f4))) (l4 : K.lookup f4 = some ⟨oc4, od4, .func (PySem.W.fnOf "deed_on" "deed_on" (defArgs s_deed_on) (defBody s_deed_on) (defScope s_deed_on) .none kV4 dc4 pm4 an4 cd4 ct4), sl4⟩) (c4 : PySem.W.codeIn K cd4 "deed_on" = true) (k4 : PySem.W.keepIn K (.ref f4) = true)
    (a5 : PySem.W.nsIn K mainGlobals "product" = some (some (.ref f5))) (l5 : K.lookup f5 = some ⟨oc5, od5, .func (PySem.W.fnOf "product" "product" (defArgs s_product) (defBody s_product) (defScope s_product) .none kV5 dc5 pm5 an5 cd5 ct5), sl5⟩) (c5 : PySem.W.codeIn K cd5 "product" = true) (k5 : PySem.W.keepIn K (.ref f5) = true)
    (a6 : PySem.W.nsIn K mainGlobals "mask_of_word" = some (some (.ref f6))) (l6 : K.lookup f6 = some ⟨oc6, od6, .func (PySem.W.fnOf "mask_of_word" "mask_of_word" (defArgs s_mask_of_word) (defBody s_mask_of_word) (defScope s_mask_of_word) .none kV6 dc6 pm6 an6 cd6 ct6), sl6⟩) (c6 : PySem.W.codeIn K cd6 "mask_of_word" = true) (k6 : PySem.W.keepIn K (.ref f6) = true)
    (a7 : PySem.W.nsIn K mainGlobals "is_triple" = some (some (.ref f7))) (l7 : K.lookup f7 = some ⟨oc7, od7, .func (PySem.W.fnOf "is_triple" "is_triple" (defArgs s_is_triple) (defBody s_is_triple) (defScope s_is_triple) .none kV7 dc7 pm7 an7 cd7 ct7), sl7⟩) (c7 : PySem.W.codeIn K cd7 "is_triple" = true) (k7 : PySem.W.keepIn K (.ref f7) = true)
    (a8 : PySem.W.nsIn K mainGlobals "is_step" = some (some (.ref f8))) (l8 : K.lookup f8 = some ⟨oc8, od8, .func (PySem.W.fnOf "is_step" "is_step" (defArgs s_is_step) (defBody s_is_step) (defScope s_is_step) .none kV8 dc8 pm8 an8 cd8 ct8), sl8⟩) (c8 : PySem.W.codeIn K cd8 "is_step" = true) (k8 : PySem.W.keepIn K (.ref f8) = true)
    (a9 : PySem.W.nsIn K mainGlobals "loop_deeds" = some (some (.ref f9))) (l9 : K.lookup f9 = some ⟨oc9, od9, .func (PySem.W.fnOf "loop_deeds" "loop_deeds" (defArgs s_loop_deeds) (defBody s_loop_deeds) (defScope s_loop_deeds) .none kV9 dc9 pm9 an9 cd9 ct9), sl9⟩) (c9 : PySem.W.codeIn K cd9 "loop_deeds" = true) (k9 : PySem.W.keepIn K (.ref f9) = true)
    (a10 : PySem.W.nsIn K mainGlobals "one_copy_more" = some (some (.ref f10))) (l10 : K.lookup f10 = some ⟨oc10, od10, .func (PySem.W.fnOf "one_copy_more" "one_copy_more" (defArgs s_one_copy_more) (defBody s_one_copy_more) (defScope s_one_copy_more) .none kV10 dc10 pm10 an10 cd10 ct10), sl10⟩) (c10 : PySem.W.codeIn K cd10 "one_copy_more" = true) (k10 : PySem.W.keepIn K (.ref f10) = true)
    (a11 : PySem.W.nsIn K mainGlobals "end_state" = some (some (.ref f11))) (l11 : K.lookup f11 = some ⟨oc11, od11, .func (PySem.W.fnOf "end_state" "end_state" (defArgs s_end_state) (defBody s_end_state) (defScope s_end_state) .none kV11 dc11 pm11 an11 cd11 ct11), sl11⟩) (c11 : PySem.W.codeIn K cd11 "end_state" = true) (k11 : PySem.W.keepIn K (.ref f11) = true)
    (a12 : PySem.W.nsIn K mainGlobals "is_accepted" = some (some (.ref f12))) (l12 : K.lookup f12 = some ⟨oc12, od12, .func (PySem.W.fnOf "is_accepted" "is_accepted" (defArgs s_is_accepted) (defBody s_is_accepted) (defScope s_is_accepted) .none kV12 dc12 pm12 an12 cd12 ct12), sl12⟩) (c12 : PySem.W.codeIn K cd12 "is_accepted" = true) (k12 : PySem.W.keepIn K (.ref f12) = true)
    (a13 : PySem.W.nsIn K mainGlobals "fits_always" = some (some (.ref f13))) (l13 : K.lookup f13 = some ⟨oc13, od13, .func (PySem.W.fnOf "fits_always" "fits_always" (defArgs s_fits_always) (defBody s_fits_always) (defScope s_fits_always) .none kV13 dc13 pm13 an13 cd13 ct13), sl13⟩) (c13 : PySem.W.codeIn K cd13 "fits_always" = true) (k13 : PySem.W.keepIn K (.ref f13) = true)
    (a14 : PySem.W.nsIn K mainGlobals "is_bond" = some (some (.ref f14))) (l14 : K.lookup f14 = some ⟨oc14, od14, .func (PySem.W.fnOf "is_bond" "is_bond" (defArgs s_is_bond) (defBody s_is_bond) (defScope s_is_bond) .none kV14 dc14 pm14 an14 cd14 ct14), sl14⟩) (c14 : PySem.W.codeIn K cd14 "is_bond" = true) (k14 : PySem.W.keepIn K (.ref f14) = true)
    (a15 : PySem.W.nsIn K mainGlobals "_law_same" = some (some (.ref f15))) (l15 : K.lookup f15 = some ⟨oc15, od15, .func (PySem.W.fnOf "_law_same" "_law_same" (defArgs s_law_same) (defBody s_law_same) (defScope s_law_same) .none kV15 dc15 pm15 an15 cd15 ct15), sl15⟩) (c15 : PySem.W.codeIn K cd15 "_law_same" = true) (k15 : PySem.W.keepIn K (.ref f15) = true)
    (a16 : PySem.W.nsIn K mainGlobals "_law_number" = some (some (.ref f16))) (l16 : K.lookup f16 = some ⟨oc16, od16, .func (PySem.W.fnOf "_law_number" "_law_number" (defArgs s_law_number) (defBody s_law_number) (defScope s_law_number) .none kV16 dc16 pm16 an16 cd16 ct16), sl16⟩) (c16 : PySem.W.codeIn K cd16 "_law_number" = true) (k16 : PySem.W.keepIn K (.ref f16) = true)
    (a17 : PySem.W.nsIn K mainGlobals "_law_draws" = some (some (.ref f17))) (l17 : K.lookup f17 = some ⟨oc17, od17, .func (PySem.W.fnOf "_law_draws" "_law_draws" (defArgs s_law_draws) (defBody s_law_draws) (defScope s_law_draws) .none kV17 dc17 pm17 an17 cd17 ct17), sl17⟩) (c17 : PySem.W.codeIn K cd17 "_law_draws" = true) (k17 : PySem.W.keepIn K (.ref f17) = true)
    (a18 : PySem.W.nsIn K mainGlobals "_law_machine" = some (some (.ref f18))) (l18 : K.lookup f18 = some ⟨oc18, od18, .func (PySem.W.fnOf "_law_machine" "_law_machine" (defArgs s_law_machine) (defBody s_law_machine) (defScope s_law_machine) .none kV18 dc18 pm18 an18 cd18 ct18), sl18⟩) (c18 : PySem.W.codeIn K cd18 "_law_machine" = true) (k18 : PySem.W.keepIn K (.ref f18) = true)
    (a19 : PySem.W.nsIn K mainGlobals "_law_state" = some (some (.ref f19))) (l19 : K.lookup f19 = some ⟨oc19, od19, .func (PySem.W.fnOf "_law_state" "_law_state" (defArgs s_law_state) (defBody s_law_state) (defScope s_law_state) .none kV19 dc19 pm19 an19 cd19 ct19), sl19⟩) (c19 : PySem.W.codeIn K cd19 "_law_state" = true) (k19 : PySem.W.keepIn K (.ref f19) = true)
    (a20 : PySem.W.nsIn K mainGlobals "_law_letters_of" = some (some (.ref f20))) (l20 : K.lookup f20 = some ⟨oc20, od20, .func (PySem.W.fnOf "_law_letters_of" "_law_letters_of" (defArgs s_law_letters_of) (defBody s_law_letters_of) (defScope s_law_letters_of) .none kV20 dc20 pm20 an20 cd20 ct20), sl20⟩) (c20 : PySem.W.codeIn K cd20 "_law_letters_of" = true) (k20 : PySem.W.keepIn K (.ref f20) = true)
    (a21 : PySem.W.nsIn K mainGlobals "_law_step_ok" = some (some (.ref f21))) (l21 : K.lookup f21 = some ⟨oc21, od21, .func (PySem.W.fnOf "_law_step_ok" "_law_step_ok" (defArgs s_law_step_ok) (defBody s_law_step_ok) (defScope s_law_step_ok) .none kV21 dc21 pm21 an21 cd21 ct21), sl21⟩) (c21 : PySem.W.codeIn K cd21 "_law_step_ok" = true) (k21 : PySem.W.keepIn K (.ref f21) = true)
    (a22 : PySem.W.nsIn K mainGlobals "_law_maps" = some (some (.ref f22))) (l22 : K.lookup f22 = some ⟨oc22, od22, .func (PySem.W.fnOf "_law_maps" "_law_maps" (defArgs s_law_maps) (defBody s_law_maps) (defScope s_law_maps) .none kV22 dc22 pm22 an22 cd22 ct22), sl22⟩) (c22 : PySem.W.codeIn K cd22 "_law_maps" = true) (k22 : PySem.W.keepIn K (.ref f22) = true)
    (a23 : PySem.W.nsIn K mainGlobals "_law_ends_of" = some (some (.ref f23))) (l23 : K.lookup f23 = some ⟨oc23, od23, .func (PySem.W.fnOf "_law_ends_of" "_law_ends_of" (defArgs s_law_ends_of) (defBody s_law_ends_of) (defScope s_law_ends_of) .none kV23 dc23 pm23 an23 cd23 ct23), sl23⟩) (c23 : PySem.W.codeIn K cd23 "_law_ends_of" = true) (k23 : PySem.W.keepIn K (.ref f23) = true)
    (a24 : PySem.W.nsIn K mainGlobals "_law_is_bond" = some (some (.ref f24))) (l24 : K.lookup f24 = some ⟨oc24, od24, .func (PySem.W.fnOf "_law_is_bond" "_law_is_bond" (defArgs s_law_is_bond) (defBody s_law_is_bond) (defScope s_law_is_bond) .none kV24 dc24 pm24 an24 cd24 ct24), sl24⟩) (c24 : PySem.W.codeIn K cd24 "_law_is_bond" = true) (k24 : PySem.W.keepIn K (.ref f24) = true)
    (a25 : PySem.W.nsIn K mainGlobals "_law_drawn_steps" = some (some (.ref f25))) (l25 : K.lookup f25 = some ⟨oc25, od25, .func (PySem.W.fnOf "_law_drawn_steps" "_law_drawn_steps" (defArgs s_law_drawn_steps) (defBody s_law_drawn_steps) (defScope s_law_drawn_steps) .none kV25 dc25 pm25 an25 cd25 ct25), sl25⟩) (c25 : PySem.W.codeIn K cd25 "_law_drawn_steps" = true) (k25 : PySem.W.keepIn K (.ref f25) = true)
    (a26 : PySem.W.nsIn K mainGlobals "_law_bent_step" = some (some (.ref f26))) (l26 : K.lookup f26 = some ⟨oc26, od26, .func (PySem.W.fnOf "_law_bent_step" "_law_bent_step" (defArgs s_law_bent_step) (defBody s_law_bent_step) (defScope s_law_bent_step) .none kV26 dc26 pm26 an26 cd26 ct26), sl26⟩) (c26 : PySem.W.codeIn K cd26 "_law_bent_step" = true) (k26 : PySem.W.keepIn K (.ref f26) = true)
    (a27 : PySem.W.nsIn K mainGlobals "_law_with_finals" = some (some (.ref f27))) (l27 : K.lookup f27 = some ⟨oc27, od27, .func (PySem.W.fnOf "_law_with_finals" "_law_with_finals" (defArgs s_law_with_finals) (defBody s_law_with_finals) (defScope s_law_with_finals) .none kV27 dc27 pm27 an27 cd27 ct27), sl27⟩) (c27 : PySem.W.codeIn K cd27 "_law_with_finals" = true) (k27 : PySem.W.keepIn K (.ref f27) = true)
    (a28 : PySem.W.nsIn K mainGlobals "law" = some (some (.ref f28))) (l28 : K.lookup f28 = some ⟨oc28, od28, .func (PySem.W.fnOf "law" "law" (defArgs s_law) (defBody s_law) (defScope s_law) .none kV28 dc28 pm28 an28 cd28 ct28), sl28⟩) (c28 : PySem.W.codeIn K cd28 "law" = true) (k28 : PySem.W.keepIn K (.ref f28) = true)
    (z_abs : PySem.W.nsIn K mainGlobals "abs" = some none)
    (z_bool : PySem.W.nsIn K mainGlobals "bool" = some none)
    (z_int : PySem.W.nsIn K mainGlobals "int" = some none)
    (z_isinstance : PySem.W.nsIn K mainGlobals "isinstance" = some none)
    (z_len : PySem.W.nsIn K mainGlobals "len" = some none)
    (z_list : PySem.W.nsIn K mainGlobals "list" = some none)
    (z_range : PySem.W.nsIn K mainGlobals "range" = some none)
    (z_sorted : PySem.W.nsIn K mainGlobals "sorted" = some none)
    (z_str : PySem.W.nsIn K mainGlobals "str" = some none)
    (z_sum : PySem.W.nsIn K mainGlobals "sum" = some none)
    (z_tuple : PySem.W.nsIn K mainGlobals "tuple" = some none)
    (y_LETTERS : PySem.W.nsIn K mainGlobals "LETTERS" = some (some (.str "abc" tk_LETTERS)))
    : ∃ fd : FuncData, (∀ (s : Shared) (v : Value), BindsTo s fd ⟨[v], []⟩ [("script", v)]) ∧ ∀ base : Heap, K.In base → base.Ns mainGlobals mg → FnOk l.prog w K mg base CX0 7 fa fd ["script"] (spLaw K) := by
  have e := hfa.symm.trans (PySem.W.mg_of X G a28)
  cases e
  have T : Txt K mg := ⟨.mk' X G a0 l0 c0 k0 (fun _ _ _ _ _ _ us hl => match us, hl with | [_, _], _ => rfl),
    .mk' X G a1 l1 c1 k1 (fun _ _ _ _ _ _ us hl => match us, hl with | [_], _ => rfl),
    .mk' X G a2 l2 c2 k2 (fun _ _ _ _ _ _ us hl => match us, hl with | [_, _, _], _ => rfl),
    .mk' X G a3 l3 c3 k3 (fun _ _ _ _ _ _ us hl => match us, hl with | [_, _], _ => rfl),
    .mk' X G a4 l4 c4 k4 (fun _ _ _ _ _ _ us hl => match us, hl with | [_, _], _ => rfl),
    .mk' X G a5 l5 c5 k5 (fun _ _ _ _ _ _ us hl => match us, hl with | [_, _], _ => rfl),
    .mk' X G a6 l6 c6 k6 (fun _ _ _ _ _ _ us hl => match us, hl with | [_], _ => rfl),
    .mk' X G a7 l7 c7 k7 (fun _ _ _ _ _ _ us hl => match us, hl with | [_, _, _], _ => rfl),
    .mk' X G a8 l8 c8 k8 (fun _ _ _ _ _ _ us hl => match us, hl with | [_, _], _ => rfl),
    .mk' X G a9 l9 c9 k9 (fun _ _ _ _ _ _ us hl => match us, hl with | [_, _, _], _ => rfl),
    .mk' X G a10 l10 c10 k10 (fun _ _ _ _ _ _ us hl => match us, hl with | [_, _], _ => rfl),
    .mk' X G a11 l11 c11 k11 (fun _ _ _ _ _ _ us hl => match us, hl with | [_, _, _, _], _ => rfl),
    .mk' X G a12 l12 c12 k12 (fun _ _ _ _ _ _ us hl => match us, hl with | [_, _, _, _], _ => rfl),
    .mk' X G a13 l13 c13 k13 (fun _ _ _ _ _ _ us hl => match us, hl with | [_, _, _], _ => rfl),
    .mk' X G a14 l14 c14 k14 (fun _ _ _ _ _ _ us hl => match us, hl with | [_, _, _], _ => rfl),
    .mk' X G a15 l15 c15 k15 (fun _ _ _ _ _ _ us hl => match us, hl with | [_, _], _ => rfl),
    .mk' X G a16 l16 c16 k16 (fun _ _ _ _ _ _ us hl => match us, hl with | [_, _], _ => rfl),
    .mk' X G a17 l17 c17 k17 (fun _ _ _ _ _ _ us hl => match us, hl with | [_, _, _, _], _ => rfl),
    .mk' X G a18 l18 c18 k18 (fun _ _ _ _ _ _ us hl => match us, hl with | [_, _, _, _], _ => rfl),
    .mk' X G a19 l19 c19 k19 (fun _ _ _ _ _ _ us hl => match us, hl with | [_, _, _], _ => rfl),
    .mk' X G a20 l20 c20 k20 (fun _ _ _ _ _ _ us hl => match us, hl with | [_], _ => rfl),
    .mk' X G a21 l21 c21 k21 (fun _ _ _ _ _ _ us hl => match us, hl with | [_, _], _ => rfl),
    .mk' X G a22 l22 c22 k22 (fun _ _ _ _ _ _ us hl => match us, hl with | [_, _, _], _ => rfl),
    .mk' X G a23 l23 c23 k23 (fun _ _ _ _ _ _ us hl => match us, hl with | [_, _, _, _], _ => rfl),
    .mk' X G a24 l24 c24 k24 (fun _ _ _ _ _ _ us hl => match us, hl with | [_, _, _, _], _ => rfl),
    .mk' X G a25 l25 c25 k25 (fun _ _ _ _ _ _ us hl => match us, hl with | [_, _, _, _], _ => rfl),
    .mk' X G a26 l26 c26 k26 (fun _ _ _ _ _ _ us hl => match us, hl with | [_, _, _], _ => rfl),
    .mk' X G a27 l27 c27 k27 (fun _ _ _ _ _ _ us hl => match us, hl with | [_, _], _ => rfl),
    .mk' X G a28 l28 c28 k28 (fun _ _ _ _ _ _ us hl => match us, hl with | [_], _ => rfl),
    PySem.W.mg_none_of X G z_abs,
    PySem.W.mg_none_of X G z_bool,
    PySem.W.mg_none_of X G z_int,
    PySem.W.mg_none_of X G z_isinstance,
    PySem.W.mg_none_of X G z_len,
    PySem.W.mg_none_of X G z_list,
    PySem.W.mg_none_of X G z_range,
    PySem.W.mg_none_of X G z_sorted,
    PySem.W.mg_none_of X G z_str,
    PySem.W.mg_none_of X G z_sum,
    PySem.W.mg_none_of X G z_tuple,
    ⟨_, PySem.W.mg_of X G y_LETTERS⟩⟩
  exact ⟨_, fun s v => .of_eq rfl, fun base _ _ => law_imp (ok_law T (fun_mk (st := s_law) l28 c28 k28)) hT⟩
theorem walk {l : PySem.W.OpenLaw} {q : Program} {loose : List Str} {XP : (Str → Option Value) → Heap → Prop} {YP : World → Heap → Prop} {d : DefRec} {K : Params → PySem.W.Frag} (hn : l.most = some 63) (hdf : d.params.defaults = [])
    (hY : ∀ (w : World) (h : Heap), YP w h → (K w.params).In h)
    (F : ∀ (w : World) (mg : Str → Option Value) (fa : Addr) (h : Heap), (K w.params).In h → h.Ns mainGlobals mg → mg d.name = some (.ref fa) →
      ∃ fd : FuncData, (∀ (s : Shared) (u : Value), BindsTo s fd ⟨[u], []⟩ [("script", u)]) ∧ ∀ base : Heap, (K w.params).In base → base.Ns mainGlobals mg → FnOk l.prog w (K w.params) mg base CX0 7 fa fd ["script"] (spLaw (K w.params))) :
    PySem.W.WalkO q loose XP YP l.row.toRowW d [] (fun f vs => PySem.call f vs) :=
  L2.walk_of (n := 63) (k := 7) (x := "script") (CX := fun _ => CX0) (sp := fun w => spLaw (K w.params)) hn (by decide) hdf ⟨rfl, by decide, by decide⟩ hY F (fun _ _ a ns hl _ hS => ⟨a, ns, rfl, hS, hl, fun _ => rfl⟩) fun _ _ _ _ _ z => z
end G80
end

set_option Elab.async false
set_option linter.all false
set_option maxRecDepth 100000
set_option maxHeartbeats 4000000
/-! H80: steps of bonds, judged by the program and by the law. -/
namespace G80
open PySem L2 DV LC MM LM LS
inductive GS
  | lt (i : Int)
  | st (a b c a' b' c' : Str)
abbrev T3 (a b c : Str) : D := .tuple [.str a, .str b, .str c]
def GS.enc : GS → D
  | .lt i => .tuple [.str "letter", .int i]
  | .st a b c a' b' c' => .tuple [.str "set", T3 a b c, T3 a' b' c']
abbrev cs (x : Str) : List Nat := x.cps.toList
def ltr (L : Nat) : List Nat := (List.range L).map (· + 97)
def isw (L : Nat) (x : Str) : Bool := (cs x).all fun c => decide (c ∈ ltr L)
def hs (i : Nat) (x : Str) : Bool := decide (i + 97 ∈ cs x)
def mk (a b c : Bool) : Nat := (if a then 1 else 0) + (if b then 2 else 0) + (if c then 4 else 0)
def mask (x : Str) : Nat := mk (hs 0 x) (hs 1 x) (hs 2 x)
abbrev one (c : Nat) : D := .str ⟨#[c]⟩
theorem items_str (x : Str) : itemsD (.str x) = some ((cs x).map one) := rfl
theorem in_one (c : Nat) (y : Str) : inB (one c) (.str y) = some (decide (c ∈ cs y)) := rfl
theorem nin_one (c : Nat) (y : Str) : ninD (one c) (.str y) = some (.bool (!decide (c ∈ cs y))) := rfl
theorem in_one' (c : Nat) (y : Str) : inD (one c) (.str y) = some (.bool (decide (c ∈ cs y))) := rfl
theorem dW_one (c : Nat) : dW [c] = one (c + 97) := rfl
theorem len_str {x : Str} (h : x.length ≤ 1000) : lenF [.str x] = some (dN x.length) := by
  simp only [lenF, lenS]
  rw [if_pos (by rw [sizeLine_eq]; omega)]
section
variable {L : Nat} {x : Str}
theorem is_word_eq (hL : L ≤ 3) : F_is_word [dN L, .str x] = some (.bool (isw L x)) := by
  rw [F_is_word, callF_2, b_is_word]
  obtain ⟨ρ, ⟨o, rfl⟩, e⟩ := for_check (i := 2) (s := L1_is_word) one (fun c => decide (c ∈ ltr L)) (.bool false) (fun ρ => ∃ o, ρ = [some (.shr (dN L)), some (.shr (.str x)), o]) (cs x) (fun c _ ρ ⟨o, hr⟩ => by
    subst hr
    have hn := nin_one c (wd (List.range L))
    rw [show cs (wd (List.range L)) = ltr L from wd_cps _] at hn
    refine ⟨[some (.shr (dN L)), some (.shr (.str x)), some (.shr (one c))], ⟨_, rfl⟩, ?_⟩
    cases hp : decide (c ∈ ltr L) with
    | true =>
      rw [hp] at hn
      simp only [L1_is_word, dv, abc_wd, abc_sl hL, hn, if_true]
    | false =>
      rw [hp] at hn
      simp only [L1_is_word, dv, abc_wd, abc_sl hL, hn, if_false, Bool.false_eq_true]) (ρ := [some (.shr (dN L)), some (.shr (.str x)), none]) ⟨_, rfl⟩
  simp only [dv, dv0, items_str, e]
  unfold isw
  cases (cs x).all fun c => decide (c ∈ ltr L) <;> simp only [dv, if_true, if_false, Bool.false_eq_true]
theorem mask_eq : F_mask_of_word [.str x] = some (dN (mask x)) := by
  rw [F_mask_of_word, callF_1, b_mask_of_word]
  have r1 := rng1_n (count := 3) (by decide)
  have l3 := len_wd (l := [0, 1, 2]) (by decide)
  have lc : lcL (gN 1) (toT (o2 inD (o2 ixD (eC (dW [0, 1, 2])) (eW 1)) (eW 0))) (o2 shlD (eC (.int 1)) (eW 1)) [some (.shr (.str x)), none] ([0, 1, 2].map dN) = some ((([0, 1, 2] : List Nat).filter fun i => hs i x).map fun i => dN (2 ^ i)) :=
    lcL_filter dN (fun i => hs i x) (fun i => dN (2 ^ i)) [0, 1, 2] (fun i hi => by
      have h3 : i < 3 := by simp at hi; omega
      have e := in_one' (i + 97) x
      rw [← dW_one] at e
      simp only [dv, abc_ix h3, e]
      rfl) (fun i hi _ => by
      have h3 : i < 3 := by simp at hi; omega
      have e : shlD (.int 1) (dN i) = some (dN (2 ^ i)) := by
        simp only [shlD]
        rw [if_pos ⟨by omega, by omega, by decide⟩, Int.toNat_natCast]
        congr 2
        simp
      simp only [dv, e])
  have l3' : lenF [dW [0, 1, 2]] = some (dN 3) := l3
  have r1' : rng1 [dN 3] = some ([0, 1, 2].map dN) := r1
  simp only [dv, dv0, abc_wd] at *
  simp only [l3', r1', dv] at *
  rw [lcO_s (by decide), lc]
  unfold mask
  simp only [List.filter_cons, List.filter_nil]
  cases hs 0 x <;> cases hs 1 x <;> cases hs 2 x <;> rfl
/-- one word of a triple -/
def okp (L M : Nat) (x : Str) : Bool := isw L x && decide (Builtin.bitAnd (mask x : Int) (Builtin.bitNot (M : Int)) = 0)
def tri (L M : Nat) (a b c : Str) : Bool := ([a, b, c].all (okp L M)) && decide (mask b = M)
theorem is_triple_eq {a b c : Str} {M : Nat} (hL : L ≤ 3) : F_is_triple [dN L, T3 a b c, dN M] = some (.bool (tri L M a b c)) := by
  rw [F_is_triple, callF_3, b_is_triple]
  obtain ⟨ρ, ⟨o, rfl⟩, e⟩ := for_check (i := 3) (s := L1_is_triple) PyData.str (okp L M) (.bool false) (fun ρ => ∃ o, ρ = [some (.shr (dN L)), some (.shr (T3 a b c)), some (.shr (dN M)), o]) [a, b, c] (fun x _ ρ ⟨o, hr⟩ => by
    subst hr
    have h1 := is_word_eq (x := x) hL
    have h2 := mask_eq (x := x)
    have h3 : invD (dN M) = some (.int (Builtin.bitNot (M : Int))) := rfl
    have h4 : andD (dN (mask x)) (.int (Builtin.bitNot (M : Int))) = some (.int (Builtin.bitAnd (mask x : Int) (Builtin.bitNot (M : Int)))) := rfl
    refine ⟨[some (.shr (dN L)), some (.shr (T3 a b c)), some (.shr (dN M)), some (.shr (.str x))], ⟨_, rfl⟩, ?_⟩
    unfold okp
    cases hw : isw L x with
    | false =>
      rw [hw] at h1
      simp only [L1_is_triple, dv, h1, if_false, Bool.false_eq_true, Bool.false_and]
    | true =>
      rw [hw] at h1
      cases hb : decide (Builtin.bitAnd (mask x : Int) (Builtin.bitNot (M : Int)) = 0) with
      | false => simp only [L1_is_triple, dv, h1, h2, h3, h4, hb, if_false, Bool.false_eq_true, Bool.and_false]
      | true => simp only [L1_is_triple, dv, h1, h2, h3, h4, hb, if_true, Bool.and_true]) (ρ := [some (.shr (dN L)), some (.shr (T3 a b c)), some (.shr (dN M)), none]) ⟨_, rfl⟩
  have it : itemsD (T3 a b c) = some ([a, b, c].map PyData.str) := rfl
  have h2 := mask_eq (x := b)
  have h3 : eqD (dN (mask b)) (dN M) = some (.bool (decide (mask b = M))) := by
    rw [eq_ii]
    congr 2
    exact decide_eq_decide.mpr (by omega)
  simp only [dv, dv0, it] at *
  rw [e]
  unfold tri
  cases [a, b, c].all (okp L M) <;> simp only [dv, h2, h3, if_true, if_false, Bool.false_eq_true, Bool.false_and, Bool.true_and]
def isS (L : Nat) : GS → Bool
  | .lt i => decide (0 ≤ i) && decide (i < (L : Int))
  | .st a b c a' b' c' => (!decide (mask b = 0)) && (tri L (mask b) a b c && tri L (mask b) a' b' c')
theorem isS_st {a b c a' b' c' : Str} : isS L (.st a b c a' b' c') = ((!decide (mask b = 0)) && (tri L (mask b) a b c && tri L (mask b) a' b' c')) := rfl
theorem is_step_eq (hL : L ≤ 3) (s : GS) : F_is_step [dN L, s.enc] = some (.bool (isS L s)) := by
  rw [F_is_step, callF_2, b_is_step]
  cases s with
  | lt i =>
    unfold isS
    cases h1 : decide (0 ≤ i) <;> simp only [GS.enc, dv, dv0, let_eq, h1, Bool.true_and, Bool.false_and]
  | st a b c a' b' c' =>
    have h2 := mask_eq (x := b)
    have h3 := is_triple_eq (L := L) (M := mask b) (a := a) (b := b) (c := c) hL
    have h4 := is_triple_eq (L := L) (M := mask b) (a := a') (b := b') (c := c') hL
    have h5 : neD (dN (mask b)) (.int 0) = some (.bool (!decide (mask b = 0))) := by
      rw [ne_ii]
      congr 3
      exact decide_eq_decide.mpr (by omega)
    rw [isS_st]
    cases e1 : decide (mask b = 0) <;> cases e2 : tri L (mask b) a b c <;> rw [e1] at h5 <;> rw [e2] at h3 <;> simp only [GS.enc, dv, dv0, set_ne, h2, h3, h4, h5, Bool.true_and, Bool.false_and]
/-! ### the law's judge -/
def okl (L : Nat) (b x : Str) : Bool := (cs x).all fun c => decide (c ∈ ltr L) && decide (c ∈ cs b)
def lets (x : Str) : List Nat := [0, 1, 2].filter fun i => hs i x
def okS (L : Nat) : GS → Bool
  | .lt i => decide (0 ≤ i) && decide (i < (L : Int))
  | .st a b c a' b' c' => [(a, b, c), (a', b', c')].all (fun t => [t.1, t.2.1, t.2.2].all (okl L t.2.1)) && (decide (0 < b.length) && decide (lets b = lets b'))
def GS.small : GS → Prop
  | .lt _ => True
  | .st a b c a' b' c' => ∀ x ∈ [a, b, c, a', b', c'], x.length ≤ 1000
theorem intsOf_dW {l : List Nat} {ls : List D} : intsOf (dW l :: ls) = none := rfl
theorem sort_lets {l : List Nat} (h : l.Pairwise (· < ·)) (hl : l.length ≤ 3) : sortedF [.list (l.map fun i => dW [i])] = some (.list (l.map fun i => dW [i])) := by
  cases l with
  | nil =>
    show some (PyData.list ((([] : List Int).mergeSort leI).map .int)) = _
    simp
  | cons a l =>
    have hp : ((a :: l).map fun i => wd [i]).Pairwise fun a b => leS a b = true := by
      rw [List.pairwise_map]
      refine h.imp fun {i j} hij => ?_
      rw [leS_no, wd_cps, wd_cps]
      simp only [List.map_cons, List.map_nil, List.cons_lt_cons_iff]
      omega
    have e : (a :: l).map (fun i => dW [i]) = ((a :: l).map fun i => [i]).map dW := by rw [List.map_map]; rfl
    have e2 : strsOf (((a :: l).map fun i => [i]).map dW) = some ((a :: l).map fun i => wd [i]) := by rw [strsOf_wd, List.map_map]; rfl
    show (match intsOf ((a :: l).map fun i => dW [i]) with
      | some ns => some (PyData.list ((ns.mergeSort leI).map .int))
      | none => (strsOf ((a :: l).map fun i => dW [i])).bind fun xs => if xs.length < 64 then some (PyData.list ((xs.mergeSort leS).map .str)) else none) = _
    rw [List.map_cons (f := fun i => dW [i]), intsOf_dW]
    show (strsOf ((a :: l).map fun i => dW [i])).bind (fun xs => if xs.length < 64 then some (PyData.list ((xs.mergeSort leS).map .str)) else none) = _
    rw [e, e2, Option.bind_some, if_pos (by simp at hl ⊢; omega), sortS_spec (List.Perm.refl _) hp, List.map_map]
    rfl
theorem lets_eq : F_law_letters_of [.str x] = some (.list ((lets x).map fun i => dW [i])) := by
  rw [F_law_letters_of, callF_1, b_law_letters_of]
  have lc : lcL (gN 1) (toT (o2 inD (eW 1) (eW 0))) (eV 1) [some (.shr (.str x)), none] ([0, 1, 2].map fun i => dW [i]) = some ((([0, 1, 2] : List Nat).filter fun i => hs i x).map fun i => dW [i]) :=
    lcL_filter (fun i => dW [i]) (fun i => hs i x) (fun i => dW [i]) [0, 1, 2] (fun i hi => by
      have e := in_one' (i + 97) x
      rw [← dW_one] at e
      simp only [dv, e]
      rfl) (fun i hi _ => by simp only [dv])
  have hp : (lets x).Pairwise (· < ·) := by
    unfold lets
    exact List.Pairwise.filter _ (by decide)
  have hl : (lets x).length ≤ 3 := by
    unfold lets
    exact Nat.le_trans (List.length_filter_le _ _) (by decide)
  have it : itemsD (dW [0, 1, 2]) = some ([0, 1, 2].map fun i => dW [i]) := items_wd _
  have so := sort_lets hp hl
  rw [List.map_cons, List.map_cons, List.map_cons, List.map_nil] at lc
  simp only [dv, dv0, abc_wd, it]
  rw [lcO_s (by decide), lc]
  simp only [dv]
  show endF (rtO (sortedF [.list ((lets x).map fun i => dW [i])])) = _
  rw [so]
  simp only [dv]
/-- one word, by the law -/
theorem bad_eq {a b c x : Str} {a1 : Option Sl} (hL : L ≤ 3) (hx : x.length ≤ 1000) : L1_law_step_ok [some (.shr (dN L)), a1, some (.shr (T3 a b c)), some (.shr (.str x)), none] = if okl L b x = true then some (.nx [some (.shr (dN L)), a1, some (.shr (T3 a b c)), some (.shr (.str x)), none]) else some (.rt (.bool false)) := by
  have lc : lcL (gN 4) (tOrF (toT (o2 ninD (eW 4) (eSl (eC (.str "abc")) pN (pS (eV 0))))) (toT (o2 ninD (eW 4) (o2 ixD (eW 2) (eC (.int 1)))))) (eV 4) [some (.shr (dN L)), a1, some (.shr (T3 a b c)), some (.shr (.str x)), none] ((cs x).map one) = some (((cs x).filter fun d => !(decide (d ∈ ltr L) && decide (d ∈ cs b))).map one) :=
    lcL_filter one (fun d => !(decide (d ∈ ltr L) && decide (d ∈ cs b))) one (cs x) (fun d _ => by
      have hn := nin_one d (wd (List.range L))
      rw [show cs (wd (List.range L)) = ltr L from wd_cps _] at hn
      have hm := nin_one d b
      cases e : decide (d ∈ ltr L) <;> rw [e] at hn <;> simp only [dv, abc_wd, abc_sl hL, hn, hm, Bool.true_and, Bool.false_and]) (fun d _ _ => by simp only [dv])
  have hz : (cs x).length ≤ 1000 := by
    have : (cs x).length = x.length := by simp [Str.length]
    omega
  have l0 : ∀ l : List Nat, gtD (.int ((l.map one).length : Int)) (.int 0) = some (.bool (!l.isEmpty)) := fun l => by
    rw [gt_ii]
    congr 2
    cases l <;> simp
  have ie : ((cs x).filter fun d => !(decide (d ∈ ltr L) && decide (d ∈ cs b))).isEmpty = okl L b x := by
    unfold okl
    rw [Bool.eq_iff_iff, List.isEmpty_iff, List.filter_eq_nil_iff, List.all_eq_true]
    simp
  simp only [L1_law_step_ok, dv, items_str]
  rw [lcO_s (by rw [List.length_map]; omega), lc]
  simp only [dv, l0, ie]
  cases okl L b x <;> simp only [dv, if_true, if_false, Bool.false_eq_true]
theorem law_step_eq (hL : L ≤ 3) (s : GS) (hs : s.small) : F_law_step_ok [dN L, s.enc] = some (.bool (okS L s)) := by
  rw [F_law_step_ok, callF_2, b_law_step_ok]
  cases s with
  | lt i =>
    unfold okS
    cases h1 : decide (0 ≤ i) <;> simp only [GS.enc, dv, dv0, let_eq, h1, Bool.true_and, Bool.false_and]
  | st a b c a' b' c' =>
    have inner : ∀ (t : Str × Str × Str) (o3 : Option Sl), t ∈ [(a, b, c), (a', b', c')] → ∃ o3', L2_law_step_ok [some (.shr (dN L)), some (.shr (GS.st a b c a' b' c').enc), some (.shr (T3 t.1 t.2.1 t.2.2)), o3, none] =
        if [t.1, t.2.1, t.2.2].all (okl L t.2.1) = true then some (.nx [some (.shr (dN L)), some (.shr (GS.st a b c a' b' c').enc), some (.shr (T3 t.1 t.2.1 t.2.2)), o3', none]) else some (.rt (.bool false)) := fun t o3 ht => by
      obtain ⟨ρ, ⟨o, rfl⟩, e⟩ := for_check (i := 3) (s := L1_law_step_ok) PyData.str (okl L t.2.1) (.bool false) (fun ρ => ∃ o, ρ = [some (.shr (dN L)), some (.shr (GS.st a b c a' b' c').enc), some (.shr (T3 t.1 t.2.1 t.2.2)), o, none]) [t.1, t.2.1, t.2.2] (fun x hx ρ ⟨o, hr⟩ => by
        subst hr
        refine ⟨_, ⟨_, rfl⟩, bad_eq hL ?_⟩
        have hs : ∀ x ∈ [a, b, c, a', b', c'], x.length ≤ 1000 := hs
        simp only [List.mem_cons, List.not_mem_nil, or_false] at ht
        rcases ht with rfl | rfl
        · refine hs x ?_
          simp only [List.mem_cons, List.not_mem_nil, or_false] at hx ⊢
          rcases hx with h | h | h
          · exact .inl h
          · exact .inr (.inl h)
          · exact .inr (.inr (.inl h))
        · refine hs x ?_
          simp only [List.mem_cons, List.not_mem_nil, or_false] at hx ⊢
          rcases hx with h | h | h
          · exact .inr (.inr (.inr (.inl h)))
          · exact .inr (.inr (.inr (.inr (.inl h))))
          · exact .inr (.inr (.inr (.inr (.inr h))))) (ρ := [some (.shr (dN L)), some (.shr (GS.st a b c a' b' c').enc), some (.shr (T3 t.1 t.2.1 t.2.2)), o3, none]) ⟨_, rfl⟩
      refine ⟨o, ?_⟩
      have it : itemsD (T3 t.1 t.2.1 t.2.2) = some ([t.1, t.2.1, t.2.2].map PyData.str) := rfl
      simp only [L2_law_step_ok, dv, it] at *
      exact e
    obtain ⟨ρ, ⟨o, o3, rfl⟩, e⟩ := for_check (i := 2) (s := L2_law_step_ok) (fun t : Str × Str × Str => T3 t.1 t.2.1 t.2.2) (fun t => [t.1, t.2.1, t.2.2].all (okl L t.2.1)) (.bool false) (fun ρ => ∃ o o3, ρ = [some (.shr (dN L)), some (.shr (GS.st a b c a' b' c').enc), o, o3, none]) [(a, b, c), (a', b', c')] (fun t ht ρ ⟨o, o3, hr⟩ => by
      subst hr
      obtain ⟨o3', e⟩ := inner t o3 ht
      exact ⟨_, ⟨_, _, rfl⟩, e⟩) (ρ := [some (.shr (dN L)), some (.shr (GS.st a b c a' b' c').enc), none, none, none]) ⟨_, _, rfl⟩
    have sl : slD (GS.st a b c a' b' c').enc (some 1) none = some (.tuple ([(a, b, c), (a', b', c')].map fun t : Str × Str × Str => T3 t.1 t.2.1 t.2.2)) := rfl
    have it : itemsD (.tuple ([(a, b, c), (a', b', c')].map fun t : Str × Str × Str => T3 t.1 t.2.1 t.2.2)) = some ([(a, b, c), (a', b', c')].map fun t : Str × Str × Str => T3 t.1 t.2.1 t.2.2) := rfl
    have e0 : ixD (GS.st a b c a' b' c').enc (.int 0) = some (.str "set") := ix_t0
    have e1 : ixD (GS.st a b c a' b' c').enc (.int 1) = some (T3 a b c) := ix_t1
    have e2 : ixD (GS.st a b c a' b' c').enc (.int 2) = some (T3 a' b' c') := ix_t2
    have hb : b.length ≤ 1000 := hs b (by simp)
    have l1 := len_str hb
    have l2 : gtD (dN b.length) (.int 0) = some (.bool (decide (0 < b.length))) := by
      rw [gt_ii]
      congr 2
      exact decide_eq_decide.mpr (by omega)
    have nl : ∀ y : Str, nice 1 (.list ((lets y).map fun i => dW [i])) := fun y d hd => by
      obtain ⟨i, hi, rfl⟩ := List.mem_map.mp hd
      refine nice_wd fun c hc => ?_
      have := (List.mem_filter.mp hi).1
      simp at this hc
      omega
    have eq : eqD (.list ((lets b).map fun i => dW [i])) (.list ((lets b').map fun i => dW [i])) = some (.bool (decide (lets b = lets b'))) := by
      refine eqD_nice (nl b) (nl b') (by decide) ?_
      rw [decide_eq_true_iff]
      constructor
      · intro h; rw [h]
      · intro h
        have h2 : (lets b).map (fun i => dW [i]) = (lets b').map (fun i => dW [i]) := by simpa using h
        exact (List.map_inj_right fun x y hxy => by
          have : wd [x] = wd [y] := by simpa using hxy
          simpa using wd_inj this).mp h2
    rw [List.map_cons, List.map_cons, List.map_nil] at sl it e
    simp only [dv, dv0, e0, set_ne, sl, it, e]
    show endF (thenS (if [(a, b, c), (a', b', c')].all (fun t => [t.1, t.2.1, t.2.2].all (okl L t.2.1)) = true then _ else _) _) = some (.bool ([(a, b, c), (a', b', c')].all (fun t => [t.1, t.2.1, t.2.2].all (okl L t.2.1)) && (decide (0 < b.length) && decide (lets b = lets b'))))
    cases hA : [(a, b, c), (a', b', c')].all (fun t => [t.1, t.2.1, t.2.2].all (okl L t.2.1)) with
    | false => simp only [dv, if_false, Bool.false_eq_true, Bool.false_and]
    | true =>
      cases hB : decide (0 < b.length) <;> rw [hB] at l2 <;> simp only [dv, if_true, e1, e2, l1, l2, lets_eq, eq, Bool.true_and, Bool.false_and]
end
end G80

set_option Elab.async false
set_option linter.all false
set_option maxRecDepth 100000
set_option maxHeartbeats 4000000
/-! I80: both judges of a step agree; a step that is one, in letters. -/
namespace G80
open PySem L2 DV LC MM LM LS
section
variable {L : Nat} {x b : Str}
theorem hs_iff {i : Nat} : hs i x = true ↔ i + 97 ∈ cs x := by simp [hs]
def letsB (a b c : Bool) : List Nat := (if a then [0] else []) ++ ((if b then [1] else []) ++ (if c then [2] else []))
theorem lets_B : lets x = letsB (hs 0 x) (hs 1 x) (hs 2 x) := by
  unfold lets letsB
  simp only [List.filter_cons, List.filter_nil]
  cases hs 0 x <;> cases hs 1 x <;> cases hs 2 x <;> rfl
theorem letsB_iff : ∀ a b c a' b' c' : Bool, (letsB a b c = letsB a' b' c') ↔ (mk a b c = mk a' b' c') := by decide
theorem lets_iff {y : Str} : lets x = lets y ↔ mask x = mask y := by rw [lets_B, lets_B]; exact letsB_iff ..
theorem sub_B : ∀ a b c a' b' c' : Bool, (Builtin.bitAnd (mk a b c : Int) (Builtin.bitNot (mk a' b' c' : Int)) = 0) ↔ ((a = true → a' = true) ∧ (b = true → b' = true) ∧ (c = true → c' = true)) := by decide +kernel
theorem mk_zero : ∀ a b c : Bool, (mk a b c = 0) ↔ (a = false ∧ b = false ∧ c = false) := by decide
theorem isw_iff : isw L x = true ↔ ∀ c ∈ cs x, ∃ i, i < L ∧ c = i + 97 := by
  unfold isw ltr
  rw [List.all_eq_true]
  constructor
  · intro h c hc
    have := of_decide_eq_true (h c hc)
    obtain ⟨i, hi, e⟩ := List.mem_map.mp this
    exact ⟨i, List.mem_range.mp hi, e.symm⟩
  · intro h c hc
    obtain ⟨i, hi, e⟩ := h c hc
    exact decide_eq_true (List.mem_map.mpr ⟨i, List.mem_range.mpr hi, e.symm⟩)
theorem sub_iff (hL : L ≤ 3) (hx : isw L x = true) : Builtin.bitAnd (mask x : Int) (Builtin.bitNot (mask b : Int)) = 0 ↔ ∀ c ∈ cs x, c ∈ cs b := by
  unfold mask
  rw [sub_B, hs_iff, hs_iff, hs_iff, hs_iff, hs_iff, hs_iff]
  constructor
  · rintro ⟨h0, h1, h2⟩ c hc
    obtain ⟨i, hi, rfl⟩ := isw_iff.mp hx c hc
    have : i = 0 ∨ i = 1 ∨ i = 2 := by omega
    rcases this with rfl | rfl | rfl
    · exact h0 hc
    · exact h1 hc
    · exact h2 hc
  · exact fun h => ⟨h _, h _, h _⟩
theorem okp_iff (hL : L ≤ 3) : okp L (mask b) x = true ↔ okl L b x = true := by
  have e : okl L b x = true ↔ isw L x = true ∧ ∀ c ∈ cs x, c ∈ cs b := by
    unfold okl isw
    rw [List.all_eq_true, List.all_eq_true]
    constructor
    · intro h
      exact ⟨fun c hc => ((Bool.and_eq_true _ _).mp (h c hc)).1, fun c hc => of_decide_eq_true ((Bool.and_eq_true _ _).mp (h c hc)).2⟩
    · rintro ⟨h1, h2⟩ c hc
      rw [h1 c hc, decide_eq_true (h2 c hc)]
      rfl
  rw [e]
  unfold okp
  rw [Bool.and_eq_true, decide_eq_true_iff]
  constructor
  · rintro ⟨h1, h2⟩
    exact ⟨h1, (sub_iff hL h1).mp h2⟩
  · rintro ⟨h1, h2⟩
    exact ⟨h1, (sub_iff hL h1).mpr h2⟩
theorem len_cs : b.length = (cs b).length := by simp [Str.length]
theorem mask_zero (hL : L ≤ 3) (hb : isw L b = true) : mask b = 0 ↔ ¬ 0 < b.length := by
  unfold mask
  rw [mk_zero, len_cs]
  constructor
  · rintro ⟨h0, h1, h2⟩ hl
    obtain ⟨c, hc⟩ := List.exists_mem_of_length_pos hl
    obtain ⟨i, hi, rfl⟩ := isw_iff.mp hb c hc
    have : i = 0 ∨ i = 1 ∨ i = 2 := by omega
    rcases this with rfl | rfl | rfl
    · rw [hs_iff.mpr hc] at h0; cases h0
    · rw [hs_iff.mpr hc] at h1; cases h1
    · rw [hs_iff.mpr hc] at h2; cases h2
  · intro h
    have e : cs b = [] := List.eq_nil_of_length_eq_zero (by omega)
    unfold hs
    rw [e]
    simp
theorem okl_isw (h : okl L b x = true) : isw L x = true := by
  unfold okl at h
  unfold isw
  rw [List.all_eq_true] at h ⊢
  exact fun c hc => ((Bool.and_eq_true _ _).mp (h c hc)).1
theorem both (hL : L ≤ 3) (s : GS) : isS L s = okS L s := by
  cases s with
  | lt i => rfl
  | st a b c a' b' c' =>
    have e : okS L (.st a b c a' b' c') = ([(a, b, c), (a', b', c')].all (fun t => [t.1, t.2.1, t.2.2].all (okl L t.2.1)) && (decide (0 < b.length) && decide (lets b = lets b'))) := rfl
    rw [isS_st, e, Bool.eq_iff_iff]
    unfold tri
    simp only [List.all_cons, List.all_nil, Bool.and_true, Bool.and_eq_true, Bool.not_eq_true', decide_eq_true_iff, decide_eq_false_iff_not, lets_iff, okp_iff hL]
    constructor
    · rintro ⟨h0, ⟨⟨h1, h2, h3⟩, _⟩, ⟨h4, h5, h6⟩, h7⟩
      rw [← okp_iff hL, ← h7, okp_iff hL] at h4 h5 h6
      refine ⟨⟨⟨h1, h2, h3⟩, h4, h5, h6⟩, ?_, h7.symm⟩
      exact Classical.not_not.mp fun z => h0 ((mask_zero hL (okl_isw h2)).mpr z)
    · rintro ⟨⟨⟨h1, h2, h3⟩, h4, h5, h6⟩, h7, h8⟩
      refine ⟨fun z => (mask_zero hL (okl_isw h2)).mp z h7, ⟨⟨h1, h2, h3⟩, trivial⟩, ?_, h8.symm⟩
      rw [← okp_iff hL, ← h8, okp_iff hL] at h4 h5 h6
      exact ⟨h4, h5, h6⟩
/-! ### steps in letters -/
theorem str_wd (h : isw L x = true) : ∃ w, x = wd w ∧ okw L w := by
  refine ⟨(cs x).map (· - 97), ?_, fun c hc => ?_⟩
  · apply cps_inj
    rw [wd_cps, List.map_map]
    symm
    refine (List.map_congr_left fun c hc => ?_).trans (List.map_id _)
    obtain ⟨i, hi, rfl⟩ := isw_iff.mp h c hc
    simp
  · obtain ⟨d, hd, rfl⟩ := List.mem_map.mp hc
    obtain ⟨i, hi, rfl⟩ := isw_iff.mp h d hd
    simpa using hi
def good2 (L : Nat) : Stp → Prop
  | .lt i => i < L
  | .st a b c a' b' c' => okw L a ∧ okw L b ∧ okw L c ∧ okw L a' ∧ okw L b' ∧ okw L c'
theorem ok_stp {s : GS} (h : okS L s = true) : ∃ t : Stp, s.enc = t.enc ∧ good2 L t := by
  cases s with
  | lt i =>
    have e : okS L (.lt i) = (decide (0 ≤ i) && decide (i < (L : Int))) := rfl
    rw [e, Bool.and_eq_true, decide_eq_true_iff, decide_eq_true_iff] at h
    obtain ⟨j, rfl⟩ := Int.eq_ofNat_of_zero_le h.1
    exact ⟨.lt j, rfl, show j < L by omega⟩
  | st a b c a' b' c' =>
    have e : okS L (.st a b c a' b' c') = ([(a, b, c), (a', b', c')].all (fun t => [t.1, t.2.1, t.2.2].all (okl L t.2.1)) && (decide (0 < b.length) && decide (lets b = lets b'))) := rfl
    rw [e] at h
    simp only [List.all_cons, List.all_nil, Bool.and_true, Bool.and_eq_true] at h
    obtain ⟨⟨⟨h1, h2, h3⟩, h4, h5, h6⟩, _⟩ := h
    obtain ⟨w1, rfl, g1⟩ := str_wd (okl_isw h1)
    obtain ⟨w2, rfl, g2⟩ := str_wd (okl_isw h2)
    obtain ⟨w3, rfl, g3⟩ := str_wd (okl_isw h3)
    obtain ⟨w4, rfl, g4⟩ := str_wd (okl_isw h4)
    obtain ⟨w5, rfl, g5⟩ := str_wd (okl_isw h5)
    obtain ⟨w6, rfl, g6⟩ := str_wd (okl_isw h6)
    exact ⟨.st w1 w2 w3 w4 w5 w6, rfl, g1, g2, g3, g4, g5, g6⟩
end
end G80

set_option Elab.async false
set_option linter.all false
set_option maxRecDepth 100000
set_option maxHeartbeats 4000000
/-! J80: where the words of a bond lead. -/
namespace G80
open PySem L2 DV LC MM LM LS
def Stp.b (sd : Bool) : Stp → Option (List Nat)
  | .lt _ => none
  | .st _ b _ _ b' _ => some (if sd then b else b')
def ends (m : Mc) (sd : Bool) : List Stp → List (List Nat) → Nat → Nat
  | [], _, q => q
  | .lt i :: ss, ps, q => ends m sd ss ps (m.to q i)
  | .st a _ c a' _ c' :: ss, ps, q => ends m sd ss ps.tail (m.run ((ps.headD []).getD (m.run q (if sd then a else a')) 0) (if sd then c else c'))
def loops (m : Mc) (sd : Bool) (ss : List Stp) : List (List Nat) := (ss.filterMap (Stp.b sd)).map m.deed
def pws (ds : List (List Nat)) (c : Nat) : List (List Nat) := ds.map fun d => pw d c
def sdD (sd : Bool) : D := .int (if sd then 1 else 2)
def P (m : Mc) (sd : Bool) (ss : List Stp) (c : Nat) : List (List Nat) := pws (loops m sd ss) c
def encP (ps : List (List Nat)) : D := .tuple (ps.map eR)
/-- rows that may be powers -/
def PsOk (m : Mc) (ps : List (List Nat)) : Prop := ∀ p ∈ ps, p.length = m.n ∧ ∀ x ∈ p, x < m.n
section
variable {m : Mc} {sd : Bool} {ss : List Stp} {ps : List (List Nat)}
theorem ix_side {a b c a' b' c' : List Nat} : ixD (Stp.st a b c a' b' c').enc (sdD sd) = some (encT (if sd then a else a') (if sd then b else b') (if sd then c else c')) := by
  cases sd
  · exact ix_t2
  · exact ix_t1
theorem ix_encP {k : Nat} {p : List Nat} (h : ps[k]? = some p) : ixD (encP ps) (dN k) = some (eR p) := ix_t (by rw [List.getElem?_map, h]; rfl)
theorem ix_eR {p : List Nat} {q : Nat} (h : q < p.length) : ixD (eR p) (dN q) = some (dN (p.getD q 0)) := ix_nums (by rw [List.getD_eq_getElem?_getD, List.getElem?_eq_getElem h]; rfl)
theorem ix_eL {p : List Nat} {q : Nat} (h : q < p.length) : ixD (.list (p.map dN)) (dN q) = some (dN (p.getD q 0)) := ix_numsL (by rw [List.getD_eq_getElem?_getD, List.getElem?_eq_getElem h]; rfl)
theorem getD_lt {p : List Nat} {q n : Nat} (h : q < p.length) (hp : ∀ x ∈ p, x < n) : p.getD q 0 < n := by
  rw [List.getD_eq_getElem?_getD, List.getElem?_eq_getElem h]
  exact hp _ (List.getElem_mem h)
/-- what holds between the turns -/
structure Mid (m : Mc) (sd : Bool) (ss : List Stp) (ps : List (List Nat)) (p : List Stp) (q k : Nat) : Prop where
  lt : q < m.n
  go : ∀ r, ss = p ++ r → ends m sd r (ps.drop k) q = ends m sd ss ps 0 ∧ k + (r.filterMap (Stp.b sd)).length = ps.length
theorem Mid.start (h : m.Ok) (hl : (ss.filterMap (Stp.b sd)).length = ps.length) : Mid m sd ss ps [] 0 0 := ⟨h.pos, fun r hr => by
  simp only [List.nil_append] at hr
  subst hr
  exact ⟨rfl, by omega⟩⟩
theorem Mid.end {q k : Nat} (M : Mid m sd ss ps ss q k) : q = ends m sd ss ps 0 := (M.go [] (by simp)).1
theorem Mid.lt_step {p r : List Stp} {i q k : Nat} (h : m.Ok) (hs : ss = p ++ .lt i :: r) (hi : i < m.L) (M : Mid m sd ss ps p q k) : Mid m sd ss ps (p ++ [.lt i]) (m.to q i) k := ⟨h.to_lt M.lt hi, fun r' hr => by
  have e : p ++ [Stp.lt i] ++ r' = p ++ (.lt i :: r') := by simp
  exact M.go (.lt i :: r') (by rw [hr, e])⟩
theorem fm_st {r : List Stp} {a b c a' b' c' : List Nat} : List.filterMap (Stp.b sd) (.st a b c a' b' c' :: r) = (if sd then b else b') :: List.filterMap (Stp.b sd) r := rfl
theorem Mid.st_at {p r : List Stp} {a b c a' b' c' : List Nat} {q k : Nat} (hs : ss = p ++ .st a b c a' b' c' :: r) (M : Mid m sd ss ps p q k) : ∃ x, ps[k]? = some x ∧ x ∈ ps := by
  have h2 := (M.go _ hs).2
  have h3 : (List.filterMap (Stp.b sd) (.st a b c a' b' c' :: r)).length = (List.filterMap (Stp.b sd) r).length + 1 := by
    rw [fm_st, List.length_cons]
  rw [h3] at h2
  have hk : k < ps.length := by omega
  exact ⟨ps[k], List.getElem?_eq_getElem hk, List.getElem_mem hk⟩
theorem Mid.st_step {p r : List Stp} {a b c a' b' c' x : List Nat} {q k : Nat} (h : m.Ok) (hp : PsOk m ps) (hs : ss = p ++ .st a b c a' b' c' :: r) (hx : ps[k]? = some x) (ha : okw m.L (if sd then a else a')) (hc : okw m.L (if sd then c else c')) (M : Mid m sd ss ps p q k) :
    m.run q (if sd then a else a') < x.length ∧ x.getD (m.run q (if sd then a else a')) 0 < m.n ∧ Mid m sd ss ps (p ++ [.st a b c a' b' c']) (m.run (x.getD (m.run q (if sd then a else a')) 0) (if sd then c else c')) (k + 1) := by
  obtain ⟨h1, h2⟩ := hp x (List.mem_of_getElem? hx)
  have q1 := h.run_lt _ M.lt ha
  have q2 := getD_lt (by rw [h1]; exact q1) h2
  refine ⟨by rw [h1]; exact q1, q2, h.run_lt _ q2 hc, fun r' hr => ?_⟩
  have e : p ++ [Stp.st a b c a' b' c'] ++ r' = p ++ (.st a b c a' b' c' :: r') := by simp
  obtain ⟨g1, g2⟩ := M.go (.st a b c a' b' c' :: r') (by rw [hr, e])
  have hk : k < ps.length := (List.getElem?_eq_some_iff.mp hx).1
  have ed : ps.drop k = x :: ps.drop (k + 1) := by
    rw [List.drop_eq_getElem_cons hk]
    congr 1
    exact (List.getElem?_eq_some_iff.mp hx).2
  rw [ed] at g1
  refine ⟨g1, ?_⟩
  rw [fm_st, List.length_cons] at g2
  omega
theorem enc0 {s : Stp} : ixD s.enc (.int 0) = some (.str (match s with | .lt _ => "letter" | .st .. => "set")) := by cases s <;> exact ix_t0
theorem end_state_eq (h : m.Ok) (hg : ∀ s ∈ ss, good2 m.L s) (hp : PsOk m ps) (hl : (ss.filterMap (Stp.b sd)).length = ps.length) : F_end_state [eM m, .list (ss.map Stp.enc), sdD sd, encP ps] = some (dN (ends m sd ss ps 0)) := by
  rw [F_end_state, callF_4, b_end_state]
  obtain ⟨ρ, e, q, k, o, rfl, M⟩ := for_list (i := 6) (s := L1_end_state) Stp.enc ss (fun p ρ => ∃ q k o, ρ = [some (.shr (eM m)), some (.shr (.list (ss.map Stp.enc))), some (.shr (sdD sd)), some (.shr (encP ps)), some (.shr (dN q)), some (.shr (dN k)), o] ∧ Mid m sd ss ps p q k) (fun p s r ρ hs ⟨q, k, o, hr, M⟩ => by
    subst hr
    have gs := hg s (by rw [hs]; simp)
    cases s with
    | lt i =>
      have c1 : ixD (Stp.lt i).enc (.int 1) = some (dN i) := ix_t1
      refine ⟨_, ?_, m.to q i, k, some (.shr (Stp.lt i).enc), rfl, M.lt_step h hs gs⟩
      simp only [L1_end_state, dv, enc0, let_eq, c1, ix_M1, ix_T h M.lt, ix_R h M.lt gs]
    | st a b c a' b' c' =>
      obtain ⟨g1, g2, g3, g4, g5, g6⟩ := gs
      obtain ⟨x, hx, _⟩ := M.st_at hs
      have ha : okw m.L (if sd then a else a') := by cases sd <;> assumption
      have hc : okw m.L (if sd then c else c') := by cases sd <;> assumption
      obtain ⟨q1, q2, M'⟩ := M.st_step h hp hs hx ha hc
      have e1 := state_behind_eq h M.lt ha
      have e2 := state_behind_eq h q2 hc
      refine ⟨_, ?_, _, k + 1, some (.shr (Stp.st a b c a' b' c').enc), rfl, M'⟩
      simp only [L1_end_state, dv, enc0, set_ne, ix_side, ix_encP hx, ix_eR q1, e1, e2]
      rfl) (ρ := [some (.shr (eM m)), some (.shr (.list (ss.map Stp.enc))), some (.shr (sdD sd)), some (.shr (encP ps)), some (.shr (.int 0)), some (.shr (.int 0)), none]) ⟨0, 0, _, rfl, Mid.start h hl⟩
  have it : itemsD (.list (ss.map Stp.enc)) = some (ss.map Stp.enc) := rfl
  rw [M.end] at e
  simp only [dv, dv0, it, e]
theorem is_accepted_eq (h : m.Ok) (hg : ∀ s ∈ ss, good2 m.L s) (hp : PsOk m ps) (hl : (ss.filterMap (Stp.b sd)).length = ps.length) : F_is_accepted [eM m, .list (ss.map Stp.enc), sdD sd, encP ps] = some (.bool (decide (ends m sd ss ps 0 ∈ m.fin))) := by
  rw [F_is_accepted, callF_4, b_is_accepted]
  simp only [dv, dv0, end_state_eq h hg hp hl, is_final_eq]
end
end G80

set_option Elab.async false
set_option linter.all false
set_option maxRecDepth 100000
set_option maxHeartbeats 4000000
/-! K80: the law's run of the words of a bond. -/
namespace G80
open PySem L2 DV LC MM LM LS
def mapsD (d : List Nat) : D := .list ((List.range 17).map fun c => .list ((pw d c).map dN))
section
variable {m : Mc} {sd : Bool} {ss : List Stp}
theorem ix_last {l : List D} {x : D} : ixD (.list (l ++ [x])) (.int (-1)) = some x := by
  show atI (l ++ [x]) (-1) = some x
  unfold atI ixN
  rw [if_neg (by decide), if_pos (by simp; omega)]
  have : ((-1 : Int) + ((l ++ [x]).length : Nat)).toNat = l.length := by simp; omega
  rw [Option.bind_some, this]
  simp
theorem run_comp (h : m.Ok) {w p : List Nat} (hp : ∀ x ∈ p, x < m.n) : p.map (fun q => m.run q w) = comp p (m.deed w) := by
  unfold comp
  exact List.map_congr_left fun q hq => (deed_get (hp q hq)).symm
theorem maps_eq (h : m.Ok) {w : List Nat} (hw : okw m.L w) : F_law_maps [eM m, dW w, dN 16] = some (mapsD (m.deed w)) := by
  rw [F_law_maps, callF_3, b_law_maps]
  have hb := h.big
  have hlt : ∀ c, ∀ x ∈ pw (m.deed w) c, x < m.n := fun c x hx => by
    have := pw_lt (h.deed_lt hw) c x hx
    rwa [deed_len] at this
  have r16 := rng1_n (count := 16) (by decide)
  have lr : lrgF [dN m.n] = some (.list ((pw (m.deed w) 0).map dN)) := by
    simp only [lrgF]
    rw [if_pos ⟨by omega, by omega⟩, Int.toNat_natCast, rng_eq, pw, deed_len]
  obtain ⟨ρ, e, o, rfl⟩ := for_list (i := 4) (s := L1_law_maps) dN (List.range 16) (fun p ρ => ∃ o, ρ = [some (.shr (eM m)), some (.shr (dW w)), some (.shr (dN 16)), some (.own (.list ((List.range (p.length + 1)).map fun c => .list ((pw (m.deed w) c).map dN)))), o, none]) (fun p x r ρ hs ⟨o, hr⟩ => by
    subst hr
    have hp : p.length ≤ 16 := by
      have := congrArg List.length hs
      simp at this
      omega
    refine ⟨_, ?_, some (.shr (dN x)), rfl⟩
    have sp : (List.range (p.length + 1)).map (fun c => PyData.list ((pw (m.deed w) c).map dN)) = (List.range p.length).map (fun c => PyData.list ((pw (m.deed w) c).map dN)) ++ [.list ((pw (m.deed w) p.length).map dN)] := by
      rw [List.range_succ, List.map_append]
      rfl
    have e1 : ixD (.list ((List.range (p.length + 1)).map (fun c => PyData.list ((pw (m.deed w) c).map dN)))) (.int (-1)) = some (.list ((pw (m.deed w) p.length).map dN)) := by rw [sp, ix_last]
    have it : itemsD (.list ((pw (m.deed w) p.length).map dN)) = some ((pw (m.deed w) p.length).map dN) := rfl
    have lc : ∀ L : List D, lcL (gN 5) tYs (eCall LM.F_law_state (lC (eV 0) (lC (eV 5) (lC (eV 1) lN)))) [some (.shr (eM m)), some (.shr (dW w)), some (.shr (dN 16)), some (.own (.list L)), some (.shr (dN x)), none] ((pw (m.deed w) p.length).map dN) = some ((pw (m.deed w) (p.length + 1)).map dN) := fun L => by
      rw [pw, ← run_comp h (hlt _), List.map_map]
      exact lcL_map dN _ _ fun q hq => by
        simp only [dv, law_state_eq h (hlt _ q hq) hw]
        rfl
    have ap := appS_s (i := 3) (d := .list ((pw (m.deed w) (p.length + 1)).map dN)) (ρ := [some (.shr (eM m)), some (.shr (dW w)), some (.shr (dN 16)), some (.own (.list ((List.range (p.length + 1)).map fun c => .list ((pw (m.deed w) c).map dN)))), some (.shr (dN x)), none]) (ds := (List.range (p.length + 1)).map fun c => .list ((pw (m.deed w) c).map dN)) (by simp; omega)
    have lo : ∀ L : List D, lcO (some ((pw (m.deed w) p.length).map dN)) (gN 5) tYs (eCall LM.F_law_state (lC (eV 0) (lC (eV 5) (lC (eV 1) lN)))) [some (.shr (eM m)), some (.shr (dW w)), some (.shr (dN 16)), some (.own (.list L)), some (.shr (dN x)), none] = some (.list ((pw (m.deed w) (p.length + 1)).map dN)) := fun L => by
      rw [lcO_s (by rw [List.length_map, pw_len, deed_len]; omega), lc]
      rfl
    simp only [L1_law_maps, dv, e1, it, lo, ap]
    rw [show (p ++ [x]).length + 1 = (p.length + 1) + 1 by simp, List.range_succ (n := p.length + 1), List.map_append]
    rfl) (ρ := [some (.shr (eM m)), some (.shr (dW w)), some (.shr (dN 16)), some (.own (.list ((List.range 1).map fun c => .list ((pw (m.deed w) c).map dN)))), none, none]) ⟨_, rfl⟩
  have st : (List.range 1).map (fun c => PyData.list ((pw (m.deed w) c).map dN)) = [.list ((pw (m.deed w) 0).map dN)] := rfl
  rw [st] at e
  simp only [dv, dv0, ix_M1, len_T, lr, r16, e]
  simp only [List.length_range]
  rfl
theorem loops_len : (loops m sd ss).length = (ss.filterMap (Stp.b sd)).length := by simp [loops]
theorem pws_at {ds : List (List Nat)} {c k : Nat} {x : List Nat} (h : (pws ds c)[k]? = some x) : ∃ d, ds[k]? = some d ∧ x = pw d c := by
  unfold pws at h
  rw [List.getElem?_map] at h
  cases e : ds[k]? with
  | none => rw [e] at h; cases h
  | some d => rw [e] at h; exact ⟨d, rfl, by cases h; rfl⟩
theorem P_ok (h : m.Ok) (hg : ∀ s ∈ ss, good2 m.L s) (c : Nat) : PsOk m (P m sd ss c) := fun p hp => by
  obtain ⟨d, hd, rfl⟩ := List.mem_map.mp hp
  obtain ⟨w, hw, rfl⟩ := List.mem_map.mp hd
  obtain ⟨s, hs, e⟩ := List.mem_filterMap.mp hw
  have gw : okw m.L w := by
    have := hg s hs
    cases s with
    | lt i => cases e
    | st a b c a' b' c' =>
      obtain ⟨_, g2, _, _, g5, _⟩ := this
      cases e
      cases sd <;> assumption
  refine ⟨by rw [pw_len, deed_len], fun x hx => ?_⟩
  have := pw_lt (h.deed_lt gw) c x hx
  rwa [deed_len] at this
theorem P_len (c : Nat) : (P m sd ss c).length = (ss.filterMap (Stp.b sd)).length := by simp [P, pws, loops]
def mapsL (m : Mc) (sd : Bool) (ss : List Stp) : D := .list ((loops m sd ss).map mapsD)
theorem ix_maps {k c : Nat} {x : List Nat} (hc : c < 17) (h : (P m sd ss c)[k]? = some x) : ∃ d, ixD (mapsL m sd ss) (dN k) = some (mapsD d) ∧ ixD (mapsD d) (dN c) = some (.list (x.map dN)) := by
  obtain ⟨d, hd, rfl⟩ := pws_at h
  refine ⟨d, ix_l (by rw [List.getElem?_map, hd]; rfl), ix_l ?_⟩
  rw [List.getElem?_map, List.getElem?_range hc]
  rfl
/-- one number of copies -/
theorem turn_eq (h : m.Ok) (hg : ∀ s ∈ ss, good2 m.L s) {c : Nat} (hc : c < 17) {es : List D} (hes : es.length < 100) {o7 o8 o9 : Option Sl} : ∃ o7' o8' o9', L2_law_ends_of [some (.shr (eM m)), some (.shr (.list (ss.map Stp.enc))), some (.shr (sdD sd)), some (.shr (.int 16)), some (.shr (mapsL m sd ss)), some (.own (.list es)), some (.shr (dN c)), o7, o8, o9] =
    some (.nx [some (.shr (eM m)), some (.shr (.list (ss.map Stp.enc))), some (.shr (sdD sd)), some (.shr (.int 16)), some (.shr (mapsL m sd ss)), some (.own (.list (es ++ [dN (ends m sd ss (P m sd ss c) 0)]))), some (.shr (dN c)), o7', o8', o9']) := by
  have hp := P_ok (sd := sd) h hg c
  obtain ⟨ρ, e, q, k, o, rfl, M⟩ := for_list (i := 9) (s := L1_law_ends_of) Stp.enc ss (fun p ρ => ∃ q k o, ρ = [some (.shr (eM m)), some (.shr (.list (ss.map Stp.enc))), some (.shr (sdD sd)), some (.shr (.int 16)), some (.shr (mapsL m sd ss)), some (.own (.list es)), some (.shr (dN c)), some (.shr (dN q)), some (.shr (dN k)), o] ∧ Mid m sd ss (P m sd ss c) p q k) (fun p s r ρ hs ⟨q, k, o, hr, M⟩ => by
    subst hr
    have gs := hg s (by rw [hs]; simp)
    cases s with
    | lt i =>
      have c1 : ixD (Stp.lt i).enc (.int 1) = some (dN i) := ix_t1
      refine ⟨_, ?_, m.to q i, k, some (.shr (Stp.lt i).enc), rfl, M.lt_step h hs gs⟩
      simp only [L1_law_ends_of, dv, enc0, let_eq, c1, ix_M1, ix_T h M.lt, ix_R h M.lt gs]
    | st a b c' a' b' c'' =>
      obtain ⟨g1, g2, g3, g4, g5, g6⟩ := gs
      obtain ⟨x, hx, _⟩ := M.st_at hs
      have ha : okw m.L (if sd then a else a') := by cases sd <;> assumption
      have hcc : okw m.L (if sd then c' else c'') := by cases sd <;> assumption
      obtain ⟨q1, q2, M'⟩ := M.st_step h hp hs hx ha hcc
      have e1 := law_state_eq h M.lt ha
      have e2 := law_state_eq h q2 hcc
      obtain ⟨d, x1, x2⟩ := ix_maps hc hx
      refine ⟨_, ?_, _, k + 1, some (.shr (Stp.st a b c' a' b' c'').enc), rfl, M'⟩
      simp only [L1_law_ends_of, dv, enc0, set_ne, ix_side, x1, x2, ix_eL q1, e1, e2]
      rfl) (ρ := [some (.shr (eM m)), some (.shr (.list (ss.map Stp.enc))), some (.shr (sdD sd)), some (.shr (.int 16)), some (.shr (mapsL m sd ss)), some (.own (.list es)), some (.shr (dN c)), some (.shr (.int 0)), some (.shr (.int 0)), o9]) ⟨0, 0, _, rfl, Mid.start h (P_len c).symm⟩
  have it : itemsD (.list (ss.map Stp.enc)) = some (ss.map Stp.enc) := rfl
  rw [M.end] at e
  have ap := appS_s (i := 5) (d := dN (ends m sd ss (P m sd ss c) 0)) (ρ := [some (.shr (eM m)), some (.shr (.list (ss.map Stp.enc))), some (.shr (sdD sd)), some (.shr (.int 16)), some (.shr (mapsL m sd ss)), some (.own (.list es)), some (.shr (dN c)), some (.shr (dN (ends m sd ss (P m sd ss c) 0))), some (.shr (dN k)), o]) (ds := es) (by omega)
  refine ⟨some (.shr (dN (ends m sd ss (P m sd ss c) 0))), some (.shr (dN k)), o, ?_⟩
  simp only [L2_law_ends_of, dv, it, e, ap]
def endsL (m : Mc) (sd : Bool) (ss : List Stp) : List Nat := (List.range 16).map fun i => ends m sd ss (P m sd ss (i + 1)) 0
theorem ends_of_eq (h : m.Ok) (hg : ∀ s ∈ ss, good2 m.L s) (hl : ss.length ≤ 1000) : F_law_ends_of [eM m, .list (ss.map Stp.enc), sdD sd, .int 16] = some (.list ((endsL m sd ss).map dN)) := by
  rw [F_law_ends_of, callF_4, b_law_ends_of]
  have lc : lcL (gN 9) (toT (o2 eqD (o2 ixD (eW 9) (eC (.int 0))) (eC (.str "set")))) (eCall F_law_maps (lC (eV 0) (lC (o2 ixD (o2 ixD (eW 9) (eW 2)) (eC (.int 1))) (lC (eV 3) lN)))) [some (.shr (eM m)), some (.shr (.list (ss.map Stp.enc))), some (.shr (sdD sd)), some (.shr (.int 16)), none, none, none, none, none, none] (ss.map Stp.enc) = some ((loops m sd ss).map mapsD) := by
    have := lcL_filter (i := 9) (t := toT (o2 eqD (o2 ixD (eW 9) (eC (.int 0))) (eC (.str "set")))) (a := eCall F_law_maps (lC (eV 0) (lC (o2 ixD (o2 ixD (eW 9) (eW 2)) (eC (.int 1))) (lC (eV 3) lN)))) (ρ := [some (.shr (eM m)), some (.shr (.list (ss.map Stp.enc))), some (.shr (sdD sd)), some (.shr (.int 16)), none, none, none, none, none, none]) Stp.enc (fun s => (Stp.b sd s).isSome) (fun s => mapsD (m.deed ((Stp.b sd s).getD []))) ss (fun s _ => by
      cases s with
      | lt i =>
        have : eqD (.str "letter") (.str "set") = some (.bool false) := by
          show some (PyData.bool (decide _)) = _
          rw [decide_eq_false (by decide +kernel)]
        simp only [dv, enc0, this]
        rfl
      | st a b c a' b' c' =>
        have : eqD (.str "set") (.str "set") = some (.bool true) := by
          show some (PyData.bool (decide _)) = _
          rw [decide_eq_true rfl]
        simp only [dv, enc0, this]
        rfl) (fun s hs hp => by
      have gs := hg s hs
      cases s with
      | lt i => cases hp
      | st a b c a' b' c' =>
        obtain ⟨_, g2, _, _, g5, _⟩ := gs
        have hb : okw m.L (if sd then b else b') := by cases sd <;> assumption
        have e1 : F_law_maps [eM m, dW (if sd then b else b'), .int 16] = _ := maps_eq h hb
        simp only [dv, ix_side, e1]
        rfl)
    rw [this]
    congr 1
    unfold loops
    clear this hl hg
    induction ss with
    | nil => rfl
    | cons s ss ih =>
      cases s with
      | lt i => exact ih
      | st a b c a' b' c' => exact congrArg (mapsD (m.deed (if sd then b else b')) :: ·) ih
  have r17 : rng2 [.int 1, .int 17] = some ((List.range 16).map fun i => dN (i + 1)) := by
    rw [rng2_i (by decide) (by decide) (by decide) (by decide)]
    rfl
  have add : addD (.int 16) (.int 1) = some (.int 17) := rfl
  obtain ⟨ρ, e, o6, o7, o8, o9, rfl⟩ := for_list (i := 6) (s := L2_law_ends_of) (fun i => dN (i + 1)) (List.range 16) (fun p ρ => ∃ o6 o7 o8 o9, ρ = [some (.shr (eM m)), some (.shr (.list (ss.map Stp.enc))), some (.shr (sdD sd)), some (.shr (.int 16)), some (.shr (mapsL m sd ss)), some (.own (.list (p.map fun i => dN (ends m sd ss (P m sd ss (i + 1)) 0)))), o6, o7, o8, o9]) (fun p i r ρ hs ⟨o6, o7, o8, o9, hr⟩ => by
    subst hr
    have hi : i < 16 := List.mem_range.mp (by rw [hs]; simp)
    have hp : p.length ≤ 16 := by
      have := congrArg List.length hs
      simp at this
      omega
    obtain ⟨o7', o8', o9', e⟩ := turn_eq (sd := sd) (c := i + 1) (es := p.map fun i => dN (ends m sd ss (P m sd ss (i + 1)) 0)) (o7 := o7) (o8 := o8) (o9 := o9) h hg (by omega) (by simp; omega)
    refine ⟨_, e, some (.shr (dN (i + 1))), o7', o8', o9', ?_⟩
    rw [List.map_append]
    rfl) (ρ := [some (.shr (eM m)), some (.shr (.list (ss.map Stp.enc))), some (.shr (sdD sd)), some (.shr (.int 16)), some (.shr (mapsL m sd ss)), some (.own (.list [])), none, none, none, none]) ⟨_, _, _, _, rfl⟩
  have it : itemsD (.list (ss.map Stp.enc)) = some (ss.map Stp.enc) := rfl
  have lo : lcO (some (ss.map Stp.enc)) (gN 9) (toT (o2 eqD (o2 ixD (eW 9) (eC (.int 0))) (eC (.str "set")))) (eCall F_law_maps (lC (eV 0) (lC (o2 ixD (o2 ixD (eW 9) (eW 2)) (eC (.int 1))) (lC (eV 3) lN)))) [some (.shr (eM m)), some (.shr (.list (ss.map Stp.enc))), some (.shr (sdD sd)), some (.shr (.int 16)), none, none, none, none, none, none] = some (mapsL m sd ss) := by
    rw [lcO_s (by simp; omega), lc]
    rfl
  simp only [add_ii, dv, dv0, it, lo, add, r17, e]
  unfold endsL
  rw [List.map_map]
  rfl
end
end G80

set_option Elab.async false
set_option linter.all false
set_option maxRecDepth 100000
set_option maxHeartbeats 4000000
/-! N80: fits_always. -/
namespace G80
open PySem L2 DV LC MM LM LS
section
variable {m m1 m2 : Mc} {sd : Bool} {ss : List Stp}
theorem loop_deeds_eq (h : m.Ok) (hg : ∀ s ∈ ss, good2 m.L s) (hl : ss.length ≤ 1000) : F_loop_deeds [eM m, .list (ss.map Stp.enc), sdD sd] = some (encP (loops m sd ss)) := by
  rw [F_loop_deeds, callF_3, b_loop_deeds]
  have lc : lcL (gN 3) (toT (o2 eqD (o2 ixD (eW 3) (eC (.int 0))) (eC (.str "set")))) (eCall LM.F_deed_on (lC (eV 0) (lC (o2 ixD (o2 ixD (eW 3) (eW 2)) (eC (.int 1))) lN))) [some (.shr (eM m)), some (.shr (.list (ss.map Stp.enc))), some (.shr (sdD sd)), none] (ss.map Stp.enc) = some ((loops m sd ss).map eR) := by
    have := lcL_filter (i := 3) (t := toT (o2 eqD (o2 ixD (eW 3) (eC (.int 0))) (eC (.str "set")))) (a := eCall LM.F_deed_on (lC (eV 0) (lC (o2 ixD (o2 ixD (eW 3) (eW 2)) (eC (.int 1))) lN))) (ρ := [some (.shr (eM m)), some (.shr (.list (ss.map Stp.enc))), some (.shr (sdD sd)), none]) Stp.enc (fun s => (Stp.b sd s).isSome) (fun s => eR (m.deed ((Stp.b sd s).getD []))) ss (fun s _ => by
      cases s with
      | lt i =>
        have : eqD (.str "letter") (.str "set") = some (.bool false) := by
          show some (PyData.bool (decide _)) = _
          rw [decide_eq_false (by decide +kernel)]
        simp only [dv, enc0, this]
        rfl
      | st a b c a' b' c' =>
        have : eqD (.str "set") (.str "set") = some (.bool true) := by
          show some (PyData.bool (decide _)) = _
          rw [decide_eq_true rfl]
        simp only [dv, enc0, this]
        rfl) (fun s hs hp => by
      have gs := hg s hs
      cases s with
      | lt i => cases hp
      | st a b c a' b' c' =>
        obtain ⟨_, g2, _, _, g5, _⟩ := gs
        have hb : okw m.L (if sd then b else b') := by cases sd <;> assumption
        have e1 := deed_on_eq h hb
        simp only [dv, ix_side, e1]
        rfl)
    rw [this]
    congr 1
    unfold loops
    clear this hl hg
    induction ss with
    | nil => rfl
    | cons s ss ih =>
      cases s with
      | lt i => exact ih
      | st a b c a' b' c' => exact congrArg (eR (m.deed (if sd then b else b')) :: ·) ih
  have it : itemsD (.list (ss.map Stp.enc)) = some (ss.map Stp.enc) := rfl
  simp only [dv, dv0, it]
  rw [lcO_s (by simp; omega), lc]
  rfl
theorem P_one (h : m.Ok) : P m sd ss 1 = loops m sd ss := by
  unfold P pws
  exact (List.map_congr_left fun d _ => pw_one d).trans (List.map_id _)
theorem more_eq (h : m.Ok) (hg : ∀ s ∈ ss, good2 m.L s) (hl : ss.length ≤ 1000) (c : Nat) : F_one_copy_more [encP (P m sd ss c), encP (loops m sd ss)] = some (encP (P m sd ss (c + 1))) := by
  rw [F_one_copy_more, callF_2, b_one_copy_more]
  have hb := h.big
  have ll : (loops m sd ss).length ≤ 1000 := by
    rw [loops_len]
    exact Nat.le_trans (List.length_filterMap_le _ _) hl
  have le : lenF [encP (loops m sd ss)] = some (dN (loops m sd ss).length) := by
    show some (PyData.int (((loops m sd ss).map eR).length : Int)) = _
    rw [List.length_map]
  have r1 := rng1_n (count := (loops m sd ss).length) (by omega)
  have ok1 := P_ok (sd := sd) h hg 1
  rw [P_one h] at ok1
  have okc := P_ok (sd := sd) h hg c
  have lc : lcL (gN 2) tYs (eCall LM.F_product (lC (o2 ixD (eW 0) (eW 2)) (lC (o2 ixD (eW 1) (eW 2)) lN))) [some (.shr (encP (P m sd ss c))), some (.shr (encP (loops m sd ss))), none] ((List.range (loops m sd ss).length).map dN) = some ((P m sd ss (c + 1)).map eR) := by
    have e : (P m sd ss (c + 1)).map eR = (List.range (loops m sd ss).length).map fun k => eR (pw ((loops m sd ss).getD k []) (c + 1)) := by
      apply List.ext_getElem?
      intro k
      unfold P pws
      rw [List.getElem?_map, List.getElem?_map, List.getElem?_map]
      by_cases hk : k < (loops m sd ss).length
      · rw [List.getElem?_range hk, Option.map_some, List.getD_eq_getElem?_getD, List.getElem?_eq_getElem hk]
        rfl
      · rw [List.getElem?_eq_none (by omega), List.getElem?_eq_none (by simp; omega)]
        rfl
    rw [e]
    exact lcL_map dN _ _ fun k hk => by
      have hk := List.mem_range.mp hk
      have e1 : (loops m sd ss)[k]? = some ((loops m sd ss).getD k []) := by
        rw [List.getD_eq_getElem?_getD, List.getElem?_eq_getElem hk]
        rfl
      have e2 : (P m sd ss c)[k]? = some (pw ((loops m sd ss).getD k []) c) := by
        unfold P pws
        rw [List.getElem?_map, e1]
        rfl
      obtain ⟨l1, l2⟩ := ok1 _ (List.mem_of_getElem? e1)
      obtain ⟨l3, l4⟩ := okc _ (List.mem_of_getElem? e2)
      have e3 := product_eq (p := pw ((loops m sd ss).getD k []) c) (d := (loops m sd ss).getD k []) (by rw [l1]; exact l4) (by rw [l3]; exact hb)
      simp only [dv, ix_encP e2, ix_encP e1, e3]
      rfl
  simp only [dv, dv0, le, r1]
  rw [lcO_s (by simp; omega), lc]
  rfl
/-! ### keys -/
def nR (r : List Nat) : NestedKey := .tup (r.map fun (x : Nat) => NestedKey.num (x : Int))
def nP (ps : List (List Nat)) : NestedKey := .tup (ps.map nR)
def nk (x : List (List Nat) × List (List Nat)) : NestedKey := .tup [nP x.1, nP x.2]
theorem nkD_R (r : List Nat) : nkD (nR r) = eR r := by
  show PyData.tuple (nkDs _) = _
  rw [nkDs_map, List.map_map]
  rfl
theorem nkD_P (ps : List (List Nat)) : nkD (nP ps) = encP ps := by
  show PyData.tuple (nkDs _) = PyData.tuple _
  rw [nkDs_map, List.map_map]
  congr 1
  exact List.map_congr_left fun r _ => nkD_R r
theorem nkD_nk (x : List (List Nat) × List (List Nat)) : nkD (nk x) = .tuple [encP x.1, encP x.2] := by
  show PyData.tuple (nkDs _) = _
  rw [nkDs_map, List.map_cons, List.map_cons, List.map_nil, nkD_P, nkD_P]
theorem nR_inj {r s : List Nat} (h : nR r = nR s) : r = s := by
  injection h with h
  exact (List.map_inj_right fun x y hxy => by
    injection hxy with hxy
    omega).mp h
theorem nP_inj {r s : List (List Nat)} (h : nP r = nP s) : r = s := by
  injection h with h
  exact (List.map_inj_right fun x y hxy => nR_inj hxy).mp h
theorem key_nk : KeyN nk := ⟨fun a b h => by
    injection h with h
    injection h with h1 h2
    injection h2 with h2 _
    exact Prod.ext (nP_inj h1) (nP_inj h2), fun a => ⟨_, rfl⟩, fun a => by
    have h1 : ∀ r, (nR r).depth ≤ 1 := fun r => ndepth_tup fun k hk => by
      obtain ⟨x, _, rfl⟩ := List.mem_map.mp hk
      exact Nat.le_refl 0
    have h2 : ∀ ps, (nP ps).depth ≤ 2 := fun ps => ndepth_tup fun k hk => by
      obtain ⟨x, _, rfl⟩ := List.mem_map.mp hk
      exact h1 x
    have h3 : (nk a).depth ≤ 3 := ndepth_tup fun k hk => by
      simp at hk
      rcases hk with rfl | rfl <;> exact h2 _
    omega⟩
/-! ### the loop -/
def fit (m1 m2 : Mc) (ss : List Stp) (c : Nat) : Bool := decide (ends m1 true ss (P m1 true ss c) 0 ∈ m1.fin) && decide (ends m2 false ss (P m2 false ss c) 0 ∈ m2.fin)
def PP (m1 m2 : Mc) (ss : List Stp) (c : Nat) : List (List Nat) × List (List Nat) := (P m1 true ss c, P m2 false ss c)
def fitAll (m1 m2 : Mc) (ss : List Stp) : Bool := (List.range 16).all fun i => fit m1 m2 ss (i + 1)
theorem P_next (c : Nat) : P m sd ss (c + 1) = (P m sd ss c).zipWith comp (loops m sd ss) := by
  unfold P pws
  generalize loops m sd ss = ds
  induction ds with
  | nil => rfl
  | cons d ds ih => rw [List.map_cons, List.map_cons, List.zipWith_cons_cons, ih]; rfl
theorem PP_next {i j : Nat} (h : PP m1 m2 ss i = PP m1 m2 ss j) : PP m1 m2 ss (i + 1) = PP m1 m2 ss (j + 1) := by
  injection h with h1 h2
  unfold PP
  rw [P_next, P_next, P_next, P_next, h1, h2]
theorem PP_fit {i j : Nat} (h : PP m1 m2 ss i = PP m1 m2 ss j) : fit m1 m2 ss i = fit m1 m2 ss j := by
  injection h with h1 h2
  unfold fit
  rw [h1, h2]
theorem P_per (h : m.Ok) (h4 : m.n ≤ 4) (hg : ∀ s ∈ ss, good2 m.L s) : P m sd ss 16 = P m sd ss 4 := by
  refine List.map_congr_left fun d hd => ?_
  have ok1 := P_ok (sd := sd) h hg 1
  rw [P_one h] at ok1
  obtain ⟨l1, l2⟩ := ok1 d hd
  exact per (by omega) (by rw [l1]; exact l2)
theorem PP_per (h1 : m1.Ok) (h2 : m2.Ok) (h3 : m1.n ≤ 4) (h4 : m2.n ≤ 4) (hg1 : ∀ s ∈ ss, good2 m1.L s) (hg2 : ∀ s ∈ ss, good2 m2.L s) : PP m1 m2 ss 16 = PP m1 m2 ss 4 := Prod.ext (P_per h1 h3 hg1) (P_per h2 h4 hg2)
/-- a row that came before comes again and again -/
theorem come_again {c j : Nat} (hj : 1 ≤ j) (hjc : j < c) (h : PP m1 m2 ss c = PP m1 m2 ss j) : ∀ d, ∃ k, 1 ≤ k ∧ k < c ∧ PP m1 m2 ss (c + d) = PP m1 m2 ss k
  | 0 => ⟨j, hj, hjc, h⟩
  | d + 1 => by
    obtain ⟨k, h1, h2, h3⟩ := come_again hj hjc h d
    have e := PP_next h3
    by_cases hk : k + 1 < c
    · exact ⟨k + 1, by omega, hk, e⟩
    · have : k + 1 = c := by omega
      rw [this, h] at e
      exact ⟨j, hj, hjc, e⟩
def seen (m1 m2 : Mc) (ss : List Stp) (c : Nat) : List ((List (List Nat) × List (List Nat)) × Bool) := (List.range c).map fun i => (PP m1 m2 ss (i + 1), true)
theorem seen_keys (c : Nat) : (seen m1 m2 ss c).map (·.1) = (List.range c).map fun i => PP m1 m2 ss (i + 1) := by
  unfold seen
  rw [List.map_map]
  rfl
def sh (d : D) : Option Sl := some (.shr d)
def envW (m1 m2 : Mc) (ss : List Stp) (c : Nat) : DV.Env := [sh (eM m1), sh (eM m2), sh (.list (ss.map Stp.enc)), sh (encP (loops m1 true ss)), sh (encP (loops m2 false ss)), sh (.tuple [encP (P m1 true ss (c + 1)), encP (P m2 false ss (c + 1))]), some (.own (dN2 nk .bool (seen m1 m2 ss c)))]
theorem fits_always_eq (h1 : m1.Ok) (h2 : m2.Ok) (h3 : m1.n ≤ 4) (h4 : m2.n ≤ 4) (hg1 : ∀ s ∈ ss, good2 m1.L s) (hg2 : ∀ s ∈ ss, good2 m2.L s) (hl : ss.length ≤ 1000) : F_fits_always [eM m1, eM m2, .list (ss.map Stp.enc)] = some (.bool (fitAll m1 m2 ss)) := by
  rw [F_fits_always, callF_3, b_fits_always]
  obtain ⟨o, e, ho⟩ := while_inv (c := toT (o2 ninND (eW 5) (eW 6))) (s := L1_fits_always) (fun n ρ => ∃ c, n + c = 16 ∧ ρ = envW m1 m2 ss c ∧ (∀ i < c, fit m1 m2 ss (i + 1) = true) ∧ ∀ i < c, ∀ j < i, PP m1 m2 ss (i + 1) ≠ PP m1 m2 ss (j + 1))
      (fun o => (fitAll m1 m2 ss = true ∧ ∃ ρ, o = .nx ρ) ∨ (fitAll m1 m2 ss = false ∧ o = .rt (.bool false))) (fun n ρ ⟨c, hn, hr, hf, hd⟩ => by
    subst hr
    have hk := nkD_nk (PP m1 m2 ss (c + 1))
    have hk : nkD (nk (PP m1 m2 ss (c + 1))) = .tuple [encP (P m1 true ss (c + 1)), encP (P m2 false ss (c + 1))] := hk
    have hin := nin_dN (ev := PyData.bool) key_nk (seen m1 m2 ss c) (PP m1 m2 ss (c + 1))
    rw [hk] at hin
    cases hm : mget (seen m1 m2 ss c) (PP m1 m2 ss (c + 1)) with
    | some b =>
      rw [hm] at hin
      have hmem : PP m1 m2 ss (c + 1) ∈ (seen m1 m2 ss c).map (·.1) := Classical.not_not.mp fun z => by
        rw [mget_none.mpr z] at hm
        cases hm
      rw [seen_keys] at hmem
      obtain ⟨j, hj, ej⟩ := List.mem_map.mp hmem
      have hj := List.mem_range.mp hj
      refine .inl ⟨?_, .inl ⟨?_, _, rfl⟩⟩
      · simp only [envW, sh, dv, hin]
        rfl
      · unfold fitAll
        rw [List.all_eq_true]
        intro i hi
        by_cases hic : i < c
        · exact hf i hic
        · obtain ⟨k, k1, k2, k3⟩ := come_again (c := c + 1) (j := j + 1) (by omega) (by omega) ej.symm (i - c)
          rw [show c + 1 + (i - c) = i + 1 by omega] at k3
          rw [PP_fit k3]
          have := hf (k - 1) (by omega)
          rwa [show k - 1 + 1 = k by omega] at this
    | none =>
      rw [hm] at hin
      have hmem := mget_none.mp hm
      have hmem2 := hmem
      rw [seen_keys] at hmem2
      have hc : c < 16 := by
        refine Nat.lt_of_not_le fun z => ?_
        have : c ≤ 16 := by omega
        have : c = 16 := by omega
        subst this
        have := PP_next (PP_per h1 h2 h3 h4 hg1 hg2)
        exact hmem2 (List.mem_map.mpr ⟨4, by decide, this.symm⟩)
      have hc15 : c < 15 ∨ c = 15 := by omega
      refine .inr ⟨by simp only [envW, sh, dv, hin]; rfl, ?_⟩
      have a1 := is_accepted_eq (sd := true) h1 hg1 (P_ok h1 hg1 (c + 1)) (P_len (c + 1)).symm
      have a2 := is_accepted_eq (sd := false) h2 hg2 (P_ok h2 hg2 (c + 1)) (P_len (c + 1)).symm
      have s1 : sdD true = .int 1 := rfl
      have s2 : sdD false = .int 2 := rfl
      rw [s1] at a1
      rw [s2] at a2
      cases hfit : fit m1 m2 ss (c + 1) with
      | false =>
        refine .inr ⟨.bool false, ?_, .inr ⟨?_, rfl⟩⟩
        · have hfit : (decide (ends m1 true ss (P m1 true ss (c + 1)) 0 ∈ m1.fin) && decide (ends m2 false ss (P m2 false ss (c + 1)) 0 ∈ m2.fin)) = false := hfit
          cases e1 : decide (ends m1 true ss (P m1 true ss (c + 1)) 0 ∈ m1.fin) with
          | false =>
            rw [e1] at a1
            simp only [L1_fits_always, envW, sh, dv, a1]
          | true =>
            rw [e1] at a1
            rw [e1, Bool.true_and] at hfit
            rw [hfit] at a2
            simp only [L1_fits_always, envW, sh, dv, a1, a2]
        · unfold fitAll
          rw [← Bool.not_eq_true, List.all_eq_true]
          intro z
          have := z c (List.mem_range.mpr hc)
          rw [hfit] at this
          cases this
      | true =>
        have hfit' : (decide (ends m1 true ss (P m1 true ss (c + 1)) 0 ∈ m1.fin) && decide (ends m2 false ss (P m2 false ss (c + 1)) 0 ∈ m2.fin)) = true := hfit
        rw [Bool.and_eq_true] at hfit'
        rw [hfit'.1] at a1
        rw [hfit'.2] at a2
        have pu := put_dN (ev := PyData.bool) (v := true) key_nk (m := seen m1 m2 ss c) (k := PP m1 m2 ss (c + 1)) (by simp [seen]; omega)
        rw [hk, mput_new hmem] at pu
        have q1 := more_eq (sd := true) h1 hg1 hl (c + 1)
        have q2 := more_eq (sd := false) h2 hg2 hl (c + 1)
        refine .inl ⟨envW m1 m2 ss (c + 1), ?_, n - 1, by omega, c + 1, by omega, rfl, fun i hi => ?_, fun i hi j hj => ?_⟩
        · simp only [L1_fits_always, envW, sh, dv, a1, a2, sPutN_e, putNSO_s, putNS_o, pu, q1, q2]
          unfold seen
          rw [List.range_succ, List.map_append]
          rfl
        · by_cases hi' : i < c
          · exact hf i hi'
          · have : i = c := by omega
            subst this
            exact hfit
        · by_cases hi' : i < c
          · exact hd i hi' j hj
          · have : i = c := by omega
            subst this
            exact fun z => hmem2 (List.mem_map.mpr ⟨j, List.mem_range.mpr hj, z.symm⟩)) 16 1000000 (envW m1 m2 ss 0) (by decide) ⟨0, rfl, rfl, fun i hi => absurd hi (by omega), fun i hi => absurd hi (by omega)⟩
  have l1 := loop_deeds_eq (sd := true) h1 hg1 hl
  have l2 := loop_deeds_eq (sd := false) h2 hg2 hl
  have s1 : sdD true = .int 1 := rfl
  have s2 : sdD false = .int 2 := rfl
  rw [s1] at l1
  rw [s2] at l2
  have ev0 : envW m1 m2 ss 0 = [sh (eM m1), sh (eM m2), sh (.list (ss.map Stp.enc)), sh (encP (loops m1 true ss)), sh (encP (loops m2 false ss)), sh (.tuple [encP (loops m1 true ss), encP (loops m2 false ss)]), some (.own (.dict [(.none, .int 2)]))] := by
    unfold envW
    rw [P_one h1, P_one h2]
    rfl
  rw [ev0] at e
  simp only [sh] at e
  simp only [dv, dv0, l1, l2, sWh, e]
  rcases ho with ⟨h, ρ, rfl⟩ | ⟨h, rfl⟩
  · rw [h]
    simp only [dv]
  · rw [h]
    simp only [dv]
end
end G80

set_option Elab.async false
set_option linter.all false
set_option maxRecDepth 100000
set_option maxHeartbeats 4000000
/-! O80: is_bond and the law's own judge. -/
namespace G80
open PySem L2 DV LC MM LM LS
section
variable {m m1 m2 : Mc} {sd : Bool} {ss : List Stp} {gs : List GS}
theorem to_stp {L : Nat} : ∀ {gs : List GS}, gs.all (okS L) = true → ∃ ss : List Stp, gs.map GS.enc = ss.map Stp.enc ∧ ss.length = gs.length ∧ ∀ s ∈ ss, good2 L s
  | [], _ => ⟨[], rfl, rfl, fun s hs => by cases hs⟩
  | g :: gs, h => by
    rw [List.all_cons, Bool.and_eq_true] at h
    obtain ⟨t, e, gt⟩ := ok_stp h.1
    obtain ⟨ss, e2, e3, g2⟩ := to_stp h.2
    refine ⟨t :: ss, by rw [List.map_cons, List.map_cons, e, e2], by simp [e3], fun s hs => ?_⟩
    rcases List.mem_cons.mp hs with rfl | hs
    · exact gt
    · exact g2 s hs
theorem bond_no (hL : m1.L ≤ 3) (h : gs.all (okS m1.L) = false) : F_is_bond [eM m1, eM m2, .list (gs.map GS.enc)] = some (.bool false) := by
  rw [F_is_bond, callF_3, b_is_bond]
  obtain ⟨ρ, ⟨o, rfl⟩, e⟩ := for_check (i := 3) (s := L1_is_bond) GS.enc (okS m1.L) (.bool false) (fun ρ => ∃ o, ρ = [some (.shr (eM m1)), some (.shr (eM m2)), some (.shr (.list (gs.map GS.enc))), o]) gs (fun g _ ρ ⟨o, hr⟩ => by
    subst hr
    have e := is_step_eq hL g
    rw [both hL g] at e
    refine ⟨[some (.shr (eM m1)), some (.shr (eM m2)), some (.shr (.list (gs.map GS.enc))), some (.shr g.enc)], ⟨_, rfl⟩, ?_⟩
    cases hp : okS m1.L g <;> rw [hp] at e <;> simp only [L1_is_bond, dv, ix_M0, e, if_true, if_false, Bool.false_eq_true]) (ρ := [some (.shr (eM m1)), some (.shr (eM m2)), some (.shr (.list (gs.map GS.enc))), none]) ⟨_, rfl⟩
  rw [h, if_neg (by decide)] at e
  have it : itemsD (.list (gs.map GS.enc)) = some (gs.map GS.enc) := rfl
  simp only [dv, dv0, it, e]
theorem law_bond_no (hL : m1.L ≤ 3) (hs : ∀ g ∈ gs, g.small) (h : gs.all (okS m1.L) = false) : F_law_is_bond [eM m1, eM m2, .list (gs.map GS.enc), .int 16] = some (.bool false) := by
  rw [F_law_is_bond, callF_4, b_law_is_bond]
  obtain ⟨ρ, ⟨o, rfl⟩, e⟩ := for_check (i := 4) (s := L1_law_is_bond) GS.enc (okS m1.L) (.bool false) (fun ρ => ∃ o, ρ = [some (.shr (eM m1)), some (.shr (eM m2)), some (.shr (.list (gs.map GS.enc))), some (.shr (.int 16)), o, none]) gs (fun g hg ρ ⟨o, hr⟩ => by
    subst hr
    have e := law_step_eq hL g (hs g hg)
    refine ⟨[some (.shr (eM m1)), some (.shr (eM m2)), some (.shr (.list (gs.map GS.enc))), some (.shr (.int 16)), some (.shr g.enc), none], ⟨_, rfl⟩, ?_⟩
    cases hp : okS m1.L g <;> rw [hp] at e <;> simp only [L1_law_is_bond, dv, ix_M0, e, if_true, if_false, Bool.false_eq_true]) (ρ := [some (.shr (eM m1)), some (.shr (eM m2)), some (.shr (.list (gs.map GS.enc))), some (.shr (.int 16)), none, none]) ⟨_, rfl⟩
  rw [h, if_neg (by decide)] at e
  have it : itemsD (.list (gs.map GS.enc)) = some (gs.map GS.enc) := rfl
  simp only [dv, dv0, it, e]
theorem bond_yes (hL : m1.L ≤ 3) (h1 : m1.Ok) (h2 : m2.Ok) (h3 : m1.n ≤ 4) (h4 : m2.n ≤ 4) (hg1 : ∀ s ∈ ss, good2 m1.L s) (hg2 : ∀ s ∈ ss, good2 m2.L s) (hl : ss.length ≤ 1000) (he : gs.map GS.enc = ss.map Stp.enc) (h : gs.all (okS m1.L) = true) :
    F_is_bond [eM m1, eM m2, .list (gs.map GS.enc)] = some (.bool (fitAll m1 m2 ss)) := by
  rw [F_is_bond, callF_3, b_is_bond]
  obtain ⟨ρ, ⟨o, rfl⟩, e⟩ := for_check (i := 3) (s := L1_is_bond) GS.enc (okS m1.L) (.bool false) (fun ρ => ∃ o, ρ = [some (.shr (eM m1)), some (.shr (eM m2)), some (.shr (.list (gs.map GS.enc))), o]) gs (fun g _ ρ ⟨o, hr⟩ => by
    subst hr
    have e := is_step_eq hL g
    rw [both hL g] at e
    refine ⟨[some (.shr (eM m1)), some (.shr (eM m2)), some (.shr (.list (gs.map GS.enc))), some (.shr g.enc)], ⟨_, rfl⟩, ?_⟩
    cases hp : okS m1.L g <;> rw [hp] at e <;> simp only [L1_is_bond, dv, ix_M0, e, if_true, if_false, Bool.false_eq_true]) (ρ := [some (.shr (eM m1)), some (.shr (eM m2)), some (.shr (.list (gs.map GS.enc))), none]) ⟨_, rfl⟩
  rw [h, if_pos rfl] at e
  have it : itemsD (.list (gs.map GS.enc)) = some (gs.map GS.enc) := rfl
  have fa := fits_always_eq h1 h2 h3 h4 hg1 hg2 hl
  rw [← he] at fa
  simp only [dv, dv0, it, e, fa]
/-- the ends that are not final -/
theorem bad_ends {m : Mc} {i : Nat} {ρ : DV.Env} {j : Nat} (l : List Nat) (hi : ρ[j]? = some (some (.shr (eM m)))) (hj : i ≠ j) (hlen : i < ρ.length) : lcL (gN i) (toT (o2 ninD (eW i) (o2 ixD (eW j) (eC (.int 2))))) (eV i) ρ (l.map dN) = some ((l.filter fun q => !decide (q ∈ m.fin)).map dN) := by
  have g : ∀ x, (ρ.set i x)[i]? = some x := fun x => List.getElem?_set_self hlen
  have g2 : ∀ x, (ρ.set i x)[j]? = some (some (.shr (eM m))) := fun x => by rw [List.getElem?_set_ne hj, hi]
  exact lcL_filter dN (fun q => !decide (q ∈ m.fin)) dN l (fun q _ => by simp only [dv, g, g2, ix_M2, ninD_T]) (fun q _ _ => by simp only [dv, g])
theorem law_bond_yes (hL : m1.L ≤ 3) (h1 : m1.Ok) (h2 : m2.Ok) (hg1 : ∀ s ∈ ss, good2 m1.L s) (hg2 : ∀ s ∈ ss, good2 m2.L s) (hl : ss.length ≤ 1000) (hs : ∀ g ∈ gs, g.small) (he : gs.map GS.enc = ss.map Stp.enc) (h : gs.all (okS m1.L) = true) :
    F_law_is_bond [eM m1, eM m2, .list (gs.map GS.enc), .int 16] = some (.bool (fitAll m1 m2 ss)) := by
  rw [F_law_is_bond, callF_4, b_law_is_bond]
  obtain ⟨ρ, ⟨o, rfl⟩, e⟩ := for_check (i := 4) (s := L1_law_is_bond) GS.enc (okS m1.L) (.bool false) (fun ρ => ∃ o, ρ = [some (.shr (eM m1)), some (.shr (eM m2)), some (.shr (.list (gs.map GS.enc))), some (.shr (.int 16)), o, none]) gs (fun g hg ρ ⟨o, hr⟩ => by
    subst hr
    have e := law_step_eq hL g (hs g hg)
    refine ⟨[some (.shr (eM m1)), some (.shr (eM m2)), some (.shr (.list (gs.map GS.enc))), some (.shr (.int 16)), some (.shr g.enc), none], ⟨_, rfl⟩, ?_⟩
    cases hp : okS m1.L g <;> rw [hp] at e <;> simp only [L1_law_is_bond, dv, ix_M0, e, if_true, if_false, Bool.false_eq_true]) (ρ := [some (.shr (eM m1)), some (.shr (eM m2)), some (.shr (.list (gs.map GS.enc))), some (.shr (.int 16)), none, none]) ⟨_, rfl⟩
  rw [h, if_pos rfl] at e
  have it : itemsD (.list (gs.map GS.enc)) = some (gs.map GS.enc) := rfl
  have n1 := ends_of_eq (sd := true) h1 hg1 hl
  have n2 := ends_of_eq (sd := false) h2 hg2 hl
  rw [← he, show sdD true = .int 1 from rfl] at n1
  rw [← he, show sdD false = .int 2 from rfl] at n2
  have it1 : itemsD (.list ((endsL m1 true ss).map dN)) = some ((endsL m1 true ss).map dN) := rfl
  have it2 : itemsD (.list ((endsL m2 false ss).map dN)) = some ((endsL m2 false ss).map dN) := rfl
  have z1 : (endsL m1 true ss).length = 16 := by simp [endsL]
  have z2 : (endsL m2 false ss).length = 16 := by simp [endsL]
  have lo1 : lcO (some ((endsL m1 true ss).map dN)) (gN 5) (toT (o2 ninD (eW 5) (o2 ixD (eW 0) (eC (.int 2))))) (eV 5) [some (.shr (eM m1)), some (.shr (eM m2)), some (.shr (.list (gs.map GS.enc))), some (.shr (.int 16)), o, none] = some (.list (((endsL m1 true ss).filter fun q => !decide (q ∈ m1.fin)).map dN)) := by
    rw [lcO_s (by rw [List.length_map, z1]; decide), bad_ends (j := 0) _ rfl (by decide) (by simp)]
    rfl
  have lo2 : lcO (some ((endsL m2 false ss).map dN)) (gN 5) (toT (o2 ninD (eW 5) (o2 ixD (eW 1) (eC (.int 2))))) (eV 5) [some (.shr (eM m1)), some (.shr (eM m2)), some (.shr (.list (gs.map GS.enc))), some (.shr (.int 16)), o, none] = some (.list (((endsL m2 false ss).filter fun q => !decide (q ∈ m2.fin)).map dN)) := by
    rw [lcO_s (by rw [List.length_map, z2]; decide), bad_ends (j := 1) _ rfl (by decide) (by simp)]
    rfl
  have l1 : ∀ l : List Nat, gtD (.int ((l.map dN).length : Int)) (.int 0) = some (.bool (!l.isEmpty)) := fun l => by
    rw [gt_ii]
    congr 2
    cases l <;> simp
  have l2 : ∀ l : List Nat, eqD (.int ((l.map dN).length : Int)) (.int 0) = some (.bool l.isEmpty) := fun l => by
    rw [eq_ii]
    congr 2
    cases l with
    | nil => rfl
    | cons a l =>
      simp
      omega
  have ie : ∀ (m : Mc) (sd : Bool), ((endsL m sd ss).filter fun q => !decide (q ∈ m.fin)).isEmpty = (List.range 16).all fun i => decide (ends m sd ss (P m sd ss (i + 1)) 0 ∈ m.fin) := fun m sd => by
    rw [Bool.eq_iff_iff, List.isEmpty_iff, List.filter_eq_nil_iff, List.all_eq_true]
    unfold endsL
    simp
  have fa : fitAll m1 m2 ss = (((endsL m1 true ss).filter fun q => !decide (q ∈ m1.fin)).isEmpty && ((endsL m2 false ss).filter fun q => !decide (q ∈ m2.fin)).isEmpty) := by
    rw [ie, ie, Bool.eq_iff_iff, Bool.and_eq_true]
    unfold fitAll fit
    rw [List.all_eq_true, List.all_eq_true, List.all_eq_true]
    constructor
    · intro z
      exact ⟨fun i hi => ((Bool.and_eq_true _ _).mp (z i hi)).1, fun i hi => ((Bool.and_eq_true _ _).mp (z i hi)).2⟩
    · rintro ⟨z1, z2⟩ i hi
      rw [z1 i hi, z2 i hi]
      rfl
  rw [fa]
  simp only [dv, dv0, it, e, n1, n2, it1, it2, lo1, lo2, l1, l2]
  cases ((endsL m1 true ss).filter fun q => !decide (q ∈ m1.fin)).isEmpty <;> simp only [dv, n2, it2, lo2, l2, Bool.true_and, Bool.false_and]
/-- both judges answer alike -/
theorem bond_both (hL : m1.L = m2.L) (h1 : m1.Ok) (h2 : m2.Ok) (h3 : m1.n ≤ 4) (h4 : m2.n ≤ 4) (hl : gs.length ≤ 1000) (hs : ∀ g ∈ gs, g.small) :
    ∃ b, F_is_bond [eM m1, eM m2, .list (gs.map GS.enc)] = some (.bool b) ∧ F_law_is_bond [eM m1, eM m2, .list (gs.map GS.enc), .int 16] = some (.bool b) := by
  have h5 := h1.L3
  cases h : gs.all (okS m1.L) with
  | false => exact ⟨false, bond_no h5 h, law_bond_no h5 hs h⟩
  | true =>
    obtain ⟨ss, e1, e2, e3⟩ := to_stp h
    have e4 : ∀ s ∈ ss, good2 m2.L s := by rw [← hL]; exact e3
    exact ⟨_, bond_yes h5 h1 h2 h3 h4 e3 e4 (by omega) e1 h, law_bond_yes h5 h1 h2 e3 e4 (by omega) hs e1 h⟩
end
end G80

set_option Elab.async false
set_option linter.all false
set_option maxRecDepth 100000
set_option maxHeartbeats 4000000
/-! P80: finals added; steps bent. -/
namespace G80
open PySem L2 DV LC MM LM LS
def wf (m : Mc) (st : List Nat) : Mc := ⟨m.L, m.rows, (List.range m.n).filter fun p => decide (p ∈ m.fin) || decide (p ∈ st)⟩
section
variable {m : Mc} {sd : Bool} {ss : List Stp}
theorem ok_fin (h : m.Ok) (f : List Nat) : (⟨m.L, m.rows, f⟩ : Mc).Ok := ⟨h.L1, h.L3, h.pos, h.big, h.row, h.st⟩
theorem with_finals_eq (h : m.Ok) (st : List Nat) : F_law_with_finals [eM m, .list (st.map dN)] = some (eM (wf m st)) := by
  rw [F_law_with_finals, callF_2, b_law_with_finals]
  have hb := h.big
  have r1 := rng1_n (count := m.n) (by omega)
  have lc : lcL (gN 2) (tOrF (toT (o2 inD (eW 2) (o2 ixD (eW 0) (eC (.int 2))))) (toT (o2 inD (eW 2) (eW 1)))) (eV 2) [some (.shr (eM m)), some (.shr (.list (st.map dN))), none] ((List.range m.n).map dN) = some (((List.range m.n).filter fun p => decide (p ∈ m.fin) || decide (p ∈ st)).map dN) :=
    lcL_filter dN (fun p => decide (p ∈ m.fin) || decide (p ∈ st)) dN _ (fun p _ => by
      have e1 := inD_T p m.fin
      cases h : decide (p ∈ m.fin) <;> rw [h] at e1 <;> simp only [dv, ix_M2, e1, inD_L, Bool.true_or, Bool.false_or]) (fun p _ _ => by simp only [dv])
  simp only [dv, dv0, ix_M0, ix_M1, len_T, r1]
  rw [lcO_s (by simp; omega), lc]
  simp only [dv, tupF]
  rfl
theorem ends_fin (f : List Nat) : ∀ (ss : List Stp) (ps : List (List Nat)) (q : Nat), ends ⟨m.L, m.rows, f⟩ sd ss ps q = ends m sd ss ps q
  | [], _, _ => rfl
  | .lt i :: ss, ps, q => ends_fin f ss ps _
  | .st a b c a' b' c' :: ss, ps, q => ends_fin f ss ps.tail _
theorem P_fin (f : List Nat) (c : Nat) : P ⟨m.L, m.rows, f⟩ sd ss c = P m sd ss c := rfl
theorem ends_lt (h : m.Ok) : ∀ (ss : List Stp) (ps : List (List Nat)) (q : Nat), (∀ s ∈ ss, good2 m.L s) → PsOk m ps → (ss.filterMap (Stp.b sd)).length = ps.length → q < m.n → ends m sd ss ps q < m.n
  | [], _, _, _, _, _, hq => hq
  | .lt i :: ss, ps, q, hg, hp, hl, hq => ends_lt h ss ps _ (fun s hs => hg s (List.mem_cons_of_mem _ hs)) hp hl (h.to_lt hq (hg _ List.mem_cons_self))
  | .st a b c a' b' c' :: ss, [], q, hg, hp, hl, hq => by rw [fm_st] at hl; simp at hl
  | .st a b c a' b' c' :: ss, p :: ps, q, hg, hp, hl, hq => by
    rw [fm_st] at hl
    obtain ⟨g1, g2, g3, g4, g5, g6⟩ := hg _ List.mem_cons_self
    have ha : okw m.L (if sd then a else a') := by cases sd <;> assumption
    have hc : okw m.L (if sd then c else c') := by cases sd <;> assumption
    obtain ⟨h1, h2⟩ := hp p List.mem_cons_self
    refine ends_lt h ss ps _ (fun s hs => hg s (List.mem_cons_of_mem _ hs)) (fun x hx => hp x (List.mem_cons_of_mem _ hx)) (by simpa using hl) (h.run_lt _ (getD_lt ?_ h2) hc)
    show _ < p.length
    rw [h1]
    exact h.run_lt _ hq ha
end
/-! ### drawn steps as texts -/
def toGS : Stp → GS
  | .lt i => .lt i
  | .st a b c a' b' c' => .st (wd a) (wd b) (wd c) (wd a') (wd b') (wd c')
theorem toGS_enc (s : Stp) : (toGS s).enc = s.enc := by cases s <;> rfl
theorem map_GS (ss : List Stp) : (ss.map toGS).map GS.enc = ss.map Stp.enc := by
  rw [List.map_map]
  exact List.map_congr_left fun s _ => toGS_enc s
theorem good_2 {L : Nat} {s : Stp} (h : LS.good L s) : good2 L s := by
  cases s with
  | lt i => exact h
  | st a b c a' b' c' =>
    obtain ⟨A, _, hA, g1, g2⟩ := h
    exact ⟨fun x hx => hA x (g1.ha x hx), fun x hx => hA x (g1.hb x hx), fun x hx => hA x (g1.hc x hx), fun x hx => hA x (g2.ha x hx), fun x hx => hA x (g2.hb x hx), fun x hx => hA x (g2.hc x hx)⟩
theorem mem_wd {w : List Nat} {c : Nat} : c ∈ cs (wd w) ↔ ∃ i ∈ w, c = i + 97 := by
  show c ∈ (wd w).cps.toList ↔ _
  rw [wd_cps, List.mem_map]
  exact ⟨fun ⟨i, h, e⟩ => ⟨i, h, e.symm⟩, fun ⟨i, h, e⟩ => ⟨i, h, e.symm⟩⟩
theorem okl_wd {L : Nat} {b x : List Nat} (hx : okw L x) (h : ∀ c ∈ x, c ∈ b) : okl L (wd b) (wd x) = true := by
  unfold okl
  rw [List.all_eq_true]
  intro c hc
  obtain ⟨i, hi, rfl⟩ := mem_wd.mp hc
  rw [Bool.and_eq_true]
  exact ⟨decide_eq_true (List.mem_map.mpr ⟨i, List.mem_range.mpr (hx i hi), rfl⟩), decide_eq_true (mem_wd.mpr ⟨i, h i hi, rfl⟩)⟩
theorem hs_wd {b : List Nat} {i : Nat} : hs i (wd b) = decide (i ∈ b) := by
  unfold hs
  refine decide_eq_decide.mpr ?_
  rw [mem_wd]
  constructor
  · rintro ⟨j, hj, e⟩
    rwa [show i = j by omega]
  · exact fun h => ⟨i, h, rfl⟩
theorem good_okS {L : Nat} {s : Stp} (h : LS.good L s) : okS L (toGS s) = true := by
  cases s with
  | lt i =>
    have h : i < L := h
    show (decide ((0 : Int) ≤ (i : Int)) && decide ((i : Int) < (L : Int))) = true
    rw [decide_eq_true (by omega), decide_eq_true (by omega)]
    rfl
  | st a b c a' b' c' =>
    obtain ⟨A, hA0, hA, g1, g2⟩ := h
    have e : okS L (toGS (.st a b c a' b' c')) = ([(wd a, wd b, wd c), (wd a', wd b', wd c')].all (fun t => [t.1, t.2.1, t.2.2].all (okl L t.2.1)) && (decide (0 < (wd b).length) && decide (lets (wd b) = lets (wd b')))) := rfl
    rw [e]
    simp only [List.all_cons, List.all_nil, Bool.and_true, Bool.and_eq_true, decide_eq_true_iff]
    have k : ∀ {b x : List Nat}, (∀ y ∈ x, y ∈ A) → (∀ y ∈ A, y ∈ b) → okl L (wd b) (wd x) = true := fun h1 h2 => okl_wd (fun y hy => hA y (h1 y hy)) fun y hy => h2 y (h1 y hy)
    refine ⟨⟨⟨k g1.ha g1.hA, k g1.hb g1.hA, k g1.hc g1.hA⟩, k g2.ha g2.hA, k g2.hb g2.hA, k g2.hc g2.hA⟩, ?_, ?_⟩
    · rw [wd_len]
      obtain ⟨x, hx⟩ := List.exists_mem_of_length_pos hA0
      exact List.length_pos_of_mem (g1.hA x hx)
    · unfold lets
      refine List.filter_congr fun i _ => ?_
      rw [hs_wd, hs_wd]
      exact decide_eq_decide.mpr ⟨fun z => g2.hA i (g1.hb i z), fun z => g1.hA i (g2.hb i z)⟩
theorem good_small {L : Nat} {s : Stp} (h : LS.good L s) : (toGS s).small := by
  cases s with
  | lt i => trivial
  | st a b c a' b' c' =>
    obtain ⟨A, _, _, g1, g2⟩ := h
    intro x hx
    have h1 := g1.la
    have h2 := g1.lb
    have h3 := g1.lc
    have h4 := g2.la
    have h5 := g2.lb
    have h6 := g2.lc
    simp only [List.mem_cons, List.not_mem_nil, or_false] at hx
    rcases hx with rfl | rfl | rfl | rfl | rfl | rfl <;> rw [wd_len] <;> omega
theorem plain_T3 (a b c : Str) : plain 2 (T3 a b c) := plain_tuple.mpr ⟨by simp, fun x hx => by
  simp at hx
  rcases hx with rfl | rfl | rfl <;> exact trivial⟩
theorem plain_GS (g : GS) : plain 3 g.enc := by
  cases g with
  | lt i => exact plain_tuple.mpr ⟨by simp, fun x hx => by
      simp at hx
      rcases hx with rfl | rfl <;> exact trivial⟩
  | st a b c a' b' c' => exact plain_tuple.mpr ⟨by simp, fun x hx => by
      simp at hx
      rcases hx with rfl | rfl | rfl
      · exact trivial
      · exact plain_T3 a b c
      · exact plain_T3 a' b' c'⟩
/-! ### bent steps -/
theorem str_app (x y : Str) : (x ++ y).length = x.length + y.length := by
  show (x.cps ++ y.cps).size = x.cps.size + y.cps.size
  exact Array.size_append
theorem add_str {x y : Str} (h : x.length + y.length ≤ 16777216) : addD (.str x) (.str y) = some (.str (x ++ y)) := if_pos (by rw [sizeLine_eq]; exact h)
theorem add_L {xs ys : List D} (h : xs.length + ys.length ≤ 16777216) : addD (.list xs) (.list ys) = some (.list (xs ++ ys)) := if_pos (by rw [sizeLine_eq]; exact h)
theorem add_T {xs ys : List D} (h : xs.length + ys.length ≤ 16777216) : addD (.tuple xs) (.tuple ys) = some (.tuple (xs ++ ys)) := if_pos (by rw [sizeLine_eq]; exact h)
theorem sl_str {x : Str} (lo hi : Option Int) (h : x.length ≤ 1000) : slD (.str x) lo hi = some (.str (cutS x lo hi)) := if_pos (by rw [sizeLine_eq]; omega)
def rep (at_ : Nat) (t : Str × Str × Str) (o : Str) : Str × Str × Str := match at_ with
  | 0 => (o, t.2.1, t.2.2)
  | 1 => (t.1, o, t.2.2)
  | _ => (t.1, t.2.1, o)
theorem rep_eq {at_ : Nat} (h : at_ < 3) (a b c o : Str) : ∃ u v w, slD (T3 a b c) none (some (at_ : Int)) = some u ∧ slD (T3 a b c) (some ((at_ : Int) + 1)) none = some v ∧ addD u (.tuple [.str o]) = some w ∧ addD w v = some (T3 (rep at_ (a, b, c) o).1 (rep at_ (a, b, c) o).2.1 (rep at_ (a, b, c) o).2.2) := by
  have e1 := sl_takeT [.str a, .str b, .str c] at_
  have e2 := sl_dropT [.str a, .str b, .str c] (at_ + 1)
  rw [show ((at_ + 1 : Nat) : Int) = (at_ : Int) + 1 by omega] at e2
  refine ⟨_, _, _, e1, e2, add_T (by simp; omega), ?_⟩
  rw [add_T (by simp; omega)]
  have : at_ = 0 ∨ at_ = 1 ∨ at_ = 2 := by omega
  rcases this with rfl | rfl | rfl <;> rfl
theorem rep_small {at_ : Nat} {a b c o : Str} (ha : a.length ≤ 1000) (hb : b.length ≤ 1000) (hc : c.length ≤ 1000) (ho : o.length ≤ 1000) : (rep at_ (a, b, c) o).1.length ≤ 1000 ∧ (rep at_ (a, b, c) o).2.1.length ≤ 1000 ∧ (rep at_ (a, b, c) o).2.2.length ≤ 1000 := by
  unfold rep
  split <;> exact ⟨by assumption, by assumption, by assumption⟩
theorem small_st {a b c a' b' c' : Str} (h1 : a.length ≤ 1000) (h2 : b.length ≤ 1000) (h3 : c.length ≤ 1000) (h4 : a'.length ≤ 1000) (h5 : b'.length ≤ 1000) (h6 : c'.length ≤ 1000) : (GS.st a b c a' b' c').small := fun x hx => by
  simp only [List.mem_cons, List.not_mem_nil, or_false] at hx
  rcases hx with rfl | rfl | rfl | rfl | rfl | rfl <;> assumption
theorem bent_eq {L : Nat} {s : Stp} {pk : List Nat} (hL : L ≤ 3) (h : LS.good L s) (hp : 2 ≤ pk.length) : ∃ gs : List GS, F_law_bent_step [s.enc, dN L, .list (pk.map dN)] = some (.list (gs.map GS.enc)) ∧ (∀ g ∈ gs, g.small) ∧ gs.length ≤ 100 := by
  rw [F_law_bent_step, callF_3, b_law_bent_step]
  cases s with
  | lt i =>
    have e1 : ixD (Stp.lt i).enc (.int 1) = some (dN i) := ix_t1
    have e2 := mod_ii (i := (i : Int) + 1) (j := 3) (by decide)
    have e3 : powD (.int 10) (.int 20) = some (.int (10 ^ 20)) := by
      simp only [powD]
      rw [if_pos (by decide)]
      rfl
    let xs : List Int := [((i : Int) + 1) % 3, 0 - 1, (L : Int), 10 ^ 20]
    have lc : lcL (gN 9) tYs (eTup (lC (eC (.str "letter")) (lC (eV 9) lN))) [some (.shr (Stp.lt i).enc), some (.shr (dN L)), some (.shr (.list (pk.map dN))), none, none, none, none, none, none, none] (xs.map PyData.int) = some (xs.map fun x => (GS.lt x).enc) :=
      lcL_map PyData.int (fun x => (GS.lt x).enc) xs fun x _ => by
        simp only [dv]
        rfl
    refine ⟨xs.map GS.lt, ?_, fun g hg => ?_, by simp [xs]⟩
    · have it : itemsD (.list [.int (((i : Int) + 1) % 3), .int (0 - 1), .int (L : Int), .int (10 ^ 20)]) = some (xs.map PyData.int) := rfl
      simp only [dv, dv0, enc0, let_eq, e1, e2, e3, it]
      rw [lcO_s (by simp [xs]), lc, List.map_map]
      rfl
    · obtain ⟨x, _, rfl⟩ := List.mem_map.mp hg
      trivial
  | st a b c a' b' c' =>
    have hsm := good_small h
    have sm : ∀ x ∈ [wd a, wd b, wd c, wd a', wd b', wd c'], x.length ≤ 1000 := hsm
    have la := sm (wd a) (by simp)
    have lb := sm (wd b) (by simp)
    have lc := sm (wd c) (by simp)
    have la' := sm (wd a') (by simp)
    have lb' := sm (wd b') (by simp)
    have lc' := sm (wd c') (by simp)
    have tenth : ∀ x ∈ [wd a, wd b, wd c], x.length ≤ 10 := fun x hx => by
      obtain ⟨A, _, _, g1, g2⟩ := h
      have h1 := g1.la
      have h2 := g1.lb
      have h3 := g1.lc
      simp only [List.mem_cons, List.not_mem_nil, or_false] at hx
      rcases hx with rfl | rfl | rfl <;> rw [wd_len] <;> omega
    obtain ⟨p0, p1, pk', rfl⟩ : ∃ p0 p1 pk', pk = p0 :: p1 :: pk' := by
      match pk, hp with
      | p0 :: p1 :: pk', _ => exact ⟨p0, p1, pk', rfl⟩
    have e1 : ixD (Stp.st a b c a' b' c').enc (.int 1) = some (T3 (wd a) (wd b) (wd c)) := ix_t1
    have e2 : ixD (Stp.st a b c a' b' c').enc (.int 2) = some (T3 (wd a') (wd b') (wd c')) := ix_t2
    have x0 : ixD (.list ((p0 :: p1 :: pk').map dN)) (.int 0) = some (dN p0) := ix_l0
    have x1 : ixD (.list ((p0 :: p1 :: pk').map dN)) (.int 1) = some (dN p1) := ix_l (i := 1) rfl
    have m0 := mod_ii (i := (p0 : Int)) (j := 3) (by decide)
    have m1 := mod_ii (i := (p1 : Int)) (j := 3) (by decide)
    rw [show ((p0 : Int) % 3) = ((p0 % 3 : Nat) : Int) by omega] at m0
    rw [show ((p1 : Int) % 3) = ((p1 % 3 : Nat) : Int) by omega] at m1
    have h0 := Nat.mod_lt p0 (show 0 < 3 by decide)
    have h1 := Nat.mod_lt p1 (show 0 < 3 by decide)
    generalize p0 % 3 = at_ at m0 h0
    generalize p1 % 3 = l1 at m1 h1
    obtain ⟨w, hw, hwm⟩ : ∃ w, ixD (T3 (wd a) (wd b) (wd c)) (dN at_) = some (.str w) ∧ w ∈ [wd a, wd b, wd c] := by
      have : at_ = 0 ∨ at_ = 1 ∨ at_ = 2 := by omega
      rcases this with rfl | rfl | rfl
      · exact ⟨_, ix_t0, by simp⟩
      · exact ⟨_, ix_t1, by simp⟩
      · exact ⟨_, ix_t2, by simp⟩
    have hw10 := tenth w hwm
    have q0 : ixD (T3 (wd a) (wd b) (wd c)) (.int 0) = some (.str (wd a)) := ix_t0
    have q2 : ixD (T3 (wd a) (wd b) (wd c)) (.int 2) = some (.str (wd c)) := ix_t2
    have ab := abc_ix h1
    have a1 := add_str (x := w) (y := wd [l1]) (by rw [wd_len]; simp; omega)
    have s1 := sl_str (x := w) (some 1) none (by omega)
    have a2 := add_str (x := w) (y := w) (by omega)
    have ld : (Str.ofString "d").length = 1 := by decide +kernel
    have lA : (Str.ofString "A").length = 1 := by decide +kernel
    have l0 : (Str.ofString "").length = 0 := by decide +kernel
    have a3 := add_str (x := w) (y := Str.ofString "d") (by omega)
    have a4 := add_str (x := Str.ofString "A") (y := w) (by omega)
    have ac := abc_sl hL
    let os : List Str := [w ++ wd [l1], cutS w (some 1) none, w ++ w, w ++ Str.ofString "d", Str.ofString "A" ++ w, wd (List.range L), Str.ofString ""]
    have ho : ∀ o ∈ os, o.length ≤ 1000 := fun o ho => by
      simp only [os, List.mem_cons, List.not_mem_nil, or_false] at ho
      have hc := cutS_len w (some 1) none
      rcases ho with rfl | rfl | rfl | rfl | rfl | rfl | rfl
      · rw [str_app, wd_len]; simp; omega
      · omega
      · rw [str_app]; omega
      · rw [str_app, ld]; omega
      · rw [str_app, lA]; omega
      · rw [wd_len, List.length_range]; omega
      · omega
    let g0 : List GS := [.st (wd a') (wd b') (wd c') (wd a) (wd b) (wd c), .st (wd a) (wd b) (wd c) (wd a) (wd b) (wd c), .st (wd a) (Str.ofString "") (wd c) (wd a) (Str.ofString "") (wd c)]
    obtain ⟨ρ, e, gs, o7, o8, rfl, g1, g2⟩ := for_list (i := 7) (s := L1_law_bent_step) PyData.str os (fun p ρ => ∃ gs o7 o8, ρ = [some (.shr (Stp.st a b c a' b' c').enc), some (.shr (dN L)), some (.shr (.list ((p0 :: p1 :: pk').map dN))), some (.shr (T3 (wd a) (wd b) (wd c))), some (.shr (dN at_)), some (.shr (.str w)), some (.shr (.list (gs.map GS.enc))), o7, o8, none] ∧ (∀ g ∈ gs, g.small) ∧ gs.length = 3 + 2 * p.length) (fun p o r ρ hs ⟨gs, o7, o8, hr, g1, g2⟩ => by
      subst hr
      have hpl : p.length ≤ 7 := by
        have := congrArg List.length hs
        simp [os] at this
        omega
      obtain ⟨u, v, z, r1, r2, r3, r4⟩ := rep_eq h0 (wd a) (wd b) (wd c) o
      have ho := ho o (by rw [hs]; simp)
      obtain ⟨k1, k2, k3⟩ := rep_small (at_ := at_) la lb lc ho
      generalize rep at_ (wd a, wd b, wd c) o = t at r4 k1 k2 k3
      have ad := add_L (xs := gs.map GS.enc) (ys := [.tuple [.str "set", T3 t.1 t.2.1 t.2.2, T3 (wd a') (wd b') (wd c')], .tuple [.str "set", T3 (wd a') (wd b') (wd c'), T3 t.1 t.2.1 t.2.2]]) (by simp; omega)
      refine ⟨_, ?_, gs ++ [.st t.1 t.2.1 t.2.2 (wd a') (wd b') (wd c'), .st (wd a') (wd b') (wd c') t.1 t.2.1 t.2.2], some (.shr (.str o)), some (.shr (T3 t.1 t.2.1 t.2.2)), rfl, fun g hg => ?_, ?_⟩
      · simp only [L1_law_bent_step, dv, r1, r2, r3, r4, e2, ad]
        rw [List.map_append]
        rfl
      · rcases List.mem_append.mp hg with z | z
        · exact g1 g z
        · simp only [List.mem_cons, List.not_mem_nil, or_false] at z
          rcases z with rfl | rfl
          · exact small_st k1 k2 k3 la' lb' lc'
          · exact small_st la' lb' lc' k1 k2 k3
      · simp [g2]
        omega) (ρ := [some (.shr (Stp.st a b c a' b' c').enc), some (.shr (dN L)), some (.shr (.list ((p0 :: p1 :: pk').map dN))), some (.shr (T3 (wd a) (wd b) (wd c))), some (.shr (dN at_)), some (.shr (.str w)), some (.shr (.list (g0.map GS.enc))), none, none, none]) ⟨g0, none, none, rfl, fun g hg => by
        simp only [g0, List.mem_cons, List.not_mem_nil, or_false] at hg
        rcases hg with rfl | rfl | rfl
        · exact small_st la' lb' lc' la lb lc
        · exact small_st la lb lc la lb lc
        · exact small_st la (by omega) lc la (by omega) lc, rfl⟩
    refine ⟨gs, ?_, g1, by rw [g2]; simp [os]⟩
    have it : itemsD (.list [.str (w ++ wd [l1]), .str (cutS w (some 1) none), .str (w ++ w), .str (w ++ Str.ofString "d"), .str (Str.ofString "A" ++ w), dW (List.range L), .str (Str.ofString "")]) = some (os.map PyData.str) := rfl
    have l7 : lstO [.str (w ++ wd [l1]), .str (cutS w (some 1) none), .str (w ++ w), .str (w ++ Str.ofString "d"), .str (Str.ofString "A" ++ w), dW (List.range L), .str (Str.ofString "")] = some (.list [.str (w ++ wd [l1]), .str (cutS w (some 1) none), .str (w ++ w), .str (w ++ Str.ofString "d"), .str (Str.ofString "A" ++ w), dW (List.range L), .str (Str.ofString "")]) := lstO_s (by simp)
    have gg : PyData.list (g0.map GS.enc) = .list [.tuple [.str "set", T3 (wd a') (wd b') (wd c'), T3 (wd a) (wd b) (wd c)], .tuple [.str "set", T3 (wd a) (wd b) (wd c), T3 (wd a) (wd b) (wd c)], .tuple [.str "set", .tuple [.str (wd a), .str (Str.ofString ""), .str (wd c)], .tuple [.str (wd a), .str (Str.ofString ""), .str (wd c)]]] := rfl
    rw [gg] at e
    have x0' : ixD (.list (dN p0 :: dN p1 :: pk'.map dN)) (.int 0) = some (dN p0) := x0
    have x1' : ixD (.list (dN p0 :: dN p1 :: pk'.map dN)) (.int 1) = some (dN p1) := x1
    have e' := e
    rw [show PyData.list ((p0 :: p1 :: pk').map dN) = .list (dN p0 :: dN p1 :: pk'.map dN) from rfl] at e'
    simp only [dv, dv0, enc0, set_ne, e1, e2, x0', x1', m0, m1, hw, q0, q2, abc_wd, ab, a1, s1, a2, a3, a4, ac, l7, it, e']
end G80

set_option Elab.async false
set_option linter.all false
set_option maxRecDepth 100000
set_option maxHeartbeats 4000000
/-! Q80: the law. -/
namespace G80
open PySem L2 DV LC MM LM LS
abbrev encG (gs : List GS) : D := .list (gs.map GS.enc)
def okG (gs : List GS) : Prop := (∀ g ∈ gs, g.small) ∧ gs.length ≤ 20
theorem plain_G {gs : List GS} (h : okG gs) : plain 4 (encG gs) := plain_list.mpr ⟨by rw [List.length_map]; have := h.2; omega, fun z hz => by
  obtain ⟨g, _, rfl⟩ := List.mem_map.mp hz
  exact plain_GS g⟩
section
variable {m1 m2 g1 g2 : Mc} {a0 a1 a2 a3 a4 a5 a6 a7 a8 a9 a10 a11 a12 a13 a14 a15 a16 a17 a18 : Option Sl}
theorem step2 {gs : List GS} (hL : g1.L = g2.L) (h1 : g1.Ok) (h2 : g2.Ok) (h3 : g1.n ≤ 4) (h4 : g2.n ≤ 4) (hg : okG gs) : ∃ o16 o17, L2_law [a0, a1, a2, a3, a4, a5, a6, a7, a8, sh (.list [eM g1, eM g2]), a10, a11, a12, a13, a14, sh (encG gs), a16, a17, a18] =
    some (.nx [a0, a1, a2, a3, a4, a5, a6, a7, a8, sh (.list [eM g1, eM g2]), a10, a11, a12, a13, a14, sh (encG gs), o16, o17, a18]) := by
  obtain ⟨b, e1, e2⟩ := bond_both hL h1 h2 h3 h4 (by have := hg.2; omega) hg.1
  have i1 : ixD (.list [eM g1, eM g2]) (.int 1) = some (eM g2) := ix_l (i := 1) rfl
  have s1 : F_law_same 4 [.bool b, .bool b] = some (.bool true) := law_same_eq 4 _ trivial
  have s2 := law_same_eq 4 _ (plain_G hg)
  have lf : lstF [encG gs] = some (encG gs) := rfl
  refine ⟨sh (encG gs), sh (.bool b), ?_⟩
  simp only [L2_law, sh, dv, lf, i1, e1, e2, s1, s2]
theorem step3 {gs : List GS} (hL : m1.L = m2.L) (h1 : m1.Ok) (h2 : m2.Ok) (h3 : m1.n ≤ 4) (h4 : m2.n ≤ 4) (hg : okG gs) : L3_law [a0, a1, a2, sh (eM m1), sh (eM m2), a5, a6, a7, a8, a9, a10, a11, a12, a13, a14, sh (encG gs), a16, a17, a18] =
    some (.nx [a0, a1, a2, sh (eM m1), sh (eM m2), a5, a6, a7, a8, a9, a10, a11, a12, a13, a14, sh (encG gs), a16, a17, a18]) := by
  obtain ⟨b, e1, e2⟩ := bond_both hL h1 h2 h3 h4 (by have := hg.2; omega) hg.1
  have s1 : F_law_same 4 [.bool b, .bool b] = some (.bool true) := law_same_eq 4 _ trivial
  have lf : lstF [encG gs] = some (encG gs) := rfl
  simp only [L3_law, sh, dv, lf, e1, e2, s1]
theorem loop2 (hL : g1.L = g2.L) (h1 : g1.Ok) (h2 : g2.Ok) (h3 : g1.n ≤ 4) (h4 : g2.n ≤ 4) (ps : List (List GS)) (hg : ∀ gs ∈ ps, okG gs) : ∃ o15 o16 o17, forL (gN 15) L2_law (ps.map encG) [a0, a1, a2, a3, a4, a5, a6, a7, a8, sh (.list [eM g1, eM g2]), a10, a11, a12, a13, a14, a15, a16, a17, a18] =
    some (.nx [a0, a1, a2, a3, a4, a5, a6, a7, a8, sh (.list [eM g1, eM g2]), a10, a11, a12, a13, a14, o15, o16, o17, a18]) := by
  obtain ⟨ρ, e, o15, o16, o17, rfl⟩ := for_list (i := 15) (s := L2_law) encG ps (fun p ρ => ∃ o15 o16 o17, ρ = [a0, a1, a2, a3, a4, a5, a6, a7, a8, sh (.list [eM g1, eM g2]), a10, a11, a12, a13, a14, o15, o16, o17, a18]) (fun p gs r ρ hs ⟨o15, o16, o17, hr⟩ => by
    subst hr
    obtain ⟨o16', o17', e⟩ := step2 (a0 := a0) (a1 := a1) (a2 := a2) (a3 := a3) (a4 := a4) (a5 := a5) (a6 := a6) (a7 := a7) (a8 := a8) (a10 := a10) (a11 := a11) (a12 := a12) (a13 := a13) (a14 := a14) (a16 := o16) (a17 := o17) (a18 := a18) hL h1 h2 h3 h4 (hg gs (by rw [hs]; simp))
    exact ⟨_, e, _, _, _, rfl⟩) (ρ := [a0, a1, a2, a3, a4, a5, a6, a7, a8, sh (.list [eM g1, eM g2]), a10, a11, a12, a13, a14, a15, a16, a17, a18]) ⟨_, _, _, rfl⟩
  exact ⟨o15, o16, o17, e⟩
theorem loop3 (hL : m1.L = m2.L) (h1 : m1.Ok) (h2 : m2.Ok) (h3 : m1.n ≤ 4) (h4 : m2.n ≤ 4) (ps : List (List GS)) (hg : ∀ gs ∈ ps, okG gs) : ∃ o15, forL (gN 15) L3_law (ps.map encG) [a0, a1, a2, sh (eM m1), sh (eM m2), a5, a6, a7, a8, a9, a10, a11, a12, a13, a14, a15, a16, a17, a18] =
    some (.nx [a0, a1, a2, sh (eM m1), sh (eM m2), a5, a6, a7, a8, a9, a10, a11, a12, a13, a14, o15, a16, a17, a18]) := by
  obtain ⟨ρ, e, o15, rfl⟩ := for_list (i := 15) (s := L3_law) encG ps (fun p ρ => ∃ o15, ρ = [a0, a1, a2, sh (eM m1), sh (eM m2), a5, a6, a7, a8, a9, a10, a11, a12, a13, a14, o15, a16, a17, a18]) (fun p gs r ρ hs ⟨o15, hr⟩ => by
    subst hr
    have e := step3 (a0 := a0) (a1 := a1) (a2 := a2) (a5 := a5) (a6 := a6) (a7 := a7) (a8 := a8) (a9 := a9) (a10 := a10) (a11 := a11) (a12 := a12) (a13 := a13) (a14 := a14) (a16 := a16) (a17 := a17) (a18 := a18) hL h1 h2 h3 h4 (hg gs (by rw [hs]; simp))
    exact ⟨_, e, _, rfl⟩) (ρ := [a0, a1, a2, sh (eM m1), sh (eM m2), a5, a6, a7, a8, a9, a10, a11, a12, a13, a14, a15, a16, a17, a18]) ⟨_, rfl⟩
  exact ⟨o15, e⟩
theorem loop1 {g0 : List GS} {at_ : Nat} (bs : List GS) (hb : ∀ g ∈ bs, g.small) (hbl : bs.length ≤ 100) (h0 : ∀ g ∈ g0, g.small) (hl : g0.length ≤ 3) (ps : List (List GS)) (hg : ∀ gs ∈ ps, okG gs) (hp : ps.length ≤ 100) :
    ∃ (o14 : Option Sl) (ps' : List (List GS)), forL (gN 14) L1_law (bs.map GS.enc) [a0, a1, a2, a3, a4, sh (encG g0), a6, a7, a8, a9, a10, a11, some (.own (.list (ps.map encG))), sh (dN at_), a14, a15, a16, a17, a18] =
    some (.nx [a0, a1, a2, a3, a4, sh (encG g0), a6, a7, a8, a9, a10, a11, some (.own (.list (ps'.map encG))), sh (dN at_), o14, a15, a16, a17, a18]) ∧ ∀ gs ∈ ps', okG gs := by
  obtain ⟨ρ, e, o14, ps', rfl, h1, h2⟩ := for_list (i := 14) (s := L1_law) GS.enc bs (fun p ρ => ∃ (o14 : Option Sl) (ps' : List (List GS)), ρ = [a0, a1, a2, a3, a4, sh (encG g0), a6, a7, a8, a9, a10, a11, some (.own (.list (ps'.map encG))), sh (dN at_), o14, a15, a16, a17, a18] ∧ (∀ gs ∈ ps', okG gs) ∧ ps'.length ≤ 100 + p.length) (fun p b r ρ hs ⟨o14, ps', hr, h1, h2⟩ => by
    subst hr
    have hpl : p.length ≤ 100 := by
      have := congrArg List.length hs
      simp at this
      omega
    have e1 := sl_takeL (g0.map GS.enc) at_
    have e2 := sl_dropL (g0.map GS.enc) (at_ + 1)
    rw [show ((at_ + 1 : Nat) : Int) = (at_ : Int) + 1 by omega] at e2
    have e3 := add_L (xs := (g0.map GS.enc).take at_) (ys := [b.enc]) (by simp; omega)
    have e4 := add_L (xs := (g0.map GS.enc).take at_ ++ [b.enc]) (ys := (g0.map GS.enc).drop (at_ + 1)) (by simp; omega)
    have ap := appS_s (i := 12) (d := .list ((g0.map GS.enc).take at_ ++ [b.enc] ++ (g0.map GS.enc).drop (at_ + 1))) (ρ := [a0, a1, a2, a3, a4, sh (encG g0), a6, a7, a8, a9, a10, a11, some (.own (.list (ps'.map encG))), sh (dN at_), sh b.enc, a15, a16, a17, a18]) (ds := ps'.map encG) (by simp; omega)
    refine ⟨_, ?_, sh b.enc, ps' ++ [g0.take at_ ++ [b] ++ g0.drop (at_ + 1)], rfl, fun gs hgs => ?_, by simp; omega⟩
    · simp only [sh] at ap
      simp only [L1_law, sh, dv, e1, e2, e3, e4, ap]
      rw [List.map_append]
      simp
    · rcases List.mem_append.mp hgs with z | z
      · exact h1 gs z
      · rw [List.mem_singleton.mp z]
        refine ⟨fun g hg => ?_, by simp; omega⟩
        rcases List.mem_append.mp hg with z | z
        · rcases List.mem_append.mp z with z | z
          · exact h0 g (List.mem_of_mem_take z)
          · rw [List.mem_singleton.mp z]
            exact hb b (by rw [hs]; simp)
        · exact h0 g (List.mem_of_mem_drop z)) (ρ := [a0, a1, a2, a3, a4, sh (encG g0), a6, a7, a8, a9, a10, a11, some (.own (.list (ps.map encG))), sh (dN at_), a14, a15, a16, a17, a18]) ⟨_, ps, rfl, hg, by simp; omega⟩
  exact ⟨o14, ps', e, h1⟩
end
theorem wf_fit {m1 m2 : Mc} {ss : List Stp} (h1 : m1.Ok) (h2 : m2.Ok) (hg1 : ∀ s ∈ ss, good2 m1.L s) (hg2 : ∀ s ∈ ss, good2 m2.L s) : fitAll (wf m1 (endsL m1 true ss)) (wf m2 (endsL m2 false ss)) ss = true := by
  have k : ∀ {m : Mc} {sd : Bool} {i : Nat}, m.Ok → (∀ s ∈ ss, good2 m.L s) → i < 16 → decide (ends (wf m (endsL m sd ss)) sd ss (P (wf m (endsL m sd ss)) sd ss (i + 1)) 0 ∈ (wf m (endsL m sd ss)).fin) = true := fun {m sd i} h hg hi => by
    refine decide_eq_true ?_
    show ends (wf m (endsL m sd ss)) sd ss (P m sd ss (i + 1)) 0 ∈ _
    unfold wf
    rw [ends_fin]
    refine List.mem_filter.mpr ⟨List.mem_range.mpr (ends_lt h ss _ 0 hg (P_ok h hg _) (P_len _).symm h.pos), ?_⟩
    rw [Bool.or_eq_true]
    exact .inr (decide_eq_true (List.mem_map.mpr ⟨i, List.mem_range.mpr hi, rfl⟩))
  unfold fitAll fit
  rw [List.all_eq_true]
  intro i hi
  have hi := List.mem_range.mp hi
  rw [k h1 hg1 hi, k h2 hg2 hi]
  rfl
theorem five {l : List Nat} (h : l.length = 5) : ∃ a b c d e, l = [a, b, c, d, e] := by
  match l, h with
  | [a, b, c, d, e], _ => exact ⟨a, b, c, d, e, rfl⟩
theorem six {l : List Nat} (h : l.length = 6) : ∃ a b c d e f, l = [a, b, c, d, e, f] := by
  match l, h with
  | [a, b, c, d, e, f], _ => exact ⟨a, b, c, d, e, f, rfl⟩
theorem law_true (ns : List Int) (hns : ns.length ≤ 63) : F_law [scrD ns] = some (.bool true) := by
  rw [F_law, callF_1, b_law]
  obtain ⟨l, d1, d2, _⟩ := draws_eq ns 0 5 5040 (by decide) (by decide) (by decide)
  obtain ⟨a, b, c, d, f, rfl⟩ := five d2
  rw [show dN 0 = PyData.int 0 from rfl, show dN 5 = PyData.int 5 from rfl, show dN 5040 = PyData.int 5040 from rfl] at d1
  simp only [List.map_cons, List.map_nil] at d1
  have hm : ∀ x : Nat, modD (dN x) (.int 4) = some (dN (x % 4)) := fun x => by
    rw [mod_ii (by decide)]
    congr 2
  have m1 := mod_ii (i := (a : Int)) (j := 3) (by decide)
  have m3 : (1 : Int) + (a : Int) % 3 = ((1 + a % 3 : Nat) : Int) := by omega
  have m4 : ∀ x : Nat, (1 : Int) + ((x % 4 : Nat) : Int) = ((1 + x % 4 : Nat) : Int) := fun x => by omega
  have ha := Nat.mod_lt a (show 0 < 3 by decide)
  generalize hL : 1 + a % 3 = L at m3
  have hb := Nat.mod_lt b (show 0 < 4 by decide)
  have hc := Nat.mod_lt c (show 0 < 4 by decide)
  have hd := Nat.mod_lt d (show 0 < 4 by decide)
  obtain ⟨M1, e1, ok1, L1, n1, _⟩ := law_machine_eq ns (k := 1) (L := L) (n := 1 + b % 4) (by omega) (by omega) (by omega) (by omega)
  obtain ⟨M2, e2, ok2, L2, n2, _⟩ := law_machine_eq ns (k := 2) (L := L) (n := 1 + c % 4) (by omega) (by omega) (by omega) (by omega)
  obtain ⟨ss, e3, hg, hl⟩ := drawn_steps_eq ns (k := 3) (L := L) (cnt := d % 4) (by omega) (by omega) (by omega)
  rw [show dN 1 = PyData.int 1 from rfl] at e1
  rw [show dN 2 = PyData.int 2 from rfl] at e2
  rw [show dN 3 = PyData.int 3 from rfl] at e3
  obtain ⟨lp, d3, d4, _⟩ := draws_eq ns 8 6 5040 (by decide) (by decide) (by decide)
  obtain ⟨p0, p1, p2, p3, p4, p5, rfl⟩ := six d4
  rw [show dN 8 = PyData.int 8 from rfl, show dN 6 = PyData.int 6 from rfl, show dN 5040 = PyData.int 5040 from rfl] at d3
  simp only [List.map_cons, List.map_nil] at d3
  have hgL : ∀ s ∈ ss, good2 L s := fun s hs => good_2 (hg s hs)
  have hg1 : ∀ s ∈ ss, good2 M1.L s := by rw [L1]; exact hgL
  have hg2 : ∀ s ∈ ss, good2 M2.L s := by rw [L2]; exact hgL
  have x1 := ends_of_eq (sd := true) ok1 hg1 (by omega)
  have x2 := ends_of_eq (sd := false) ok2 hg2 (by omega)
  rw [show sdD true = .int 1 from rfl] at x1
  rw [show sdD false = .int 2 from rfl] at x2
  have w1 := with_finals_eq ok1 (endsL M1 true ss)
  have w2 := with_finals_eq ok2 (endsL M2 false ss)
  have fa := wf_fit ok1 ok2 hg1 hg2
  generalize hE1 : endsL M1 true ss = E1 at x1 w1 fa
  generalize hE2 : endsL M2 false ss = E2 at x2 w2 fa
  have okg1 : (wf M1 E1).Ok := ok_fin ok1 _
  have okg2 : (wf M2 E2).Ok := ok_fin ok2 _
  have gall : (ss.map toGS).all (okS M1.L) = true := by
    rw [List.all_map, List.all_eq_true]
    intro s hs
    show okS M1.L (toGS s) = true
    rw [L1]
    exact good_okS (hg s hs)
  have yes := bond_yes (m1 := wf M1 E1) (m2 := wf M2 E2) (gs := ss.map toGS) ok1.L3 okg1 okg2 (by show M1.n ≤ 4; omega) (by show M2.n ≤ 4; omega) hg1 hg2 (by omega) (map_GS ss) gall
  rw [map_GS, fa] at yes
  -- one end not final
  have hp0 := Nat.mod_lt p0 (show 0 < 16 by decide)
  have m16 : modD (dN p0) (.int 16) = some (dN (p0 % 16)) := by
    rw [mod_ii (by decide)]
    congr 2
  have lE2 : E2.length = 16 := by rw [← hE2]; simp [endsL]
  have xl : ixD (.list (E2.map dN)) (dN (p0 % 16)) = some (dN (E2.getD (p0 % 16) 0)) := ix_eL (by omega)
  have lostE : E2.getD (p0 % 16) 0 = ends M2 false ss (P M2 false ss (p0 % 16 + 1)) 0 := by
    rw [← hE2]
    unfold endsL
    rw [List.getD_eq_getElem?_getD, List.getElem?_map, List.getElem?_range hp0]
    rfl
  generalize hlost : E2.getD (p0 % 16) 0 = lost at xl lostE
  let W : Mc := ⟨M2.L, M2.rows, (wf M2 E2).fin.filter fun p => !decide (p = lost)⟩
  have okW : W.Ok := ok_fin ok2 _
  have faW : fitAll (wf M1 E1) W ss = false := by
    unfold fitAll
    rw [← Bool.not_eq_true, List.all_eq_true]
    intro z
    have z := z (p0 % 16) (List.mem_range.mpr hp0)
    unfold fit at z
    rw [Bool.and_eq_true] at z
    have z := of_decide_eq_true z.2
    have e : ends W false ss (P W false ss (p0 % 16 + 1)) 0 = lost := by
      show ends W false ss (P M2 false ss (p0 % 16 + 1)) 0 = lost
      rw [ends_fin, lostE]
    rw [e] at z
    have := (List.mem_filter.mp z).2
    simp at this
  have no := bond_yes (m1 := wf M1 E1) (m2 := W) (gs := ss.map toGS) ok1.L3 okg1 okW (by show M1.n ≤ 4; omega) (by show M2.n ≤ 4; omega) hg1 hg2 (by omega) (map_GS ss) gall
  rw [map_GS, faW] at no
  have lcW : lcO (some ((wf M2 E2).fin.map dN)) (gN 18) (toT (o2 neD (eW 18) (eW 10))) (eV 18) [sh (scrD ns), sh (.list [dN a, dN b, dN c, dN d, dN f]), sh (dN L), sh (eM M1), sh (eM M2), sh (.list (ss.map Stp.enc)), sh (.list [dN p0, dN p1, dN p2, dN p3, dN p4, dN p5]), sh (.list (E1.map dN)), sh (.list (E2.map dN)), sh (.list [eM (wf M1 E1), eM (wf M2 E2)]), sh (dN lost), none, none, none, none, none, none, none, none] = some (.list (W.fin.map dN)) := by
    have hz : (wf M2 E2).fin.length ≤ 1000 := by
      have h1 := List.length_filter_le (fun p => decide (p ∈ M2.fin) || decide (p ∈ E2)) (List.range M2.n)
      rw [List.length_range] at h1
      have h2 := ok2.big
      show (List.filter _ _).length ≤ 1000
      omega
    rw [lcO_s (by rw [List.length_map]; omega)]
    have := lcL_filter (i := 18) (t := toT (o2 neD (eW 18) (eW 10))) (a := eV 18) (ρ := [sh (scrD ns), sh (.list [dN a, dN b, dN c, dN d, dN f]), sh (dN L), sh (eM M1), sh (eM M2), sh (.list (ss.map Stp.enc)), sh (.list [dN p0, dN p1, dN p2, dN p3, dN p4, dN p5]), sh (.list (E1.map dN)), sh (.list (E2.map dN)), sh (.list [eM (wf M1 E1), eM (wf M2 E2)]), sh (dN lost), none, none, none, none, none, none, none, none]) dN (fun p => !decide (p = lost)) dN (wf M2 E2).fin (fun p _ => by
      have e : neD (dN p) (dN lost) = some (.bool (!decide (p = lost))) := by
        rw [ne_ii]
        congr 3
        exact decide_eq_decide.mpr (by omega)
      simp only [sh, dv, e]) (fun p _ _ => by simp only [sh, dv])
    rw [this]
    rfl
  have itW : itemsD (.tuple ((wf M2 E2).fin.map dN)) = some ((wf M2 E2).fin.map dN) := rfl
  have tpW : tupF [.list (W.fin.map dN)] = some (.tuple (W.fin.map dN)) := rfl
  have eW' : PyData.tuple [dN L, eT (wf M2 E2), .tuple (W.fin.map dN)] = eM W := by
    show PyData.tuple [dN L, eT W, .tuple (W.fin.map dN)] = PyData.tuple [dN M2.L, eT W, .tuple (W.fin.map dN)]
    rw [L2]
  -- papers
  have lf : lstF [.list (ss.map Stp.enc)] = some (.list (ss.map Stp.enc)) := rfl
  have isnT : isnD (.bool true) (.bool true) = some (.bool false) := rfl
  have isF : isD (.bool false) (.bool false) = some (.bool true) := rfl
  have xg1 : ixD (.list [eM (wf M1 E1), eM (wf M2 E2)]) (.int 1) = some (eM (wf M2 E2)) := ix_l (i := 1) rfl
  have y1 : ixD (.list [dN a, dN b, dN c, dN d, dN f]) (.int 1) = some (dN b) := ix_l (i := 1) rfl
  have y2 : ixD (.list [dN a, dN b, dN c, dN d, dN f]) (.int 2) = some (dN c) := ix_l (i := 2) rfl
  have y3 : ixD (.list [dN a, dN b, dN c, dN d, dN f]) (.int 3) = some (dN d) := ix_l (i := 3) rfl
  have z1 : ixD (.list [dN p0, dN p1, dN p2, dN p3, dN p4, dN p5]) (.int 1) = some (dN p1) := ix_l (i := 1) rfl
  have z5 : ixD (.list [dN p0, dN p1, dN p2, dN p3, dN p4, dN p5]) (.int 5) = some (dN p5) := ix_l (i := 5) rfl
  have q1 : addD (.list (ss.map Stp.enc)) (.list [.tuple [.str "letter", .int 0]]) = some (.list (ss.map Stp.enc ++ [.tuple [.str "letter", .int 0]])) := add_L (by simp; omega)
  have q2 : addD (.list [.tuple [.str "letter", .int ((L : Int) - 1)]]) (.list (ss.map Stp.enc)) = some (.list ([.tuple [.str "letter", .int ((L : Int) - 1)]] ++ ss.map Stp.enc)) := add_L (by simp; omega)
  have q3 : slD (.list (ss.map Stp.enc)) (some 1) none = some (.list ((ss.map Stp.enc).drop 1)) := sl_dropL _ 1
  have q4 : addD (.list (ss.map Stp.enc)) (.list (ss.map Stp.enc)) = some (.list (ss.map Stp.enc ++ ss.map Stp.enc)) := add_L (by simp; omega)
  let g0 := ss.map toGS
  have hg0 : encG g0 = .list (ss.map Stp.enc) := by
    show PyData.list ((ss.map toGS).map GS.enc) = _
    rw [map_GS]
  have sm0 : ∀ g ∈ g0, g.small := fun g hg' => by
    obtain ⟨s, hs, rfl⟩ := List.mem_map.mp hg'
    exact good_small (hg s hs)
  have lg0 : g0.length ≤ 3 := by
    show (ss.map toGS).length ≤ 3
    rw [List.length_map]
    omega
  let ps : List (List GS) := [g0, [], g0 ++ [.lt 0], [.lt ((L : Int) - 1)] ++ g0, g0.drop 1, g0 ++ g0]
  have hps : ∀ gs ∈ ps, okG gs := fun gs h => by
    have app : ∀ {x y : List GS}, (∀ g ∈ x, g.small) → (∀ g ∈ y, g.small) → ∀ g ∈ x ++ y, g.small := fun h1 h2 g hg => (List.mem_append.mp hg).elim (h1 g) (h2 g)
    have one : ∀ i : Int, ∀ g ∈ [GS.lt i], g.small := fun i g hg => by rw [List.mem_singleton.mp hg]; trivial
    simp only [ps, List.mem_cons, List.not_mem_nil, or_false] at h
    rcases h with rfl | rfl | rfl | rfl | rfl | rfl
    · exact ⟨sm0, by omega⟩
    · exact ⟨fun g hg => (by cases hg), by simp⟩
    · exact ⟨app sm0 (one _), by simp; omega⟩
    · exact ⟨app (one _) sm0, by simp; omega⟩
    · exact ⟨fun g hg => sm0 g (List.mem_of_mem_drop hg), by simp; omega⟩
    · exact ⟨app sm0 sm0, by simp; omega⟩
  have encps : PyData.list [.list (ss.map Stp.enc), .list [], .list (ss.map Stp.enc ++ [.tuple [.str "letter", .int 0]]), .list ([.tuple [.str "letter", .int ((L : Int) - 1)]] ++ ss.map Stp.enc), .list ((ss.map Stp.enc).drop 1), .list (ss.map Stp.enc ++ ss.map Stp.enc)] = .list (ps.map encG) := by
    have e := map_GS ss
    show _ = PyData.list [.list (g0.map GS.enc), .list [], .list ((g0 ++ [GS.lt 0]).map GS.enc), .list (([GS.lt ((L : Int) - 1)] ++ g0).map GS.enc), .list ((g0.drop 1).map GS.enc), .list ((g0 ++ g0).map GS.enc)]
    rw [List.map_append, List.map_append, List.map_append, List.map_drop]
    show _ = PyData.list [.list ((ss.map toGS).map GS.enc), .list [], .list ((ss.map toGS).map GS.enc ++ [.tuple [.str "letter", .int 0]]), .list ([.tuple [.str "letter", .int ((L : Int) - 1)]] ++ (ss.map toGS).map GS.enc), .list (((ss.map toGS).map GS.enc).drop 1), .list ((ss.map toGS).map GS.enc ++ (ss.map toGS).map GS.enc)]
    rw [e]
  have l6 : lstO [.list (ss.map Stp.enc), .list [], .list (ss.map Stp.enc ++ [.tuple [.str "letter", .int 0]]), .list ([.tuple [.str "letter", .int ((L : Int) - 1)]] ++ ss.map Stp.enc), .list ((ss.map Stp.enc).drop 1), .list (ss.map Stp.enc ++ ss.map Stp.enc)] = some (.list (ps.map encG)) := by
    rw [lstO_s (by simp), encps]
  have gl : gtD (dN ss.length) (.int 0) = some (.bool (decide (0 < ss.length))) := by
    rw [gt_ii]
    congr 2
    exact decide_eq_decide.mpr (by omega)
  have lenS : lenF [.list (ss.map Stp.enc)] = some (dN ss.length) := by rw [len_l, List.length_map]
  -- the part behind the papers
  let pre : Option Sl → Option Sl → DV.Env := fun o13 o14 => [sh (scrD ns), sh (.list [dN a, dN b, dN c, dN d, dN f]), sh (dN L), sh (eM M1), sh (eM M2), sh (.list (ss.map Stp.enc)), sh (.list [dN p0, dN p1, dN p2, dN p3, dN p4, dN p5]), sh (.list (E1.map dN)), sh (.list (E2.map dN)), sh (.list [eM (wf M1 E1), eM (wf M2 E2)]), sh (dN lost), sh (eM W), some (.own (.list (ps.map encG))), o13, o14, none, none, none, none]
  have rest : ∀ (ps' : List (List GS)), (∀ gs ∈ ps', okG gs) → ∀ o13 o14, endF (thenS (some (.nx [sh (scrD ns), sh (.list [dN a, dN b, dN c, dN d, dN f]), sh (dN L), sh (eM M1), sh (eM M2), sh (.list (ss.map Stp.enc)), sh (.list [dN p0, dN p1, dN p2, dN p3, dN p4, dN p5]), sh (.list (E1.map dN)), sh (.list (E2.map dN)), sh (.list [eM (wf M1 E1), eM (wf M2 E2)]), sh (dN lost), sh (eM W), some (.own (.list (ps'.map encG))), o13, o14, none, none, none, none]))
      (sSeq (sFrz 12 (sFor (iAny (eV 12)) (gN 15) L2_law)) (sSeq (sFor (iAny (eSl (eW 12) pN (pS (eC (.int 2))))) (gN 15) L3_law)
    (sRet (o2 isD (eCall F_is_bond (lC (o2 ixD (eW 9) (eC (.int 0))) (lC (eV 11) (lC (eCall lstF (lC (eW 5) lN)) lN)))) (eC (.bool false))))))) = some (.bool true) := by
    intro ps' hps' o13 o14
    obtain ⟨o15, o16, o17, f2⟩ := loop2 (g1 := wf M1 E1) (g2 := wf M2 E2) (a0 := sh (scrD ns)) (a1 := sh (.list [dN a, dN b, dN c, dN d, dN f])) (a2 := sh (dN L)) (a3 := sh (eM M1)) (a4 := sh (eM M2)) (a5 := sh (.list (ss.map Stp.enc))) (a6 := sh (.list [dN p0, dN p1, dN p2, dN p3, dN p4, dN p5])) (a7 := sh (.list (E1.map dN))) (a8 := sh (.list (E2.map dN))) (a10 := sh (dN lost)) (a11 := sh (eM W)) (a12 := sh (.list (ps'.map encG))) (a13 := o13) (a14 := o14) (a15 := none) (a16 := none) (a17 := none) (a18 := none) (by show M1.L = M2.L; rw [L1, L2]) okg1 okg2 (by show M1.n ≤ 4; omega) (by show M2.n ≤ 4; omega) ps' hps'
    obtain ⟨o15', f3⟩ := loop3 (m1 := M1) (m2 := M2) (a0 := sh (scrD ns)) (a1 := sh (.list [dN a, dN b, dN c, dN d, dN f])) (a2 := sh (dN L)) (a5 := sh (.list (ss.map Stp.enc))) (a6 := sh (.list [dN p0, dN p1, dN p2, dN p3, dN p4, dN p5])) (a7 := sh (.list (E1.map dN))) (a8 := sh (.list (E2.map dN))) (a9 := sh (.list [eM (wf M1 E1), eM (wf M2 E2)])) (a10 := sh (dN lost)) (a11 := sh (eM W)) (a12 := sh (.list (ps'.map encG))) (a13 := o13) (a14 := o14) (a15 := o15) (a16 := o16) (a17 := o17) (a18 := none) (by rw [L1, L2]) ok1 ok2 (by omega) (by omega) (ps'.take 2) (fun gs h => hps' gs (List.mem_of_mem_take h))
    have it : itemsD (.list (ps'.map encG)) = some (ps'.map encG) := rfl
    have sl : slD (.list (ps'.map encG)) none (some 2) = some (.list ((ps'.take 2).map encG)) := by rw [List.map_take]; exact sl_takeL _ 2
    have it2 : itemsD (.list ((ps'.take 2).map encG)) = some ((ps'.take 2).map encG) := rfl
    simp only [sh] at f2 f3
    simp only [sh, dv, it, f2, sl, it2, f3, lf, no, isF]
  simp only [sh] at lcW rest
  have b4 : ((b % 4 : Nat) : Int) = ((b % 4 : Nat) : Int) := rfl
  cases hss : decide (0 < ss.length) with
  | false =>
    rw [hss] at gl
    have rr := rest ps hps none none
    rw [thenS_nx] at rr
    simp only [bind0_s, dv0, dv] at rr ⊢
    simp only [dv, d1, m1, m3, y1, y2, y3, hm, m4, e1, e2, e3, d3, x1, x2, w1, w2, lf, xg1, yes, isnT, m16, xl, ix_M1, ix_M2, itW, lcW, tpW, eW', q1, q2, q3, q4, l6, lenS, gl]
    exact rr
  | true =>
    rw [hss] at gl
    have hpos : 0 < ss.length := of_decide_eq_true hss
    have hp1 := Nat.mod_lt p1 hpos
    have mm : modD (dN p1) (dN ss.length) = some (dN (p1 % ss.length)) := mod_ii (by omega)
    generalize p1 % ss.length = at_ at mm hp1
    have xs : ixD (.list (ss.map Stp.enc)) (dN at_) = some (ss[at_]).enc := ix_l (by rw [List.getElem?_map, List.getElem?_eq_getElem hp1]; rfl)
    have sp : slD (.list [dN p0, dN p1, dN p2, dN p3, dN p4, dN p5]) (some 2) none = some (.list ([p2, p3, p4, p5].map dN)) := sl_dropL _ 2
    obtain ⟨bs, be, bsm, bl⟩ := bent_eq (L := L) (s := ss[at_]) (pk := [p2, p3, p4, p5]) (by omega) (hg _ (List.getElem_mem hp1)) (by simp)
    rw [show [p2, p3, p4, p5].map dN = [dN p2, dN p3, dN p4, dN p5] from rfl] at be
    have m5 : modD (dN p5) (.int 2) = some (.int ((p5 : Int) % 2)) := mod_ii (by decide)
    have pk : slsD (.list (bs.map GS.enc)) (some ((p5 : Int) % 2)) none (some 2) = some (.list ((pickD bs (some ((p5 : Int) % 2)) none (some 2)).map GS.enc)) := by
      simp only [slsD]
      rw [if_neg (by decide), pick_map]
    have itb : ∀ z : List GS, itemsD (.list (z.map GS.enc)) = some (z.map GS.enc) := fun z => rfl
    have pl : (pickD bs (some ((p5 : Int) % 2)) none (some 2)).length ≤ 100 := Nat.le_trans (pick_len _ _ _ _) bl
    obtain ⟨o14, ps', f1, hps'⟩ := loop1 (g0 := g0) (at_ := at_) (a0 := sh (scrD ns)) (a1 := sh (.list [dN a, dN b, dN c, dN d, dN f])) (a2 := sh (dN L)) (a3 := sh (eM M1)) (a4 := sh (eM M2)) (a6 := sh (.list [dN p0, dN p1, dN p2, dN p3, dN p4, dN p5])) (a7 := sh (.list (E1.map dN))) (a8 := sh (.list (E2.map dN))) (a9 := sh (.list [eM (wf M1 E1), eM (wf M2 E2)])) (a10 := sh (dN lost)) (a11 := sh (eM W)) (a14 := none) (a15 := none) (a16 := none) (a17 := none) (a18 := none) (pickD bs (some ((p5 : Int) % 2)) none (some 2)) (fun g h => bsm g (pick_mem h)) pl sm0 lg0 ps hps (by simp [ps])
    rw [hg0] at f1
    simp only [sh] at f1
    have rr := rest ps' hps' (some (.shr (dN at_))) o14
    rw [thenS_nx] at rr
    simp only [bind0_s, dv0, dv] at rr ⊢
    simp only [dv, eSlS, d1, m1, m3, y1, y2, y3, hm, m4, e1, e2, e3, d3, x1, x2, w1, w2, lf, xg1, yes, isnT, m16, xl, ix_M1, ix_M2, itW, lcW, tpW, eW', q1, q2, q3, q4, l6, lenS, gl, z1, mm, xs, sp, be, z5, m5, pk, itb, f1]
    exact rr
end G80

open PySem PySem.W PyProof.Rows
set_option maxRecDepth 100000 in
set_option maxHeartbeats 0 in
theorem PySem.Challenge.cw_viewedwords_k80_judge_of_bonds_holds : PySem.Challenge.rw_viewedwords_k80_judge_of_bonds.Holds := by
  w_on; o_law; k_head; (case hw => w_witness2)
  k_fill
  refine G80.walk (l := PySem.Challenge.rw_viewedwords_k80_judge_of_bonds) rfl rfl (fun w h Y => PySem.W.kIn_of Y) ?F
  case F =>
    intro w mg fa h KX G hmg
    refine' G80.all_mk G80.law_true KX G hmg ?a0 ?l0 ?c0 ?k0 ?a1 ?l1 ?c1 ?k1 ?a2 ?l2 ?c2 ?k2 ?a3 ?l3 ?c3 ?k3 ?a4 ?l4 ?c4 ?k4 ?a5 ?l5 ?c5 ?k5 ?a6 ?l6 ?c6 ?k6 ?a7 ?l7 ?c7 ?k7 ?a8 ?l8 ?c8 ?k8 ?a9 ?l9 ?c9 ?k9 ?a10 ?l10 ?c10 ?k10 ?a11 ?l11 ?c11 ?k11 ?a12 ?l12 ?c12 ?k12 ?a13 ?l13 ?c13 ?k13 ?a14 ?l14 ?c14 ?k14 ?a15 ?l15 ?c15 ?k15 ?a16 ?l16 ?c16 ?k16 ?a17 ?l17 ?c17 ?k17 ?a18 ?l18 ?c18 ?k18 ?a19 ?l19 ?c19 ?k19 ?a20 ?l20 ?c20 ?k20 ?a21 ?l21 ?c21 ?k21 ?a22 ?l22 ?c22 ?k22 ?a23 ?l23 ?c23 ?k23 ?a24 ?l24 ?c24 ?k24 ?a25 ?l25 ?c25 ?k25 ?a26 ?l26 ?c26 ?k26 ?a27 ?l27 ?c27 ?k27 ?a28 ?l28 ?c28 ?k28 ?z_abs ?z_bool ?z_int ?z_isinstance ?z_len ?z_list ?z_range ?z_sorted ?z_str ?z_sum ?z_tuple ?y_LETTERS
    (case a0 => k_is); (case l0 => k_is); (case c0 => k_is); (case k0 => k_is)
    (case a1 => k_is); (case l1 => k_is); (case c1 => k_is); (case k1 => k_is)
    (case a2 => k_is); (case l2 => k_is); (case c2 => k_is); (case k2 => k_is)
    (case a3 => k_is); (case l3 => k_is); (case c3 => k_is); (case k3 => k_is)
    (case a4 => k_is); (case l4 => k_is); (case c4 => k_is); (case k4 => k_is)
    (case a5 => k_is); (case l5 => k_is); (case c5 => k_is); (case k5 => k_is)
    (case a6 => k_is); (case l6 => k_is); (case c6 => k_is); (case k6 => k_is)
    (case a7 => k_is); (case l7 => k_is); (case c7 => k_is); (case k7 => k_is)
    (case a8 => k_is); (case l8 => k_is); (case c8 => k_is); (case k8 => k_is)
    (case a9 => k_is); (case l9 => k_is); (case c9 => k_is); (case k9 => k_is)
    (case a10 => k_is); (case l10 => k_is); (case c10 => k_is); (case k10 => k_is)
    (case a11 => k_is); (case l11 => k_is); (case c11 => k_is); (case k11 => k_is)
    (case a12 => k_is); (case l12 => k_is); (case c12 => k_is); (case k12 => k_is)
    (case a13 => k_is); (case l13 => k_is); (case c13 => k_is); (case k13 => k_is)
    (case a14 => k_is); (case l14 => k_is); (case c14 => k_is); (case k14 => k_is)
    (case a15 => k_is); (case l15 => k_is); (case c15 => k_is); (case k15 => k_is)
    (case a16 => k_is); (case l16 => k_is); (case c16 => k_is); (case k16 => k_is)
    (case a17 => k_is); (case l17 => k_is); (case c17 => k_is); (case k17 => k_is)
    (case a18 => k_is); (case l18 => k_is); (case c18 => k_is); (case k18 => k_is)
    (case a19 => k_is); (case l19 => k_is); (case c19 => k_is); (case k19 => k_is)
    (case a20 => k_is); (case l20 => k_is); (case c20 => k_is); (case k20 => k_is)
    (case a21 => k_is); (case l21 => k_is); (case c21 => k_is); (case k21 => k_is)
    (case a22 => k_is); (case l22 => k_is); (case c22 => k_is); (case k22 => k_is)
    (case a23 => k_is); (case l23 => k_is); (case c23 => k_is); (case k23 => k_is)
    (case a24 => k_is); (case l24 => k_is); (case c24 => k_is); (case k24 => k_is)
    (case a25 => k_is); (case l25 => k_is); (case c25 => k_is); (case k25 => k_is)
    (case a26 => k_is); (case l26 => k_is); (case c26 => k_is); (case k26 => k_is)
    (case a27 => k_is); (case l27 => k_is); (case c27 => k_is); (case k27 => k_is)
    (case a28 => k_is); (case l28 => k_is); (case c28 => k_is); (case k28 => k_is)
    (case z_abs => k_is); (case z_bool => k_is); (case z_int => k_is); (case z_isinstance => k_is)
    (case z_len => k_is); (case z_list => k_is); (case z_range => k_is); (case z_sorted => k_is)
    (case z_str => k_is); (case z_sum => k_is); (case z_tuple => k_is); (case y_LETTERS => k_is)

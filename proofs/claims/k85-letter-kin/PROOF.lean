import PyProof.Rows.All
import Wide.All
import OpenK.AllK
import Wide.FinOn
import HandS.ForMost
import KE.KDictKeyed
import HandS.TupAny
import HandS.Deep
import HandS.TupLe
import HandS.WordsDict
import PyProof.StrOps2
import HandS.IsInst
import HandS.Style
import HandS.StrMore
import HandS.TupLen
import HandS.Replace
import HandS.Conv
import HandS.More
import HandS.DictComp
import PyProof.SliceList
import KE.KRevSl
import HandS.SortRule
import HandS.SortKw
import HandS.Keys
import KE.KSortKey
import HandS.SortInts
import HandS.ListItems
import HandS.TupSets
import KE.KDictDisplayH
import KE.DataMinMax
import KE.SortData
import KE.KMinKey
import PySem.Challenge.RW_viewedwords_k85_letter_kin
set_option Elab.async false
set_option linter.all false
set_option Elab.async false
set_option linter.all false
set_option maxRecDepth 100000
/-! DVa: plain data (PyData) over the abstract heap: what is frozen (G), what a slot owns; canonical readings. -/
namespace DV
open PySem PySem.Spec PyProof.Rows L2

/-- data; a dict carries its kind ahead of its pairs: (none, 0) keys are ints and texts, (none, 1) flat tuples of these, (none, 2) nested tuples -/
abbrev D := PyData
abbrev St := L2.St
structure Wd where
  P : Program
  w : World
  K : PySem.W.Frag
def keyD : Key → D
  | .inl i => .int i
  | .inr x => .str x
mutual
def nkD : NestedKey → D
  | .none => .none
  | .num i => .int i
  | .text x => .str x
  | .tup ks => .tuple (nkDs ks)
def nkDs : List NestedKey → List D
  | [] => []
  | k :: ks => nkD k :: nkDs ks
end
/-- the entries of a dict with nested tuples as keys, as they stand -/
def rawN (W : Wd) (a : Addr) (xs : List (NestedKey × Addr × V)) (h : Heap) : Prop :=
  ∃ (vs : List (NestedKey × Addr × Value)) (o : Obj) (es : Array DictEntry) (ep : Nat), Paired (fun (p : NestedKey × Addr × V) (q : NestedKey × Addr × Value) => p.1 = q.1 ∧ p.2.1 = q.2.1 ∧ RelV p.2.2 q.2.2) xs vs ∧
    h.get? a = some o ∧ o.ExactDict ∧ o.data = .dict es ep ∧ es.toList = vs.map (entryOfKey (nestedKind W.P W.w)) ∧ (a == sysModules) = false ∧ (xs.map (·.1)).Nodup ∧ xs.length ≤ sizeLine
/-- the script, which is only read -/
def scrD (ns : List Int) : D := .dict [(.none, .list (ns.map .int))]
mutual
inductive Rep (W : Wd) (G : Hp) : D → V → Prop
  | non : Rep W G .none .non
  | bl (b : Bool) : Rep W G (.bool b) (.bl b)
  | int (i : Int) : Rep W G (.int i) (.int i)
  | str (x : Str) : Rep W G (.str x) (.str x)
  | scr {a : Addr} {ns : List Int} : SqL W.K G a (ns.map V.int) → Rep W G (scrD ns) (.ref a)
  | lst {a : Addr} {xs : List V} {ds : List D} : G a = some (.lst xs) → Reps W G ds xs → Rep W G (.list ds) (.ref a)
  | tup {a : Addr} {xs : List V} {ds : List D} : G a = some (.tup xs) → Reps W G ds xs → Rep W G (.tuple ds) (.ref a)
  | dcK {a : Addr} {od : Obj} {kv : List (Key × V)} {kvs : List (D × D)} : G a = some (.frz od (.dK kv)) → kvs.map (·.1) = kv.map (fun p => keyD p.1) → Reps W G (kvs.map (·.2)) (kv.map (·.2)) → Rep W G (.dict ((.none, .int 0) :: kvs)) (.ref a)
  | dcT {a : Addr} {od : Obj} {kv : List (List Key × V)} {kvs : List (D × D)} : G a = some (.frz od (.dT kv)) → kvs.map (·.1) = kv.map (fun p => .tuple (p.1.map keyD)) → Reps W G (kvs.map (·.2)) (kv.map (·.2)) → Rep W G (.dict ((.none, .int 1) :: kvs)) (.ref a)
  | dcN {a : Addr} {kv : List (NestedKey × Addr × V)} {kvs : List (D × D)} : G a = some (.ext (rawN W a kv)) → kvs.map (·.1) = kv.map (fun p => nkD p.1) → Reps W G (kvs.map (·.1)) (kv.map (fun p => .ref p.2.1)) → Reps W G (kvs.map (·.2)) (kv.map (·.2.2)) → Rep W G (.dict ((.none, .int 2) :: kvs)) (.ref a)
inductive Reps (W : Wd) (G : Hp) : List D → List V → Prop
  | nil : Reps W G [] []
  | cons {d : D} {ds : List D} {v : V} {vs : List V} : Rep W G d v → Reps W G ds vs → Reps W G (d :: ds) (v :: vs)
end
section
variable {W : Wd} {G G' H H' : Hp}
mutual
theorem Rep.mono (s : Same G G') : ∀ {d : D} {v : V}, Rep W G d v → Rep W G' d v
  | _, _, .non => .non
  | _, _, .bl b => .bl b
  | _, _, .int i => .int i
  | _, _, .str x => .str x
  | _, _, .scr h => .scr (s.seq h)
  | _, _, .lst h r => .lst (s _ _ h) (Reps.mono s r)
  | _, _, .tup h r => .tup (s _ _ h) (Reps.mono s r)
  | _, _, .dcK h k r => .dcK (s _ _ h) k (Reps.mono s r)
  | _, _, .dcT h k r => .dcT (s _ _ h) k (Reps.mono s r)
  | _, _, .dcN h k r r' => .dcN (s _ _ h) k (Reps.mono s r) (Reps.mono s r')
theorem Reps.mono (s : Same G G') : ∀ {d : List D} {v : List V}, Reps W G d v → Reps W G' d v
  | _, _, .nil => .nil
  | _, _, .cons r t => .cons (Rep.mono s r) (Reps.mono s t)
end
theorem Reps.length : ∀ {ds : List D} {vs : List V}, Reps W G ds vs → ds.length = vs.length
  | _, _, .nil => rfl
  | _, _, .cons _ t => congrArg (· + 1) (Reps.length t)
theorem Reps.get : ∀ {ds : List D} {vs : List V} {i : Nat} {d : D}, Reps W G ds vs → ds[i]? = some d → ∃ v, vs[i]? = some v ∧ Rep W G d v
  | _, _, i, _, .nil, e => by simp at e
  | _, _, 0, _, .cons r _, e => by simp at e; subst e; exact ⟨_, rfl, r⟩
  | _, _, i + 1, d, .cons _ t, e => by
    obtain ⟨u, h1, h2⟩ := Reps.get (i := i) (d := d) t (by simpa using e)
    exact ⟨u, by simpa using h1, h2⟩
theorem Reps.getV : ∀ {ds : List D} {vs : List V} {i : Nat} {v : V}, Reps W G ds vs → vs[i]? = some v → ∃ d, ds[i]? = some d ∧ Rep W G d v
  | _, _, i, _, .nil, e => by simp at e
  | _, _, 0, _, .cons r _, e => by simp at e; subst e; exact ⟨_, rfl, r⟩
  | _, _, i + 1, d, .cons _ t, e => by
    obtain ⟨u, h1, h2⟩ := Reps.getV (i := i) (v := d) t (by simpa using e)
    exact ⟨u, by simpa using h1, h2⟩
theorem Reps.append : ∀ {ds es : List D} {vs us : List V}, Reps W G ds vs → Reps W G es us → Reps W G (ds ++ es) (vs ++ us)
  | _, _, _, _, .nil, s => s
  | _, _, _, _, .cons r t, s => .cons r (Reps.append t s)
theorem Reps.snoc {ds : List D} {vs : List V} {d : D} {v : V} (r : Reps W G ds vs) (q : Rep W G d v) : Reps W G (ds ++ [d]) (vs ++ [v]) := r.append (.cons q .nil)
theorem Reps.set {d : D} {v : V} (q : Rep W G d v) : ∀ {ds : List D} {vs : List V} (i : Nat), Reps W G ds vs → Reps W G (ds.set i d) (vs.set i v)
  | _, _, _, .nil => .nil
  | _, _, 0, .cons _ t => .cons q t
  | _, _, i + 1, .cons r t => .cons r (Reps.set q i t)
theorem Reps.take : ∀ {ds : List D} {vs : List V} (n : Nat), Reps W G ds vs → Reps W G (ds.take n) (vs.take n)
  | _, _, 0, _ => .nil
  | _, _, _ + 1, .nil => .nil
  | _, _, n + 1, .cons r t => .cons r (Reps.take n t)
theorem Reps.drop : ∀ {ds : List D} {vs : List V} (n : Nat), Reps W G ds vs → Reps W G (ds.drop n) (vs.drop n)
  | _, _, 0, r => r
  | _, _, _ + 1, .nil => .nil
  | _, _, n + 1, .cons _ t => Reps.drop n t
theorem Reps.reverse : ∀ {ds : List D} {vs : List V}, Reps W G ds vs → Reps W G ds.reverse vs.reverse
  | _, _, .nil => .nil
  | _, _, .cons r t => by rw [List.reverse_cons, List.reverse_cons]; exact (Reps.reverse t).snoc r
end

/-- what stands at the address of an owned thing: its parts are frozen -/
inductive Top (W : Wd) (G H : Hp) : D → Addr → Prop
  | lst {a : Addr} {xs : List V} {ds : List D} : H a = some (.lst xs) → Reps W G ds xs → Top W G H (.list ds) a
  | dcK {a : Addr} {kv : List (Key × V)} {kvs : List (D × D)} : H a = some (.dK kv) → kvs.map (·.1) = kv.map (fun p => keyD p.1) → Reps W G (kvs.map (·.2)) (kv.map (·.2)) → Top W G H (.dict ((.none, .int 0) :: kvs)) a
  | dcT {a : Addr} {kv : List (List Key × V)} {kvs : List (D × D)} : H a = some (.dT kv) → kvs.map (·.1) = kv.map (fun p => .tuple (p.1.map keyD)) → Reps W G (kvs.map (·.2)) (kv.map (·.2)) → Top W G H (.dict ((.none, .int 1) :: kvs)) a
  | dcN {a : Addr} {kv : List (NestedKey × Addr × V)} {kvs : List (D × D)} : H a = some (.ext (rawN W a kv)) → kvs.map (·.1) = kv.map (fun p => nkD p.1) → Reps W G (kvs.map (·.1)) (kv.map (fun p => .ref p.2.1)) → Reps W G (kvs.map (·.2)) (kv.map (·.2.2)) → Top W G H (.dict ((.none, .int 2) :: kvs)) a
section
variable {W : Wd} {G G' H H' : Hp} {d : D} {a : Addr}
theorem Top.mono (s : Same G G') (e : H' a = H a) (t : Top W G H d a) : Top W G' H' d a := by
  cases t with
  | lst h r => exact .lst (e.trans h) (r.mono s)
  | dcK h k r => exact .dcK (e.trans h) k (r.mono s)
  | dcT h k r => exact .dcT (e.trans h) k (r.mono s)
  | dcN h k r r' => exact .dcN (e.trans h) k (r.mono s) (r'.mono s)
theorem Top.at (t : Top W G H d a) : ∃ o, H a = some o := by
  cases t with
  | lst h r => exact ⟨_, h⟩
  | dcK h k r => exact ⟨_, h⟩
  | dcT h k r => exact ⟨_, h⟩
  | dcN h k r r' => exact ⟨_, h⟩
theorem Top.same (s : Same G G') (sh : Same H H') (t : Top W G H d a) : Top W G' H' d a := by
  obtain ⟨o, e⟩ := t.at
  exact t.mono s ((sh _ _ e).trans e.symm)
theorem Top.mut (t : Top W G H d a) : Mut (H a) := by
  cases t with
  | lst h r => rw [h]; trivial
  | dcK h k r => rw [h]; trivial
  | dcT h k r => rw [h]; trivial
  | dcN h k r r' => rw [h]; trivial
end

/-! ### environments -/
inductive Sl where
  | shr (d : D)
  | own (d : D)
abbrev Env := List (Option Sl)

structure Rp (W : Wd) (B G H : Hp) (ρ : Env) (σ : St) : Prop where
  bh : Same B H
  gh : Same G H
  len : ρ.length = σ.length
  shr : ∀ (i : Nat) d, ρ[i]? = some (some (.shr d)) → ∃ v, σ[i]? = some (some v) ∧ Rep W G d v
  own : ∀ (i : Nat) d, ρ[i]? = some (some (.own d)) → ∃ a, σ[i]? = some (some (.ref a)) ∧ B a = none ∧ G a = none ∧ Top W G H d a
  sep : ∀ (i j : Nat) d e a, ρ[i]? = some (some (.own d)) → ρ[j]? = some (some (.own e)) → σ[i]? = some (some (.ref a)) → σ[j]? = some (some (.ref a)) → i = j

theorem Top.notup {W : Wd} {G H : Hp} {d : D} {a : Addr} {xs : List V} (t : Top W G H d a) : H a ≠ some (.tup xs) := by
  cases t with
  | lst h r => rw [h]; exact fun z => nomatch z
  | dcK h k r => rw [h]; exact fun z => nomatch z
  | dcT h k r => rw [h]; exact fun z => nomatch z
  | dcN h k r r' => rw [h]; exact fun z => nomatch z
/-- nothing stands there that may be owned -/
def Nw (H : Hp) (b : Addr) : Prop := H b = none ∨ ∃ xs, H b = some (.tup xs)
theorem Nw.back {H H' : Hp} {b : Addr} (s : Same H H') (n : Nw H' b) : Nw H b := by
  rcases n with n | ⟨xs, n⟩
  · exact .inl (s.free n)
  · cases q : H b with
    | none => exact .inl q
    | some o =>
      have z := s b o q
      rw [n] at z
      cases z
      exact .inr ⟨xs, q⟩
theorem Top.old {W : Wd} {G H : Hp} {d : D} {a : Addr} (t : Top W G H d a) : ¬ Nw H a := by
  rintro (n | ⟨xs, n⟩)
  · obtain ⟨o, e⟩ := t.at
    rw [n] at e
    cases e
  · exact t.notup n
/-- an expression's step: the heap grows, and what is newly frozen is new -/
structure Gw (G H G' H' : Hp) : Prop where
  g : Same G G'
  h : Same H H'
  gh : Same G' H'
  new : ∀ b o, G' b = some o → G b = some o ∨ Nw H b
theorem Gw.refl {G H : Hp} (s : Same G H) : Gw G H G H := ⟨Same.refl _, Same.refl _, s, fun _ _ e => .inl e⟩
theorem Gw.trans {G H G1 H1 G2 H2 : Hp} (a : Gw G H G1 H1) (b : Gw G1 H1 G2 H2) : Gw G H G2 H2 := ⟨a.g.trans b.g, a.h.trans b.h, b.gh, fun c o e => by
  rcases b.new c o e with e | e
  · exact a.new c o e
  · exact .inr (e.back a.h)⟩
/-- a statement's step -/
structure Gs (B G G' : Hp) : Prop where
  g : Same G G'
  new : ∀ b o, G' b = some o → G b = some o ∨ Nw B b
theorem Gs.refl {B G : Hp} : Gs B G G := ⟨Same.refl _, fun _ _ e => .inl e⟩
theorem Gs.trans {B G G1 G2 : Hp} (a : Gs B G G1) (b : Gs B G1 G2) : Gs B G G2 := ⟨a.g.trans b.g, fun c o e => by
  rcases b.new c o e with e | e
  · exact a.new c o e
  · exact .inr e⟩
theorem Gw.gs {B G H G' H' : Hp} (s : Same B H) (a : Gw G H G' H') : Gs B G G' := ⟨a.g, fun b o e => by
  rcases a.new b o e with e | e
  · exact .inl e
  · exact .inr (e.back s)⟩
section
variable {W : Wd} {B G H G' H' : Hp} {ρ : Env} {σ : St}
theorem Rp.step (r : Rp W B G H ρ σ) (w : Gw G H G' H') : Rp W B G' H' ρ σ where
  bh := r.bh.trans w.h
  gh := w.gh
  len := r.len
  shr := fun i d e => let ⟨v, h1, h2⟩ := r.shr i d e; ⟨v, h1, h2.mono w.g⟩
  own := fun i d e => by
    obtain ⟨a, h1, h2, h3, h4⟩ := r.own i d e
    obtain ⟨o, ho⟩ := h4.at
    refine ⟨a, h1, h2, ?_, h4.same w.g w.h⟩
    cases q : G' a with
    | none => rfl
    | some u =>
      rcases w.new a u q with z | z
      · rw [h3] at z; cases z
      · exact absurd z h4.old
  sep := r.sep
theorem Rp.set_shr (r : Rp W B G H ρ σ) {i : Nat} {d : D} {v : V} (q : Rep W G d v) : Rp W B G H (ρ.set i (some (.shr d))) (σ.set i (some v)) where
  bh := r.bh
  gh := r.gh
  len := by simp [r.len]
  shr := fun j e h => by
    by_cases hj : i = j
    · subst hj
      have hl : i < ρ.length := by
        have := (List.getElem?_eq_some_iff.mp h).1
        simpa using this
      rw [List.getElem?_set_self hl] at h
      cases h
      exact ⟨v, by rw [List.getElem?_set_self (by rw [← r.len]; exact hl)], q⟩
    · rw [List.getElem?_set_ne hj] at h
      rw [List.getElem?_set_ne hj]
      exact r.shr j e h
  own := fun j e h => by
    by_cases hj : i = j
    · subst hj
      have hl : i < ρ.length := by
        have := (List.getElem?_eq_some_iff.mp h).1
        simpa using this
      rw [List.getElem?_set_self hl] at h
      cases h
    · rw [List.getElem?_set_ne hj] at h
      rw [List.getElem?_set_ne hj]
      exact r.own j e h
  sep := fun j k d1 d2 a h1 h2 h3 h4 => by
    by_cases hj : i = j
    · subst hj
      have hl : i < ρ.length := by
        have := (List.getElem?_eq_some_iff.mp h1).1
        simpa using this
      rw [List.getElem?_set_self hl] at h1
      cases h1
    · by_cases hk : i = k
      · subst hk
        have hl : i < ρ.length := by
          have := (List.getElem?_eq_some_iff.mp h2).1
          simpa using this
        rw [List.getElem?_set_self hl] at h2
        cases h2
      · rw [List.getElem?_set_ne hj] at h1 h3
        rw [List.getElem?_set_ne hk] at h2 h4
        exact r.sep j k d1 d2 a h1 h2 h3 h4
/-- a slot comes to own a new thing -/
theorem Rp.set_own (r : Rp W B G H ρ σ) {i : Nat} {d : D} {a : Addr} (hB : B a = none) (hG : G a = none) (t : Top W G H d a) (hn : ∀ (j : Nat) e, ρ[j]? = some (some (.own e)) → σ[j]? ≠ some (some (.ref a))) :
    Rp W B G H (ρ.set i (some (.own d))) (σ.set i (some (.ref a))) where
  bh := r.bh
  gh := r.gh
  len := by simp [r.len]
  shr := fun j e h => by
    by_cases hj : i = j
    · subst hj
      have hl : i < ρ.length := by
        have := (List.getElem?_eq_some_iff.mp h).1
        simpa using this
      rw [List.getElem?_set_self hl] at h
      cases h
    · rw [List.getElem?_set_ne hj] at h
      rw [List.getElem?_set_ne hj]
      exact r.shr j e h
  own := fun j e h => by
    by_cases hj : i = j
    · subst hj
      have hl : i < ρ.length := by
        have := (List.getElem?_eq_some_iff.mp h).1
        simpa using this
      rw [List.getElem?_set_self hl] at h
      cases h
      exact ⟨a, by rw [List.getElem?_set_self (by rw [← r.len]; exact hl)], hB, hG, t⟩
    · rw [List.getElem?_set_ne hj] at h
      rw [List.getElem?_set_ne hj]
      exact r.own j e h
  sep := fun j k d1 d2 b h1 h2 h3 h4 => by
    have hl : ∀ {m : Nat} {x}, (ρ.set i (some (.own d)))[m]? = some x → m < ρ.length := fun {m x} h => by
      have := (List.getElem?_eq_some_iff.mp h).1
      simpa using this
    have hl1 := hl h1
    have hl2 := hl h2
    by_cases hj : i = j
    · subst hj
      by_cases hk : i = k
      · exact hk
      · rw [List.getElem?_set_self (by rw [← r.len]; exact hl1)] at h3
        cases h3
        rw [List.getElem?_set_ne hk] at h2 h4
        exact absurd h4 (hn k d2 h2)
    · rw [List.getElem?_set_ne hj] at h1 h3
      by_cases hk : i = k
      · subst hk
        rw [List.getElem?_set_self (by rw [← r.len]; exact hl2)] at h4
        cases h4
        exact absurd h3 (hn j d1 h1)
      · rw [List.getElem?_set_ne hk] at h2 h4
        exact r.sep j k d1 d2 b h1 h2 h3 h4
/-- the thing that slot i owns is changed -/
theorem Rp.upd_own (r : Rp W B G H ρ σ) {i : Nat} {d d' : D} {a : Addr} {o : HO} (hi : ρ[i]? = some (some (.own d))) (ha : σ[i]? = some (some (.ref a))) (t : Top W G (upd H a o) d' a) :
    Rp W B G (upd H a o) (ρ.set i (some (.own d'))) σ := by
  obtain ⟨a', h1, h2, h3, h4⟩ := r.own i d hi
  rw [ha] at h1
  cases h1
  have hl : i < ρ.length := (List.getElem?_eq_some_iff.mp hi).1
  refine ⟨fun b u e => ?_, fun b u e => ?_, by simp [r.len], fun j e h => ?_, fun j e h => ?_, fun j k d1 d2 b q1 q2 q3 q4 => ?_⟩
  · rw [upd_ne (ne_of_none e h2)]; exact r.bh b u e
  · rw [upd_ne (ne_of_none e h3)]; exact r.gh b u e
  · by_cases hj : i = j
    · subst hj
      rw [List.getElem?_set_self hl] at h
      cases h
    · rw [List.getElem?_set_ne hj] at h
      exact r.shr j e h
  · by_cases hj : i = j
    · subst hj
      rw [List.getElem?_set_self hl] at h
      cases h
      exact ⟨a, ha, h2, h3, t⟩
    · rw [List.getElem?_set_ne hj] at h
      obtain ⟨b, g1, g2, g3, g4⟩ := r.own j e h
      refine ⟨b, g1, g2, g3, g4.mono (Same.refl _) ?_⟩
      rw [upd_ne]
      rintro rfl
      exact hj (r.sep i j d e b hi h ha g1)
  · have pre : ∀ {m : Nat} {x}, (ρ.set i (some (.own d')))[m]? = some (some (.own x)) → ∃ y, ρ[m]? = some (some (.own y)) := fun {m x} h => by
      by_cases hm : i = m
      · subst hm; exact ⟨d, hi⟩
      · rw [List.getElem?_set_ne hm] at h
        exact ⟨x, h⟩
    obtain ⟨y1, z1⟩ := pre q1
    obtain ⟨y2, z2⟩ := pre q2
    exact r.sep j k y1 y2 b z1 z2 q3 q4
/-- slots forgotten -/
theorem Rp.forget (r : Rp W B G H ρ σ) {i : Nat} : Rp W B G H (ρ.set i none) σ where
  bh := r.bh
  gh := r.gh
  len := by simp [r.len]
  shr := fun j e h => by
    by_cases hj : i = j
    · subst hj
      have hl : i < ρ.length := by
        have := (List.getElem?_eq_some_iff.mp h).1
        simpa using this
      rw [List.getElem?_set_self hl] at h
      cases h
    · rw [List.getElem?_set_ne hj] at h
      exact r.shr j e h
  own := fun j e h => by
    by_cases hj : i = j
    · subst hj
      have hl : i < ρ.length := by
        have := (List.getElem?_eq_some_iff.mp h).1
        simpa using this
      rw [List.getElem?_set_self hl] at h
      cases h
    · rw [List.getElem?_set_ne hj] at h
      exact r.own j e h
  sep := fun j k d1 d2 a h1 h2 h3 h4 => by
    by_cases hj : i = j
    · subst hj
      have hl : i < ρ.length := by
        have := (List.getElem?_eq_some_iff.mp h1).1
        simpa using this
      rw [List.getElem?_set_self hl] at h1
      cases h1
    · by_cases hk : i = k
      · subst hk
        have hl : i < ρ.length := by
          have := (List.getElem?_eq_some_iff.mp h2).1
          simpa using this
        rw [List.getElem?_set_self hl] at h2
        cases h2
      · rw [List.getElem?_set_ne hj] at h1
        rw [List.getElem?_set_ne hk] at h2
        exact r.sep j k d1 d2 a h1 h2 h3 h4
end
end DV

set_option Elab.async false
set_option linter.all false
set_option maxRecDepth 100000
/-! DVb: canonical readings of expressions, tests, arguments, statements; names, blocks, if, while, for, return; a def as a function of data. -/
namespace DV
open PySem PySem.Spec PyProof.Rows L2

abbrev _root_.L2.Cx.wd (X : Cx) : Wd := ⟨X.prog, X.w, X.K⟩

def Bor (W : Wd) (G H : Hp) (d : D) (v : V) : Prop := Rep W G d v ∨ ∃ p, v = V.ref p ∧ Top W G H d p
theorem Bor.step {W : Wd} {G H G' H' : Hp} {d : D} {v : V} (b : Bor W G H d v) (w : Gw G H G' H') : Bor W G' H' d v := by
  rcases b with b | ⟨p, e, t⟩
  · exact .inl (b.mono w.g)
  · exact .inr ⟨p, e, t.same w.g w.h⟩
def Frs (W : Wd) (G H G' H' : Hp) (d : D) (v : V) : Prop := ∃ p, v = V.ref p ∧ H p = none ∧ G' p = none ∧ Top W G' H' d p
inductive Bors (W : Wd) (G H : Hp) : List D → List V → Prop
  | nil : Bors W G H [] []
  | cons {d : D} {ds : List D} {v : V} {vs : List V} : Bor W G H d v → Bors W G H ds vs → Bors W G H (d :: ds) (v :: vs)
theorem Bors.step {W : Wd} {G H G' H' : Hp} (w : Gw G H G' H') : ∀ {ds : List D} {vs : List V}, Bors W G H ds vs → Bors W G' H' ds vs
  | _, _, .nil => .nil
  | _, _, .cons b t => .cons (b.step w) (Bors.step w t)

abbrev FE := Env → Option D
abbrev FT := Env → Option Bool
abbrev FL := Env → Option (List D)
/-- frozen, borrowed, new -/
def tF (W : Wd) (F : FE) : TE := fun σ H Q => ∃ B G ρ d, Rp W B G H ρ σ ∧ F ρ = some d ∧ ∀ v G' H', Gw G H G' H' → Rep W G' d v → Q v H'
def tB (W : Wd) (F : FE) : TE := fun σ H Q => ∃ B G ρ d, Rp W B G H ρ σ ∧ F ρ = some d ∧ ∀ v G' H', Gw G H G' H' → Bor W G' H' d v → Q v H'
def tN (W : Wd) (F : FE) : TE := fun σ H Q => ∃ B G ρ d, Rp W B G H ρ σ ∧ F ρ = some d ∧ ∀ v G' H', Gw G H G' H' → Frs W G H G' H' d v → Q v H'
def tT (W : Wd) (F : FT) : TT := fun σ H Q => ∃ B G ρ b, Rp W B G H ρ σ ∧ F ρ = some b ∧ ∀ G' H', Gw G H G' H' → Q b H'
def tAF (W : Wd) (F : FL) : TA := fun σ H Q => ∃ B G ρ ds, Rp W B G H ρ σ ∧ F ρ = some ds ∧ ∀ vs G' H', Gw G H G' H' → Reps W G' ds vs → Q vs H'
def tAB (W : Wd) (F : FL) : TA := fun σ H Q => ∃ B G ρ ds, Rp W B G H ρ σ ∧ F ρ = some ds ∧ ∀ vs G' H', Gw G H G' H' → Bors W G' H' ds vs → Q vs H'
abbrev PF (X : Cx) (e : Expr) (F : FE) : Prop := PE X e (tF X.wd F)
abbrev PB (X : Cx) (e : Expr) (F : FE) : Prop := PE X e (tB X.wd F)
abbrev PN (X : Cx) (e : Expr) (F : FE) : Prop := PE X e (tN X.wd F)
abbrev PTD (X : Cx) (e : Expr) (F : FT) : Prop := PT X e (tT X.wd F)
abbrev PWD (X : Cx) (e : Expr) (F : FT) : Prop := PW X e (tT X.wd F)
abbrev PAF (X : Cx) (es : List Expr) (F : FL) : Prop := PA X es (tAF X.wd F)
abbrev PAB (X : Cx) (es : List Expr) (F : FL) : Prop := PA X es (tAB X.wd F)

section
variable {X : Cx} {e : Expr} {F : FE}
theorem PE.weak {t t' : TE} (h : PE X e t) (i : ∀ σ H Q, t' σ H Q → t σ H Q) : PE X e t' := ⟨fun pins s σ H Q I q => h.run pins s σ H Q I (i σ H Q q)⟩
theorem PT.weak {t t' : TT} (h : PT X e t) (i : ∀ σ H Q, t' σ H Q → t σ H Q) : PT X e t' := ⟨fun pins s σ H Q I q => h.run pins s σ H Q I (i σ H Q q)⟩
theorem PW.weak {t t' : TT} (h : PW X e t) (i : ∀ σ H Q, t' σ H Q → t σ H Q) : PW X e t' := ⟨fun wh pins s σ H Q I q => h.run wh pins s σ H Q I (i σ H Q q)⟩
theorem PA.weak {es : List Expr} {t t' : TA} (h : PA X es t) (i : ∀ σ H Q, t' σ H Q → t σ H Q) : PA X es t' := ⟨fun pos pins s σ H Q I q => h.run pos pins s σ H Q I (i σ H Q q)⟩
theorem PS.weak {st : Stmt} {t t' : TS} (h : PS X st t) (i : ∀ D σ H, t' D σ H → t D σ H) : PS X st t' := ⟨fun pins s σ H D I q => h.run pins s σ H D I (i D σ H q)⟩
theorem PSs.weak {st : List Stmt} {t t' : TS} (h : PSs X st t) (i : ∀ D σ H, t' D σ H → t D σ H) : PSs X st t' := ⟨fun pins s σ H D I q => h.run pins s σ H D I (i D σ H q)⟩

theorem f_b (h : PF X e F) : PB X e F := PE.weak h fun σ H Q ⟨B, G, ρ, d, r, k, q⟩ => ⟨B, G, ρ, d, r, k, fun v G' H' w z => q v G' H' w (.inl z)⟩
theorem n_b (h : PN X e F) : PB X e F := PE.weak h fun σ H Q ⟨B, G, ρ, d, r, k, q⟩ => ⟨B, G, ρ, d, r, k, fun v G' H' w z => by
  obtain ⟨p, e, _, _, t⟩ := z
  exact q v G' H' w (.inr ⟨p, e, t⟩)⟩
theorem upd_same_of {H : Hp} {a : Addr} {o : HO} (h : H a = some o) : upd H a o = H := by
  funext b
  by_cases e : b = a
  · subst e; rw [upd_same, h]
  · rw [upd_ne e]
theorem Gw.freeze {G H G' H' : Hp} {p : Addr} {o u : HO} (w : Gw G H G' H') (hp : H p = none) (hg : G' p = none) (ho : H' p = some o) : Gw G H (upd G' p u) (upd H' p u) where
  g := w.g.trans fun b z e => by rw [upd_ne (ne_of_none e hg)]; exact e
  h := fun b z e => by rw [upd_ne (ne_of_none e hp)]; exact w.h b z e
  gh := fun b z e => by
    by_cases hb : b = p
    · subst hb; rw [upd_same] at e ⊢; exact e
    · rw [upd_ne hb] at e ⊢; exact w.gh b z e
  new := fun b z e => by
    by_cases hb : b = p
    · subst hb; exact .inr (.inl hp)
    · rw [upd_ne hb] at e; exact w.new b z e
theorem same_upd {G : Hp} {p : Addr} {u : HO} (hg : G p = none) : Same G (upd G p u) := fun b z e => by rw [upd_ne (ne_of_none e hg)]; exact e
/-- what is new is frozen: a dict is locked for good -/
theorem n_f (h : PN X e F) : PF X e F := by
  refine ⟨fun pins s σ H Q I q => ?_⟩
  obtain ⟨B, G, ρ, d, r, k, q⟩ := q
  refine thn (h.run pins s σ H (fun v H' => ∃ G', Gw G H G' H' ∧ Frs X.wd G H G' H' d v) I ⟨B, G, ρ, d, r, k, fun v G' H' w z => ⟨G', w, z⟩⟩) fun u s' ⟨v, H', I', rv, G', w, p, ev, hp, hg, t⟩ => ?_
  subst ev
  cases t with
  | @lst _ xs _ h1 h2 =>
    have w' := w.freeze (u := .lst xs) hp hg h1
    rw [upd_same_of h1] at w'
    exact ⟨_, H', I', rv, q _ _ H' w' (.lst upd_same (h2.mono (same_upd hg)))⟩
  | dcK h1 h2 h3 =>
    obtain ⟨od, I2⟩ := I'.lock h1 True.intro
    exact ⟨_, _, I2, rv, q _ _ _ (w.freeze hp hg h1) (.dcK upd_same h2 (h3.mono (same_upd hg)))⟩
  | dcT h1 h2 h3 =>
    obtain ⟨od, I2⟩ := I'.lock h1 True.intro
    exact ⟨_, _, I2, rv, q _ _ _ (w.freeze hp hg h1) (.dcT upd_same h2 (h3.mono (same_upd hg)))⟩
  | @dcN _ kv _ h1 h2 h3 h4 =>
    have w' := w.freeze (u := .ext (rawN X.wd p kv)) hp hg h1
    rw [upd_same_of h1] at w'
    exact ⟨_, H', I', rv, q _ _ H' w' (.dcN upd_same h2 (h3.mono (same_upd hg)) (h4.mono (same_upd hg)))⟩
end

/-! ### names and constants -/
def eV (i : Nat) : FE := fun ρ => match ρ[i]? with
  | some (some (.shr d)) => some d
  | _ => none
/-- read in place -/
def eW (i : Nat) : FE := fun ρ => match ρ[i]? with
  | some (some (.shr d)) => some d
  | some (some (.own d)) => some d
  | _ => none
def eC (d : D) : FE := fun _ => some d
section
variable {X : Cx}
theorem f_v (i : Nat) {x : Str} {pos : Pos} (hN : X.N[i]? = some x := by rfl) (hv : Vis X.env.scope x := by first | exact Or.inl rfl | exact Or.inr (Or.inl rfl) | exact Or.inr (Or.inr rfl)) (hd : (x == ("__debug__" : Str)) = false := by decide)
    (hcd : (x == ("__classdict__" : Str)) = false := by decide) : PF X (.Name x pos) (eV i) := by
  refine PE.weak (pe_var (i := i) hN hv hd hcd) fun σ H Q ⟨B, G, ρ, d, r, k, q⟩ => ?_
  unfold eV at k
  split at k
  · rename_i z
    cases k
    obtain ⟨v, h1, h2⟩ := r.shr i _ z
    exact ⟨v, h1, q v G H (Gw.refl r.gh) h2⟩
  · cases k
theorem b_v (i : Nat) {x : Str} {pos : Pos} (hN : X.N[i]? = some x := by rfl) (hv : Vis X.env.scope x := by first | exact Or.inl rfl | exact Or.inr (Or.inl rfl) | exact Or.inr (Or.inr rfl)) (hd : (x == ("__debug__" : Str)) = false := by decide)
    (hcd : (x == ("__classdict__" : Str)) = false := by decide) : PB X (.Name x pos) (eW i) := by
  refine PE.weak (pe_var (i := i) hN hv hd hcd) fun σ H Q ⟨B, G, ρ, d, r, k, q⟩ => ?_
  unfold eW at k
  split at k
  · rename_i z
    cases k
    obtain ⟨v, h1, h2⟩ := r.shr i _ z
    exact ⟨v, h1, q v G H (Gw.refl r.gh) (.inl h2)⟩
  · rename_i z
    cases k
    obtain ⟨a, h1, h2, h3, h4⟩ := r.own i _ z
    exact ⟨_, h1, q _ G H (Gw.refl r.gh) (.inr ⟨a, rfl, h4⟩)⟩
  · cases k
theorem f_c {e : Expr} {d : D} {v : V} (h : PE X e (tC v)) (hr : ∀ G, Rep X.wd G d v) : PF X e (eC d) := PE.weak h fun σ H Q ⟨B, G, ρ, d', r, k, q⟩ => by
  cases k
  exact q v G H (Gw.refl r.gh) (hr G)
theorem f_int {i j pos} : PF X (.Constant (.int i) j pos) (eC (.int i)) := f_c pe_int fun _ => .int _
theorem f_bl {b j pos} : PF X (.Constant (.bool b) j pos) (eC (.bool b)) := f_c pe_bl fun _ => .bl _
theorem f_non {j pos} : PF X (.Constant .none j pos) (eC .none) := f_c pe_non fun _ => .non
theorem f_str {x j pos} : PF X (.Constant (.str x) j pos) (eC (.str x)) := f_c pe_str fun _ => .str _
/-- a text or an int that stands at the top of the module -/
theorem f_glS {x : Str} {pos : Pos} {z : Str} {t : Tok} (hg : Gl X x) (hm : X.mg x = some (.str z t)) (hd : (x == ("__debug__" : Str)) = false := by decide) : PF X (.Name x pos) (eC (.str z)) := f_c (pe_glob (v := V.str z) hg hm ⟨_, rfl⟩ hd) fun _ => .str _
theorem f_glI {x : Str} {pos : Pos} {z : Int} {t : Tok} (hg : Gl X x) (hm : X.mg x = some (.int z t)) (hd : (x == ("__debug__" : Str)) = false := by decide) : PF X (.Name x pos) (eC (.int z)) := f_c (pe_glob (v := V.int z) hg hm ⟨_, rfl⟩ hd) fun _ => .int _

/-! ### two and one in a row -/
def o1 (f : D → Option D) (a : FE) : FE := fun ρ => (a ρ).bind f
def o2 (f : D → D → Option D) (a b : FE) : FE := fun ρ => (a ρ).bind fun x => (b ρ).bind fun y => f x y
/-- an operation by values does what f says of data -/
def OpD (W : Wd) (r : V → V → Hp → VK → Prop) (f : D → D → Option D) : Prop :=
  ∀ (x y d : D) (v u : V) (G H : Hp) (Q : VK), f x y = some d → Bor W G H x v → Bor W G H y u → Same G H → (∀ z G' H', Gw G H G' H' → Rep W G' d z → Q z H') → r v u H Q
theorem two {a b : Expr} {Fa Fb : FE} {r : V → V → Hp → VK → Prop} {f : D → D → Option D} (hf : OpD X.wd r f) {σ : St} {H : Hp} {Q : VK} (h : tF X.wd (o2 f Fa Fb) σ H Q) : tOp r (tB X.wd Fa) (tB X.wd Fb) σ H Q := by
  obtain ⟨B, G, ρ, d, rp, k, q⟩ := h
  obtain ⟨x, hx, k⟩ := Option.bind_eq_some_iff.mp k
  obtain ⟨y, hy, k⟩ := Option.bind_eq_some_iff.mp k
  refine ⟨B, G, ρ, x, rp, hx, fun v G1 H1 w1 b1 => ⟨B, G1, ρ, y, rp.step w1, hy, fun u G2 H2 w2 b2 => ?_⟩⟩
  exact hf x y d v u G2 H2 Q k (b1.step w2) b2 w2.gh fun z G3 H3 w3 rz => q z G3 H3 ((w1.trans w2).trans w3) rz
theorem f_op {op : Operator} {a b : Expr} {pos : Pos} {Fa Fb : FE} {r : R2} {f : D → D → Option D} (ho : OpR X (binaryOp op) r) (hf : OpD X.wd r f) (ha : PB X a Fa) (hb : PB X b Fb) : PF X (.BinOp a op b pos) (o2 f Fa Fb) :=
  PE.weak (pe_op ho ha hb) fun _ _ _ h => two (a := a) (b := b) hf h
theorem f_cmp {op : CmpOp} {a b : Expr} {pos : Pos} {Fa Fb : FE} {r : R2} {f : D → D → Option D} (ho : OpR X (compareOp op) r) (hf : OpD X.wd r f) (ha : PB X a Fa) (hb : PB X b Fb) (hm : behindInMarks op b = false) :
    PF X (.Compare a [op] [b] pos) (o2 f Fa Fb) := PE.weak (pe_cmpR ho ha hb hm) fun _ _ _ h => two (a := a) (b := b) hf h
def asB : D → Option Bool
  | .bool b => some b
  | _ => none
def toT (F : FE) : FT := fun ρ => (F ρ).bind asB
def ofT (F : FT) : FE := fun ρ => (F ρ).map .bool
theorem t_cmp {op : CmpOp} {a b : Expr} {pos : Pos} {Fa Fb : FE} {r : R2} {f : D → D → Option D} (ho : OpR X (compareOp op) r) (hf : OpD X.wd r f) (ha : PB X a Fa) (hb : PB X b Fb) (hm : behindInMarks op b = false) :
    PTD X (.Compare a [op] [b] pos) (toT (o2 f Fa Fb)) := PT.weak (pt_cmpR ho ha hb hm) fun σ H Q h => by
  obtain ⟨B, G, ρ, c, rp, k, q⟩ := h
  obtain ⟨d, hd, k⟩ := Option.bind_eq_some_iff.mp k
  refine two (a := a) (b := b) hf (Q := fun x H' => ∃ k, x = .bl k ∧ Q k H') ⟨B, G, ρ, d, rp, hd, fun v G' H' w rv => ?_⟩
  cases d <;> first | cases k | skip
  cases rv
  exact ⟨_, rfl, q G' H' w⟩
/-- an expression that gives True or False, as a test -/
theorem t_val {e : Expr} {F : FE} (h : PF X e F) (he : ∀ whole, isTrue e X.env whole = (do let v ← whole; standAt e.pos; holding [v] (truthy v)) := by intro _; rfl) : PTD X e (toT F) := PT.weak (pt_val h he) fun σ H Q h => by
  obtain ⟨B, G, ρ, c, rp, k, q⟩ := h
  obtain ⟨d, hd, k⟩ := Option.bind_eq_some_iff.mp k
  refine ⟨B, G, ρ, d, rp, hd, fun v G' H' w rv => ?_⟩
  cases d <;> first | cases k | skip
  cases rv
  exact ⟨_, rfl, q G' H' w⟩

/-! ### and, or, not -/
def tAndF (a b : FT) : FT := fun ρ => (a ρ).bind fun x => if x = true then b ρ else some false
def tOrF (a b : FT) : FT := fun ρ => (a ρ).bind fun x => if x = true then some true else b ρ
def tNotF (a : FT) : FT := fun ρ => (a ρ).map fun x => !x
variable {a b : Expr} {rest : List Expr} {pos : Pos} {Fa Fb : FT}
theorem w_and1 (ha : PTD X a Fa) : PWD X (.BoolOp .And [a] pos) Fa := pw_and1 ha
theorem w_or1 (ha : PTD X a Fa) : PWD X (.BoolOp .Or [a] pos) Fa := pw_or1 ha
theorem w_and (ha : PTD X a Fa) (hb : PWD X (.BoolOp .And (b :: rest) pos) Fb) : PWD X (.BoolOp .And (a :: b :: rest) pos) (tAndF Fa Fb) := PW.weak (pw_and ha hb) fun σ H Q ⟨B, G, ρ, c, rp, k, q⟩ => by
  obtain ⟨x, hx, k⟩ := Option.bind_eq_some_iff.mp k
  refine ⟨B, G, ρ, x, rp, hx, fun G1 H1 w1 => ?_⟩
  by_cases e : x = true
  · rw [if_pos e] at k ⊢
    exact ⟨B, G1, ρ, c, rp.step w1, k, fun G2 H2 w2 => q G2 H2 (w1.trans w2)⟩
  · rw [if_neg e] at k ⊢
    cases k
    exact q G1 H1 w1
theorem w_or (ha : PTD X a Fa) (hb : PWD X (.BoolOp .Or (b :: rest) pos) Fb) : PWD X (.BoolOp .Or (a :: b :: rest) pos) (tOrF Fa Fb) := PW.weak (pw_or ha hb) fun σ H Q ⟨B, G, ρ, c, rp, k, q⟩ => by
  obtain ⟨x, hx, k⟩ := Option.bind_eq_some_iff.mp k
  refine ⟨B, G, ρ, x, rp, hx, fun G1 H1 w1 => ?_⟩
  by_cases e : x = true
  · rw [if_pos e] at k ⊢
    cases k
    exact q G1 H1 w1
  · rw [if_neg e] at k ⊢
    exact ⟨B, G1, ρ, c, rp.step w1, k, fun G2 H2 w2 => q G2 H2 (w1.trans w2)⟩
theorem t_w {e : Expr} {F : FT} (h : PWD X e F) : PTD X e F := h.pt
theorem t_not (ha : PTD X a Fa) : PTD X (.UnaryOp .Not a pos) (tNotF Fa) := PT.weak (pt_not ha) fun σ H Q ⟨B, G, ρ, c, rp, k, q⟩ => by
  obtain ⟨x, hx, k⟩ := Option.map_eq_some_iff.mp k
  subst k
  exact ⟨B, G, ρ, x, rp, hx, fun G1 H1 w1 => q G1 H1 w1⟩
def eAnd (a b : FE) : FE := fun ρ => ((a ρ).bind asB).bind fun x => if x = true then b ρ else some (.bool false)
def eOr (a b : FE) : FE := fun ρ => ((a ρ).bind asB).bind fun x => if x = true then some (.bool true) else b ρ
def eNot (a : FE) : FE := fun ρ => ((a ρ).bind asB).map fun x => .bool (!x)
theorem f_one {op} {F : FE} (h : PF X a F) : PF X (.BoolOp op [a] pos) F := pe_one h
theorem f_and {F F' : FE} (ha : PF X a F) (hb : PF X (.BoolOp .And (b :: rest) pos) F') : PF X (.BoolOp .And (a :: b :: rest) pos) (eAnd F F') := PE.weak (pe_and ha hb) fun σ H Q ⟨B, G, ρ, d, rp, k, q⟩ => by
  obtain ⟨x, hx, k⟩ := Option.bind_eq_some_iff.mp k
  obtain ⟨d', hd, hx⟩ := Option.bind_eq_some_iff.mp hx
  refine ⟨B, G, ρ, d', rp, hd, fun v G1 H1 w1 rv => ?_⟩
  cases d' <;> first | cases hx | skip
  cases rv
  refine ⟨_, rfl, ?_⟩
  by_cases e : x = true
  · rw [if_pos e] at k ⊢
    exact ⟨B, G1, ρ, d, rp.step w1, k, fun v G2 H2 w2 => q v G2 H2 (w1.trans w2)⟩
  · rw [if_neg e] at k ⊢
    cases k
    exact q _ G1 H1 w1 (.bl _)
theorem f_or {F F' : FE} (ha : PF X a F) (hb : PF X (.BoolOp .Or (b :: rest) pos) F') : PF X (.BoolOp .Or (a :: b :: rest) pos) (eOr F F') := PE.weak (pe_or ha hb) fun σ H Q ⟨B, G, ρ, d, rp, k, q⟩ => by
  obtain ⟨x, hx, k⟩ := Option.bind_eq_some_iff.mp k
  obtain ⟨d', hd, hx⟩ := Option.bind_eq_some_iff.mp hx
  refine ⟨B, G, ρ, d', rp, hd, fun v G1 H1 w1 rv => ?_⟩
  cases d' <;> first | cases hx | skip
  cases rv
  refine ⟨_, rfl, ?_⟩
  by_cases e : x = true
  · rw [if_pos e] at k ⊢
    cases k
    exact q _ G1 H1 w1 (.bl _)
  · rw [if_neg e] at k ⊢
    exact ⟨B, G1, ρ, d, rp.step w1, k, fun v G2 H2 w2 => q v G2 H2 (w1.trans w2)⟩
theorem f_not {F : FE} (ha : PF X a F) : PF X (.UnaryOp .Not a pos) (eNot F) := PE.weak (pe_not ha) fun σ H Q ⟨B, G, ρ, d, rp, k, q⟩ => by
  obtain ⟨x, hx, k⟩ := Option.map_eq_some_iff.mp k
  obtain ⟨d', hd, hx⟩ := Option.bind_eq_some_iff.mp hx
  subst k
  refine ⟨B, G, ρ, d', rp, hd, fun v G1 H1 w1 rv => ?_⟩
  cases d' <;> first | cases hx | skip
  cases rv
  exact ⟨_, rfl, q _ G1 H1 w1 (.bl _)⟩
def eIf (c : FT) (a b : FE) : FE := fun ρ => (c ρ).bind fun x => if x = true then a ρ else b ρ
theorem f_if {c : Expr} {Fc : FT} {F F' : FE} (hc : PTD X c Fc) (ha : PF X a F) (hb : PF X b F') : PF X (.IfExp c a b pos) (eIf Fc F F') := PE.weak (pe_ifExp hc ha hb) fun σ H Q ⟨B, G, ρ, d, rp, k, q⟩ => by
  obtain ⟨x, hx, k⟩ := Option.bind_eq_some_iff.mp k
  refine ⟨B, G, ρ, x, rp, hx, fun G1 H1 w1 => ?_⟩
  by_cases e : x = true
  · rw [if_pos e] at k ⊢
    exact ⟨B, G1, ρ, d, rp.step w1, k, fun v G2 H2 w2 => q v G2 H2 (w1.trans w2)⟩
  · rw [if_neg e] at k ⊢
    exact ⟨B, G1, ρ, d, rp.step w1, k, fun v G2 H2 w2 => q v G2 H2 (w1.trans w2)⟩

/-! ### arguments -/
def lN : FL := fun _ => some []
def lC (a : FE) (l : FL) : FL := fun ρ => (a ρ).bind fun x => (l ρ).map fun xs => x :: xs
variable {es : List Expr} {F : FE} {L : FL}
theorem a_nil : PAF X [] lN := PA.weak pa_nil fun σ H Q ⟨B, G, ρ, d, rp, k, q⟩ => by
  cases k
  exact q [] G H (Gw.refl rp.gh) .nil
theorem a_cons (ha : PF X a F) (hr : PAF X es L) (hs : starEach (a :: es) X.env = (false, eval a X.env) :: starEach es X.env := by rfl) : PAF X (a :: es) (lC F L) := PA.weak (pa_cons ha hr hs) fun σ H Q ⟨B, G, ρ, d, rp, k, q⟩ => by
  obtain ⟨x, hx, k⟩ := Option.bind_eq_some_iff.mp k
  obtain ⟨xs, hxs, k⟩ := Option.map_eq_some_iff.mp k
  subst k
  refine ⟨B, G, ρ, x, rp, hx, fun v G1 H1 w1 rv => ⟨B, G1, ρ, xs, rp.step w1, hxs, fun vs G2 H2 w2 rvs => ?_⟩⟩
  exact q _ G2 H2 (w1.trans w2) (.cons (rv.mono w2.g) rvs)
theorem ab_nil : PAB X [] lN := PA.weak pa_nil fun σ H Q ⟨B, G, ρ, d, rp, k, q⟩ => by
  cases k
  exact q [] G H (Gw.refl rp.gh) .nil
theorem ab_cons (ha : PB X a F) (hr : PAB X es L) (hs : starEach (a :: es) X.env = (false, eval a X.env) :: starEach es X.env := by rfl) : PAB X (a :: es) (lC F L) := PA.weak (pa_cons ha hr hs) fun σ H Q ⟨B, G, ρ, d, rp, k, q⟩ => by
  obtain ⟨x, hx, k⟩ := Option.bind_eq_some_iff.mp k
  obtain ⟨xs, hxs, k⟩ := Option.map_eq_some_iff.mp k
  subst k
  refine ⟨B, G, ρ, x, rp, hx, fun v G1 H1 w1 rv => ⟨B, G1, ρ, xs, rp.step w1, hxs, fun vs G2 H2 w2 rvs => ?_⟩⟩
  exact q _ G2 H2 (w1.trans w2) (.cons (rv.step w2) rvs)
end

/-! ### statements -/
inductive Out where
  | nx (ρ : Env) | rt (d : D) | bk (ρ : Env) | ct (ρ : Env)
abbrev FS := Env → Option Out
def After (W : Wd) (B G : Hp) (E : Ends) : Out → Prop
  | .nx ρ => ∀ σ G' H', Gs B G G' → Rp W B G' H' ρ σ → E.nx σ H'
  | .rt d => ∀ v G' H', Gs B G G' → Same B H' → Same G' H' → Rep W G' d v → E.rt v H'
  | .bk ρ => ∀ σ G' H', Gs B G G' → Rp W B G' H' ρ σ → E.bk σ H'
  | .ct ρ => ∀ σ G' H', Gs B G G' → Rp W B G' H' ρ σ → E.ct σ H'
def tS (W : Wd) (F : FS) : TS := fun E σ H => ∃ B G ρ o, Rp W B G H ρ σ ∧ F ρ = some o ∧ After W B G E o
abbrev PSD (X : Cx) (st : Stmt) (F : FS) : Prop := PS X st (tS X.wd F)
abbrev PSsD (X : Cx) (st : List Stmt) (F : FS) : Prop := PSs X st (tS X.wd F)
theorem After.from {W : Wd} {B G G1 : Hp} {E : Ends} {o : Out} (s : Gs B G G1) (a : After W B G E o) : After W B G1 E o := by
  cases o with
  | nx ρ => exact fun σ G' H' g r => a σ G' H' (s.trans g) r
  | rt d => exact fun v G' H' g b z r => a v G' H' (s.trans g) b z r
  | bk ρ => exact fun σ G' H' g r => a σ G' H' (s.trans g) r
  | ct ρ => exact fun σ G' H' g r => a σ G' H' (s.trans g) r
def sNx : FS := fun ρ => some (.nx ρ)
def sSeq (a b : FS) : FS := fun ρ => (a ρ).bind fun o => match o with
  | .nx ρ' => b ρ'
  | o => some o
section
variable {X : Cx} {st : Stmt} {rest : List Stmt} {F F' : FS} {pos : Pos}
theorem ss_nil : PSsD X [] sNx := PSs.weak pss_nil fun E σ H ⟨B, G, ρ, o, r, k, a⟩ => by
  cases k
  exact a σ G H Gs.refl r
theorem ss_cons (h1 : PSD X st F) (h2 : PSsD X rest F') : PSsD X (st :: rest) (sSeq F F') := PSs.weak (pss_cons h1 h2) fun E σ H ⟨B, G, ρ, o, r, k, a⟩ => by
  obtain ⟨o1, h1, k⟩ := Option.bind_eq_some_iff.mp k
  refine ⟨B, G, ρ, o1, r, h1, ?_⟩
  cases o1 with
  | nx ρ' => exact fun σ' G' H' g r' => ⟨B, G', ρ', o, r', k, a.from g⟩
  | rt d => cases k; exact a
  | bk ρ' => cases k; exact a
  | ct ρ' => cases k; exact a
theorem ss_one (h1 : PSD X st F) : PSsD X [st] F := pss_one h1
theorem s_pass : PSD X (.Pass pos) sNx := PS.weak ps_pass fun E σ H ⟨B, G, ρ, o, r, k, a⟩ => by
  cases k
  exact a σ G H Gs.refl r
def sBk : FS := fun ρ => some (.bk ρ)
def sCt : FS := fun ρ => some (.ct ρ)
theorem s_break : PSD X (.Break pos) sBk := PS.weak ps_break fun E σ H ⟨B, G, ρ, o, r, k, a⟩ => by
  cases k
  exact a σ G H Gs.refl r
theorem s_continue : PSD X (.Continue pos) sCt := PS.weak ps_continue fun E σ H ⟨B, G, ρ, o, r, k, a⟩ => by
  cases k
  exact a σ G H Gs.refl r
def sNever : FS := fun _ => none
theorem s_never : PSD X st sNever := PS.weak ps_never fun E σ H ⟨B, G, ρ, o, r, k, a⟩ => by cases k
theorem ss_never : PSsD X rest sNever := PSs.weak pss_never fun E σ H ⟨B, G, ρ, o, r, k, a⟩ => by cases k
def sRet (F : FE) : FS := fun ρ => (F ρ).map .rt
theorem s_ret {e : Expr} {F : FE} (h : PF X e F) : PSD X (.Return (some e) pos) (sRet F) := PS.weak (ps_ret h) fun E σ H ⟨B, G, ρ, o, r, k, a⟩ => by
  obtain ⟨d, hd, k⟩ := Option.map_eq_some_iff.mp k
  subst k
  exact ⟨B, G, ρ, d, r, hd, fun v G' H' w rv => a v G' H' (w.gs r.bh) (r.bh.trans w.h) w.gh rv⟩
def sRetN : FS := fun _ => some (.rt .none)
theorem s_retN : PSD X (.Return none pos) sRetN := PS.weak ps_retN fun E σ H ⟨B, G, ρ, o, r, k, a⟩ => by
  cases k
  exact a _ G H Gs.refl r.bh r.gh .non
def sEx (F : FE) : FS := fun ρ => (F ρ).map fun _ => .nx ρ
theorem s_expr {e : Expr} {F : FE} (h : PB X e F) (hs : swapsWith e none pos.line X.env = pure false := by rfl) : PSD X (.Expr e pos) (sEx F) := PS.weak (ps_expr h hs) fun E σ H ⟨B, G, ρ, o, r, k, a⟩ => by
  obtain ⟨d, hd, k⟩ := Option.map_eq_some_iff.mp k
  subst k
  exact ⟨B, G, ρ, d, r, hd, fun v G' H' w rv => a σ G' H' (w.gs r.bh) (r.step w)⟩
def sIf (c : FT) (a b : FS) : FS := fun ρ => (c ρ).bind fun x => if x = true then a ρ else b ρ
theorem s_if {c : Expr} {a b : List Stmt} {Fc : FT} (hc : PTD X c Fc) (ha : PSsD X a F) (hb : PSsD X b F') : PSD X (.If c a b pos) (sIf Fc F F') := PS.weak (ps_if hc ha hb) fun E σ H ⟨B, G, ρ, o, r, k, a⟩ => by
  obtain ⟨x, hx, k⟩ := Option.bind_eq_some_iff.mp k
  refine ⟨B, G, ρ, x, r, hx, fun G1 H1 w1 => ?_⟩
  by_cases e : x = true
  · rw [if_pos e] at k ⊢
    exact ⟨B, G1, ρ, o, r.step w1, k, a.from (w1.gs r.bh)⟩
  · rw [if_neg e] at k ⊢
    exact ⟨B, G1, ρ, o, r.step w1, k, a.from (w1.gs r.bh)⟩

/-! ### targets -/
abbrev FG := D → Env → Option Env
def tG (W : Wd) (F : FG) : TG := fun v σ H Q => ∃ B G ρ d ρ', Rp W B G H ρ σ ∧ Rep W G d v ∧ F d ρ = some ρ' ∧ ∀ σ' G' H', Gs B G G' → Rp W B G' H' ρ' σ' → Q σ' H'
def tGs (W : Wd) (F : List D → Env → Option Env) : TGs := fun vs σ H Q => ∃ B G ρ ds ρ', Rp W B G H ρ σ ∧ Reps W G ds vs ∧ F ds ρ = some ρ' ∧ ∀ σ' G' H', Gs B G G' → Rp W B G' H' ρ' σ' → Q σ' H'
abbrev PGD (X : Cx) (e : Expr) (F : FG) : Prop := PG X e (tG X.wd F)
abbrev PGsD (X : Cx) (es : List Expr) (F : List D → Env → Option Env) : Prop := PGs X es (tGs X.wd F)
theorem PG.weak {e : Expr} {t t' : TG} (h : PG X e t) (i : ∀ v σ H Q, t' v σ H Q → t v σ H Q) : PG X e t' := ⟨fun pins s σ H v u Q I rv q => h.run pins s σ H v u Q I rv (i v σ H Q q)⟩
theorem PGs.weak {e : List Expr} {t t' : TGs} (h : PGs X e t) (i : ∀ v σ H Q, t' v σ H Q → t v σ H Q) : PGs X e t' := ⟨fun pins s σ H v u Q I rv q => h.run pins s σ H v u Q I rv (i v σ H Q q)⟩
def gN (i : Nat) : FG := fun d ρ => some (ρ.set i (some (.shr d)))
theorem g_name (i : Nat) {x : Str} (hN : X.N.Nodup) (hi : X.N[i]? = some x := by rfl) (hx : Loc X.env.scope x := by first | exact Or.inl rfl | exact Or.inr rfl) (hf : X.fn x = true ∨ X.env.scope.names.lookup x = some .local := by first | exact .inl rfl | exact .inr rfl | assumption) : PGD X (.Name x pos) (gN i) :=
  PG.weak (pg_name (i := i) hN hi hx hf) fun v σ H Q ⟨B, G, ρ, d, ρ', r, rv, k, q⟩ => by
    cases k
    exact q _ G H Gs.refl (r.set_shr rv)
def gsN : List D → Env → Option Env := fun ds ρ => match ds with
  | [] => some ρ
  | _ => none
def gsC (g : FG) (h : List D → Env → Option Env) : List D → Env → Option Env := fun ds ρ => match ds with
  | d :: r => (g d ρ).bind fun ρ' => h r ρ'
  | _ => none
theorem gs_nil : PGsD X [] gsN := PGs.weak pgs_nil fun vs σ H Q ⟨B, G, ρ, ds, ρ', r, rv, k, q⟩ => by
  cases rv with
  | nil => cases k; exact ⟨rfl, q _ G H Gs.refl r⟩
  | cons _ _ => cases k
end
end DV

set_option Elab.async false
set_option linter.all false
set_option maxRecDepth 100000
/-! DVc: targets, assignments, what a slot owns and its changes, loops, defs and their calls. -/
noncomputable section
namespace DV
open PySem PySem.Spec PyProof.Rows L2

section
variable {X : Cx} {st : Stmt} {rest : List Stmt} {F F' : FS} {pos : Pos}
/-! ### targets of several names -/
theorem gs_cons {e : Expr} {es : List Expr} {g : FG} {h : List D → Env → Option Env} (h1 : PGD X e g) (h2 : PGsD X es h)
    (hs : (assignEach (e :: es) X.env).map (·.2) = assign e X.env :: (assignEach es X.env).map (·.2) := by rfl) : PGsD X (e :: es) (gsC g h) :=
  PGs.weak (pgs_cons h1 h2 hs) fun vs σ H Q ⟨B, G, ρ, ds, ρ', r, rv, k, q⟩ => by
    cases rv with
    | nil => cases k
    | @cons d ds v vs r1 r2 =>
      obtain ⟨ρ1, k1, k2⟩ := Option.bind_eq_some_iff.mp k
      exact ⟨v, vs, rfl, B, G, ρ, d, ρ1, r, r1, k1, fun σ' G' H' gs r' => ⟨B, G', ρ1, ds, ρ', r', r2.mono gs.g, k2, fun σ2 G2 H2 gs2 rr => q σ2 G2 H2 (gs.trans gs2) rr⟩⟩
/-- (a, b, ..) = a tuple of n items -/
def gT (n : Nat) (h : List D → Env → Option Env) : FG := fun d ρ => match d with
  | .tuple ds => if ds.length = n then h ds ρ else none
  | _ => none
theorem g_tup {es : List Expr} {k : Nat} {n : Nat} {h : List D → Env → Option Env} (hc : X.calm = true) (hh : PGsD X es h)
    (hn : (assignEach es X.env).length = n := by rfl) (hst : (assignEach es X.env).findIdx? (·.1) = none := by rfl) : PGD X (.Tuple es k pos) (gT n h) :=
  PG.weak (pg_tup hc hh hn hst) fun v σ H Q ⟨B, G, ρ, d, ρ', r, rv, k, q⟩ => by
    unfold gT at k
    split at k
    · split at k
      · rename_i ds hl
        cases rv with
        | tup h1 h2 => exact ⟨_, _, rfl, SqT.of (r.gh _ _ h1), by rw [← h2.length]; exact hl, B, G, ρ, _, ρ', r, h2, k, q⟩
      · cases k
    · cases k

/-! ### assignments -/
def sAsg (F : FE) (g : FG) : FS := fun ρ => (F ρ).bind fun d => (g d ρ).map .nx
theorem s_asg {tg e : Expr} {Fe : FE} {g : FG} (he : PF X e Fe) (hg : PGD X tg g) (hs : swapsWithSole [tg] e pos.line X.env = pure false := by rfl) (hw : swappedStores [tg] e X.env = pure none := by rfl)
    (h1 : (assignEach [tg] X.env).map (·.2) = [assign tg X.env] := by rfl) : PSD X (.Assign [tg] e pos) (sAsg Fe g) :=
  PS.weak (ps_asg he hg hs hw h1) fun E σ H ⟨B, G, ρ, o, r, k, a⟩ => by
    obtain ⟨d, hd, k⟩ := Option.bind_eq_some_iff.mp k
    obtain ⟨ρ', hg, k⟩ := Option.map_eq_some_iff.mp k
    subst k
    exact ⟨B, G, ρ, d, r, hd, fun v G' H' w rv => ⟨B, G', ρ, d, ρ', r.step w, rv, hg, fun σ' G2 H2 gs r' => a σ' G2 H2 ((w.gs r.bh).trans gs) r'⟩⟩
/-- a new thing is owned -/
def sOwn (i : Nat) (F : FE) : FS := fun ρ => (F ρ).map fun d => .nx (ρ.set i (some (.own d)))
theorem s_own (i : Nat) {x : Str} {e : Expr} {pos' : Pos} {Fe : FE} (he : PN X e Fe) (hN : X.N.Nodup) (hi : X.N[i]? = some x := by rfl) (hx : Loc X.env.scope x := by first | exact Or.inl rfl | exact Or.inr rfl)
    (hs : swapsWith e (some (.Name x pos')) pos.line X.env = pure false := by rfl) (hf : X.fn x = true ∨ X.env.scope.names.lookup x = some .local := by first | exact .inl rfl | exact .inr rfl | assumption) : PSD X (.Assign [.Name x pos'] e pos) (sOwn i Fe) :=
  PS.weak (ps_set (i := i) hN hi hx he hs hf) fun E σ H ⟨B, G, ρ, o, r, k, a⟩ => by
    obtain ⟨d, hd, k⟩ := Option.map_eq_some_iff.mp k
    subst k
    refine ⟨B, G, ρ, d, r, hd, fun v G' H' w ⟨p, ev, hp, hg, t⟩ => ?_⟩
    subst ev
    refine a _ G' H' (w.gs r.bh) ((r.step w).set_own (r.bh.free hp) hg t fun j e' hj hσ => ?_)
    obtain ⟨b, h1, h2, h3, h4⟩ := r.own j e' hj
    rw [hσ] at h1
    cases h1
    obtain ⟨o, ho⟩ := h4.at
    rw [hp] at ho
    cases ho
/-- name = e, a frozen value (also where e is a list comprehension on one line) -/
theorem s_set (i : Nat) {x : Str} {e : Expr} {pos' : Pos} {Fe : FE} (he : PF X e Fe) (hN : X.N.Nodup) (hi : X.N[i]? = some x := by rfl) (hx : Loc X.env.scope x := by first | exact Or.inl rfl | exact Or.inr rfl)
    (hs : swapsWith e (some (.Name x pos')) pos.line X.env = pure false := by rfl) (hf : X.fn x = true ∨ X.env.scope.names.lookup x = some .local := by first | exact .inl rfl | exact .inr rfl | assumption) : PSD X (.Assign [.Name x pos'] e pos) (sAsg Fe (gN i)) :=
  PS.weak (ps_set (i := i) hN hi hx he hs hf) fun E σ H ⟨B, G, ρ, o, r, k, a⟩ => by
    obtain ⟨d, hd, k⟩ := Option.bind_eq_some_iff.mp k
    obtain ⟨ρ', hg, k⟩ := Option.map_eq_some_iff.mp k
    subst k
    cases hg
    exact ⟨B, G, ρ, d, r, hd, fun v G' H' w rv => a _ G' H' (w.gs r.bh) ((r.step w).set_shr rv)⟩

/-! ### a slot's thing frozen -/
def frzE (i : Nat) : Env → Env := fun ρ => match ρ[i]? with
  | some (some (.own d)) => ρ.set i (some (.shr d))
  | _ => ρ
def sFrz (i : Nat) (F : FS) : FS := fun ρ => F (frzE i ρ)
theorem Rp.frz {W : Wd} {B G H : Hp} {ρ : Env} {σ : St} {i : Nat} {d : D} {a : Addr} {o u : HO} (r : Rp W B G H ρ σ) (hi : ρ[i]? = some (some (.own d))) (ha : σ[i]? = some (some (.ref a))) (ho : H a = some o) (hu : Rep W (upd G a u) d (.ref a)) :
    Rp W B (upd G a u) (upd H a u) (ρ.set i (some (.shr d))) σ ∧ Gs B G (upd G a u) := by
  obtain ⟨a', h1, h2, h3, h4⟩ := r.own i d hi
  rw [ha] at h1
  cases h1
  have hl : i < ρ.length := (List.getElem?_eq_some_iff.mp hi).1
  have sG : Same G (upd G a u) := same_upd h3
  refine ⟨⟨fun b z e => ?_, fun b z e => ?_, by simp [r.len], fun j e h => ?_, fun j e h => ?_, fun j k d1 d2 b q1 q2 q3 q4 => ?_⟩, ⟨sG, fun b z e => ?_⟩⟩
  · rw [upd_ne (ne_of_none e h2)]; exact r.bh b z e
  · by_cases hb : b = a
    · subst hb; rw [upd_same] at e ⊢; exact e
    · rw [upd_ne hb] at e ⊢; exact r.gh b z e
  · by_cases hj : i = j
    · subst hj
      rw [List.getElem?_set_self hl] at h
      cases h
      exact ⟨_, ha, hu⟩
    · rw [List.getElem?_set_ne hj] at h
      obtain ⟨v, g1, g2⟩ := r.shr j e h
      exact ⟨v, g1, g2.mono sG⟩
  · by_cases hj : i = j
    · subst hj
      rw [List.getElem?_set_self hl] at h
      cases h
    · rw [List.getElem?_set_ne hj] at h
      obtain ⟨b, g1, g2, g3, g4⟩ := r.own j e h
      have hba : b ≠ a := by
        rintro rfl
        exact hj (r.sep i j d e b hi h ha g1)
      exact ⟨b, g1, g2, by rw [upd_ne hba]; exact g3, g4.mono sG (upd_ne hba)⟩
  · have pre : ∀ {m : Nat} {x}, (ρ.set i (some (.shr d)))[m]? = some (some (.own x)) → ρ[m]? = some (some (.own x)) := fun {m x} h => by
      by_cases hm : i = m
      · subst hm
        rw [List.getElem?_set_self hl] at h
        cases h
      · rw [List.getElem?_set_ne hm] at h
        exact h
    exact r.sep j k d1 d2 b (pre q1) (pre q2) q3 q4
  · by_cases hb : b = a
    · subst hb; exact .inr (.inl h2)
    · rw [upd_ne hb] at e; exact .inl e
theorem frz_run {pins : List (Addr × Obj)} {s : Shared} {σ : St} {B G H : Hp} {ρ : Env} {i : Nat} (I : L2.Inv X pins σ H s) (r : Rp X.wd B G H ρ σ) : ∃ G' H', L2.Inv X pins σ H' s ∧ Rp X.wd B G' H' (frzE i ρ) σ ∧ Gs B G G' := by
  unfold frzE
  split
  · rename_i d hi
    obtain ⟨a, h1, h2, h3, h4⟩ := r.own i d hi
    have sG : ∀ {u}, Same G (upd G a u) := same_upd h3
    cases h4 with
    | @lst _ xs _ e q =>
      obtain ⟨r', g'⟩ := r.frz (u := .lst xs) hi h1 e (.lst upd_same (q.mono sG))
      rw [upd_same_of e] at r'
      exact ⟨_, H, I, r', g'⟩
    | dcK e k q =>
      obtain ⟨od, I2⟩ := I.lock e True.intro
      obtain ⟨r', g'⟩ := r.frz hi h1 e (.dcK (od := od) upd_same k (q.mono sG))
      exact ⟨_, _, I2, r', g'⟩
    | dcT e k q =>
      obtain ⟨od, I2⟩ := I.lock e True.intro
      obtain ⟨r', g'⟩ := r.frz hi h1 e (.dcT (od := od) upd_same k (q.mono sG))
      exact ⟨_, _, I2, r', g'⟩
    | @dcN _ kv _ e k q q' =>
      obtain ⟨r', g'⟩ := r.frz (u := .ext (rawN X.wd a kv)) hi h1 e (.dcN upd_same k (q.mono sG) (q'.mono sG))
      rw [upd_same_of e] at r'
      exact ⟨_, H, I, r', g'⟩
  · exact ⟨G, H, I, r, Gs.refl⟩
theorem s_frz (i : Nat) (h : PSD X st F) : PSD X st (sFrz i F) := by
  refine ⟨fun pins s σ H E I q => ?_⟩
  obtain ⟨B, G, ρ, o, r, k, a⟩ := q
  obtain ⟨G', H', I', r', g'⟩ := frz_run (i := i) I r
  exact h.run pins s σ H' E I' ⟨B, G', _, o, r', k, a.from g'⟩

/-! ### what is owned is changed -/
section
local instance (priority := 1000000) cdec0 (p : Prop) : Decidable p := Classical.propDecidable p
def sApp (i : Nat) (F : FE) : FS := fun ρ => (F ρ).bind fun d => match ρ[i]? with
  | some (some (.own (.list ds))) => if ds.length < sizeLine then some (.nx (ρ.set i (some (.own (.list (ds ++ [d])))))) else none
  | _ => none
end
/-- x.append(e), x owned -/
theorem s_app (i : Nat) {x : Str} {e : Expr} {Fe : FE} {npos apos cpos : Pos} (he : PF X e Fe) (hN : X.N[i]? = some x := by rfl) (hv : Vis X.env.scope x := by first | exact Or.inl rfl | exact Or.inr (Or.inl rfl) | exact Or.inr (Or.inr rfl)) (hd : (x == ("__debug__" : Str)) = false := by decide)
    (hcd : (x == ("__classdict__" : Str)) = false := by decide)
    (hs1 : starEach [e] X.env = (false, eval e X.env) :: starEach [] X.env := by rfl)
    (hbase : attributeBase (.Name x npos) "append" X.env (eval (.Name x npos) X.env) = eval (.Name x npos) X.env := by rfl)
    (hfew : ((backTo cpos (starEach [e] X.env)).all (fun x => !x.1) && (backToKw cpos (keywordEach [] X.env)).all (fun x => x.1.isSome)
      && decide (([e] : List Expr).length + ([] : List Keyword).length + (if ([] : List Keyword).isEmpty then 0 else 1) < 30)) = true := by rfl)
    (hline : (apos.endLine == cpos.line) = true := by rfl) (hplain : (backTo cpos (starEach [] X.env)).any (·.1) = false := by rfl)
    (hs : swapsWith (.Call (.Attribute (.Name x npos) "append" apos) [e] [] cpos) none pos.line X.env = pure false := by rfl) :
    PSD X (.Expr (.Call (.Attribute (.Name x npos) "append" apos) [e] [] cpos) pos) (sApp i Fe) :=
  PS.weak (ps_expr (pe_bm PySem.F.plainAttrs_list PySem.F.slot_list_append PySem.F.type_list_append mt_append (pe_var (i := i) hN hv hd hcd) (pa_cons he pa_nil hs1) hbase hfew hline hs1 hplain) hs) fun E σ H ⟨B, G, ρ, o, r, k, a⟩ => by
    obtain ⟨d, hd, k⟩ := Option.bind_eq_some_iff.mp k
    split at k
    · split at k
      · rename_i ds hi hz
        cases k
        obtain ⟨l, h1, h2, h3, h4⟩ := r.own i _ hi
        cases h4 with
        | @lst _ xs _ e q =>
          refine ⟨_, h1, .inl ⟨rfl, _, SqL.of e⟩, B, G, ρ, d, r, hd, fun v G' H' w rv => ?_⟩
          have e' := w.h _ _ e
          refine ⟨l, xs, v, rfl, rfl, e', by rw [← q.length]; exact hz, ?_⟩
          exact a σ G' _ (w.gs r.bh) ((r.step w).upd_own hi h1 (.lst upd_same ((q.mono w.g).snoc rv)))
      · cases k
    · cases k

/-! ### x[i] = e, x owned: a list's item, a dict's pair -/
def dputD (kvs : List (D × D)) (k v : D) (eq : D → D → Bool) : List (D × D) :=
  if (kvs.any fun kv => eq kv.1 k) = true then kvs.map (fun kv => if eq kv.1 k = true then (kv.1, v) else kv) else kvs ++ [(k, v)]
end

/-! ### loops -/
def whileL (c : FT) (b : FS) : Nat → FS
  | 0, _ => none
  | n + 1, ρ => (c ρ).bind fun x => if x = true then (b ρ).bind (fun o => match o with
      | .nx ρ' => whileL c b n ρ'
      | .ct ρ' => whileL c b n ρ'
      | .bk ρ' => some (.nx ρ')
      | .rt d => some (.rt d)) else some (.nx ρ)
def forL (g : FG) (b : FS) : List D → FS
  | [], ρ => some (.nx ρ)
  | d :: ds, ρ => (g d ρ).bind fun ρ1 => (b ρ1).bind fun o => match o with
      | .nx ρ' => forL g b ds ρ'
      | .ct ρ' => forL g b ds ρ'
      | .bk ρ' => some (.nx ρ')
      | .rt d => some (.rt d)
abbrev FI := FL
/-- what an iterator gives, while what is frozen stands -/
def ItRep (W : Wd) (G : Hp) (J : It) (ds : List D) : Prop := ∀ Gc H, Same G Gc → Same Gc H → ∀ i : Nat, (ds.length ≤ i → J.stop i H) ∧ ∀ d, ds[i]? = some d → J.go i H ∧ ∀ x H', J.yld i H x H' → ∃ G', Gw Gc H G' H' ∧ Rep W G' d x
def tI (W : Wd) (F : FI) : TI := fun σ H R => ∃ B G ρ ds, Rp W B G H ρ σ ∧ F ρ = some ds ∧ ∀ J G' H', Gw G H G' H' → ItRep W G' J ds → R J H'
abbrev PID (X : Cx) (tg iter : Expr) (F : FI) : Prop := PI X tg iter (tI X.wd F)
theorem PI.weak {X : Cx} {tg iter : Expr} {t t' : TI} (h : PI X tg iter t) (i : ∀ σ H Q, t' σ H Q → t σ H Q) : PI X tg iter t' := ⟨fun pins s σ H R I q => h.run pins s σ H R I (i σ H R q)⟩
def sFor (l : FI) (g : FG) (b : FS) : FS := fun ρ => (l ρ).bind fun ds => forL g b ds ρ
def sWh (n : Nat) (c : FT) (b : FS) : FS := whileL c b n
section
variable {X : Cx} {F F' : FS} {pos : Pos}
theorem s_while (n : Nat) {c : Expr} {body : List Stmt} {Fc : FT} (hp : PassesOwn (model X.prog X.w) X.A X.env X.xe) (hc : PTD X c Fc) (hb : PSsD X body F) : PSD X (.While c body [] pos) (sWh n Fc F) :=
  PS.weak (ps_while hp hc hb) fun E σ H ⟨B, G, ρ, o, r, k, a⟩ => by
    refine ⟨fun m σ H => ∃ G2 ρ2, Gs B G G2 ∧ Rp X.wd B G2 H ρ2 σ ∧ whileL Fc F m ρ2 = some o, ⟨n, G, ρ, Gs.refl, r, k⟩, ?_⟩
    rintro m σ2 H2 ⟨G2, ρ2, g2, r2, k2⟩
    cases m with
    | zero => cases k2
    | succ m =>
      obtain ⟨x, hx, k2⟩ := Option.bind_eq_some_iff.mp k2
      refine ⟨B, G2, ρ2, x, r2, hx, fun G3 H3 w3 => ?_⟩
      by_cases e : x = true
      · rw [if_pos e] at k2 ⊢
        obtain ⟨o1, h1, k2⟩ := Option.bind_eq_some_iff.mp k2
        refine ⟨fun σ' H' => ∃ G2 ρ2, Gs B G G2 ∧ Rp X.wd B G2 H' ρ2 σ' ∧ whileL Fc F m ρ2 = some o, fun σ' H' z => ⟨m, Nat.lt_succ_self _, z⟩, B, G3, ρ2, o1, r2.step w3, h1, ?_⟩
        have g3 : Gs B G G3 := g2.trans (w3.gs r2.bh)
        cases o1 with
        | nx ρ' => exact fun σ' G' H' g r' => ⟨G', ρ', g3.trans g, r', k2⟩
        | ct ρ' => exact fun σ' G' H' g r' => ⟨G', ρ', g3.trans g, r', k2⟩
        | bk ρ' => cases k2; exact fun σ' G' H' g r' => a σ' G' H' (g3.trans g) r'
        | rt d => cases k2; exact fun v G' H' g b z rv => a v G' H' (g3.trans g) b z rv
      · rw [if_neg e] at k2 ⊢
        cases k2
        exact a σ2 G3 H3 (g2.trans (w3.gs r2.bh)) (r2.step w3)
theorem s_for {tg iter : Expr} {body : List Stmt} {l : FI} {g : FG} (hp : PassesOwn (model X.prog X.w) X.A X.env X.xe) (hc : X.calm = true) (hi : PID X tg iter l) (hg : PGD X tg g) (hb : PSsD X body F)
    (hs : ∀ x, foldedSetIterable iter X.env x = pure x := by intro _; rfl) : PSD X (.For tg iter body [] pos) (sFor l g F) :=
  PS.weak (ps_for hp hc hi hg hb hs) fun E σ H ⟨B, G, ρ, o, r, k, a⟩ => by
    obtain ⟨ds, hd, k⟩ := Option.bind_eq_some_iff.mp k
    refine ⟨B, G, ρ, ds, r, hd, fun J G1 H1 w1 it => ?_⟩
    have g1 : Gs B G G1 := w1.gs r.bh
    refine ⟨fun i m σ H => m = ds.length - i ∧ i ≤ ds.length ∧ ∃ G2 ρ2, Gs B G1 G2 ∧ Rp X.wd B G2 H ρ2 σ ∧ forL g F (ds.drop i) ρ2 = some o, ⟨_, rfl, Nat.zero_le _, G1, ρ, Gs.refl, r.step w1, k⟩, ?_⟩
    rintro i m σ2 H2 ⟨rfl, hi, G2, ρ2, g2, r2, k2⟩
    obtain ⟨hstop, hgo⟩ := it G2 H2 g2.g r2.gh i
    by_cases hlt : i < ds.length
    · have e : ds.drop i = ds[i] :: ds.drop (i + 1) := List.drop_eq_getElem_cons hlt
      rw [e] at k2
      obtain ⟨ρ3, h3, k2⟩ := Option.bind_eq_some_iff.mp k2
      obtain ⟨o1, h4, k2⟩ := Option.bind_eq_some_iff.mp k2
      obtain ⟨go, yld⟩ := hgo ds[i] (List.getElem?_eq_getElem hlt)
      refine .inr ⟨go, fun σ' H' => ∃ G2 ρ2, Gs B G1 G2 ∧ Rp X.wd B G2 H' ρ2 σ' ∧ forL g F (ds.drop (i + 1)) ρ2 = some o, fun σ' H' z => ⟨ds.length - (i + 1), by omega, rfl, hlt, z⟩, fun x H' y => ?_⟩
      obtain ⟨G3, w3, rx⟩ := yld x H' y
      refine ⟨B, G3, ρ2, ds[i], ρ3, r2.step w3, rx, h3, fun σ4 G4 H4 g4 r4 => ⟨B, G4, ρ3, o1, r4, h4, ?_⟩⟩
      have g5 : Gs B G1 G4 := (g2.trans (w3.gs r2.bh)).trans g4
      cases o1 with
      | nx ρ' => exact fun σ' G' H' g r' => ⟨G', ρ', g5.trans g, r', k2⟩
      | ct ρ' => exact fun σ' G' H' g r' => ⟨G', ρ', g5.trans g, r', k2⟩
      | bk ρ' => cases k2; exact fun σ' G' H' g r' => a σ' G' H' ((g1.trans g5).trans g) r'
      | rt d => cases k2; exact fun v G' H' g b z rv => a v G' H' ((g1.trans g5).trans g) b z rv
    · have e : i = ds.length := by omega
      subst e
      rw [List.drop_length] at k2
      cases k2
      exact .inl ⟨hstop (Nat.le_refl _), a σ2 G2 H2 (g1.trans g2) r2⟩
end

/-! ### a def as a function of data -/
def bind0 (n : Nat) (ds : List D) : Env := ds.map (fun d => some (.shr d)) ++ List.replicate (n - ds.length) none
/-- n: all its names; p: its parameters -/
def callF (n p : Nat) (b : FS) : List D → Option D := fun ds => if ds.length = p then (b (bind0 n ds)).bind fun o => match o with
  | .nx _ => some .none
  | .rt d => some d
  | _ => none else none
def spD (W : Wd) (p : Nat) (F : List D → Option D) : Sp := fun vs H Q _ => vs.length = p ∧ ∃ G ds d, Same G H ∧ Reps W G ds vs ∧ F ds = some d ∧ ∀ v G' H', Gw G H G' H' → Rep W G' d v → Q v H'
theorem rp_start {W : Wd} {G H : Hp} {N : List Str} {ds : List D} {vs : List V} (s : Same G H) (r : Reps W G ds vs) : Rp W H G H (bind0 N.length ds) (L2.start N vs) where
  bh := Same.refl _
  gh := s
  len := by simp [bind0, L2.start, r.length]
  shr := fun i d e => by
    unfold bind0 at e
    unfold L2.start
    have hl := r.length
    by_cases h : i < ds.length
    · rw [List.getElem?_append_left (by simpa using h), List.getElem?_map] at e
      cases q : ds[i]? with
      | none => rw [q] at e; cases e
      | some d' =>
        rw [q] at e
        cases e
        obtain ⟨v, h1, h2⟩ := r.get q
        exact ⟨v, by rw [List.getElem?_append_left (by simp; omega), List.getElem?_map, h1]; rfl, h2⟩
    · rw [List.getElem?_append_right (by simpa using h)] at e
      have := List.mem_of_getElem? e
      rw [List.mem_replicate] at this
      cases this.2
  own := fun i d e => by
    unfold bind0 at e
    by_cases h : i < ds.length
    · rw [List.getElem?_append_left (by simpa using h), List.getElem?_map] at e
      cases q : ds[i]? with
      | none => rw [q] at e; cases e
      | some d' => rw [q] at e; cases e
    · rw [List.getElem?_append_right (by simpa using h)] at e
      have := List.mem_of_getElem? e
      rw [List.mem_replicate] at this
      cases this.2
  sep := fun i j d e' a e _ _ _ => by
    unfold bind0 at e
    by_cases h : i < ds.length
    · rw [List.getElem?_append_left (by simpa using h), List.getElem?_map] at e
      cases q : ds[i]? with
      | none => rw [q] at e; cases e
      | some d' => rw [q] at e; cases e
    · rw [List.getElem?_append_right (by simpa using h)] at e
      have := List.mem_of_getElem? e
      rw [List.mem_replicate] at this
      cases this.2
section
variable {P : Program} {w : World} {K : PySem.W.Frag} {mg : Str → Option Value} {base : Heap}
/-- THE RULE for a def -/
theorem _root_.L2.Fun.okD {x qual : Str} {st : Stmt} {f : Addr} {fd : FuncData} {N ps : List Str} {k : Nat} {b : FS} (F : Fun K x qual st f fd) (S : FnScope N ps (defScope st))
    (hbody : ∀ (cdv : Value) (A : Around) (outer : List PySem.Env) (s : Shared) (H : Hp) (E : XK), Room k (A.deeper (envOfC qual (defScope st) s.heap.objs.size f cdv)) →
      PSsD (cxOf CX0 P w K mg base N qual (defScope st) f cdv A outer s H E).nox (defBody st) b) : FnOk P w K mg base CX0 (k + 1) f fd ps (spD ⟨P, w, K⟩ ps.length (callF N.length ps.length b)) := by
  refine F.ok S (fun vs H Q E h => h.1) fun cdv A outer s H vs Q E hr h => ⟨_, hbody cdv A outer s H E hr, ?_⟩
  obtain ⟨hl, G, ds, d, sg, r, hF, q⟩ := h
  unfold callF at hF
  split at hF
  · obtain ⟨o, ho, hF⟩ := Option.bind_eq_some_iff.mp hF
    refine ⟨H, G, bind0 N.length ds, o, rp_start sg r, ho, ?_⟩
    cases o with
    | nx ρ =>
      cases hF
      exact fun σ G' H' g r' => q .non G' H' ⟨g.g, r'.bh, r'.gh, g.new⟩ .non
    | rt d' =>
      cases hF
      exact fun v G' H' g b z rv => q v G' H' ⟨g.g, b, z, g.new⟩ rv
    | bk ρ => cases hF
    | ct ρ => cases hF
  · cases hF
end
/-- a def that keeps its promise, by its name -/
structure DefD (P : Program) (w : World) (K : PySem.W.Frag) (mg : Str → Option Value) (base : Heap) (k : Nat) (x : Str) (Ff : List D → Option D) : Prop where
  ex : ∃ (f : Addr) (fd : FuncData) (ps : List Str), FnOk P w K mg base CX0 k f fd ps (spD ⟨P, w, K⟩ ps.length Ff) ∧ mg x = some (.ref f) ∧ PySem.W.keepIn K (.ref f) = true ∧ Binds K fd ps [] ∧ ∀ ds d, Ff ds = some d → ds.length = ps.length
theorem callF_len {n p : Nat} {b : FS} {ds : List D} {d : D} (h : callF n p b ds = some d) : ds.length = p := by
  unfold callF at h
  split at h
  · assumption
  · cases h
section
variable {P : Program} {w : World} {K : PySem.W.Frag} {mg : Str → Option Value} {base : Heap}
theorem DefD.mono {j k : Nat} {x : Str} {Ff : List D → Option D} (h : DefD P w K mg base j x Ff) (hk : j ≤ k) : DefD P w K mg base k x Ff :=
  let ⟨f, fd, ps, h1, h2⟩ := h.ex
  ⟨f, fd, ps, h1.mono hk, h2⟩
/-- what the top has left of a def -/
structure TopF (K : PySem.W.Frag) (mg : Str → Option Value) (x : Str) (st : Stmt) (ps : List Str) : Prop where
  ex : ∃ (f : Addr) (fd : FuncData), Fun K x x st f fd ∧ mg x = some (.ref f) ∧ Binds K fd ps []
theorem TopF.mk' {h : Heap} {x : Str} {st : Stmt} {ps : List Str} {f : Addr} {oc : Value} {od an : Option Addr} {osl : Array (Option Value)} {kV doc pm cdv ct : Value} (X : K.In h) (G : h.Ns mainGlobals mg)
    (a : PySem.W.nsIn K mainGlobals x = some (some (.ref f))) (l : K.lookup f = some ⟨oc, od, .func (PySem.W.fnOf x x (defArgs st) (defBody st) (defScope st) .none kV doc pm an cdv ct), osl⟩)
    (c : PySem.W.codeIn K cdv x = true) (k : PySem.W.keepIn K (.ref f) = true)
    (hb : ∀ (kV doc pm : Value) (an : Option Addr) (cdv ct : Value) (us : List Value), us.length = ps.length → bindArgs (PySem.W.fnOf x x (defArgs st) (defBody st) (defScope st) .none kV doc pm an cdv ct) ⟨us, []⟩ = pure (ps.zip us)) :
    TopF K mg x st ps := ⟨f, _, fun_mk l c k, PySem.W.mg_of X G a, (fun_mk l c k).binds hb⟩
theorem DefD.of {k : Nat} {x : Str} {st : Stmt} {N ps : List Str} {b : FS} (T : TopF K mg x st ps) (S : FnScope N ps (defScope st))
    (hbody : ∀ (f : Addr) (cdv : Value) (A : Around) (outer : List PySem.Env) (s : Shared) (H : Hp) (E : XK), Room k (A.deeper (envOfC x (defScope st) s.heap.objs.size f cdv)) →
      PSsD (cxOf CX0 P w K mg base N x (defScope st) f cdv A outer s H E).nox (defBody st) b) : DefD P w K mg base (k + 1) x (callF N.length ps.length b) :=
  let ⟨f, fd, F, hm, hb⟩ := T.ex
  ⟨f, fd, ps, F.okD S (hbody f), hm, F.kp, hb, fun _ _ h => callF_len h⟩
end
/-- a call -/
def eCall (f : List D → Option D) (l : FL) : FE := fun ρ => (l ρ).bind f
section
variable {X : Cx} {k : Nat} {x : Str} {p pos : Pos} {e : Expr} {es : List Expr} {L : FL} {Ff : List D → Option D}
theorem f_call (F : DefD X.prog X.w X.K X.mg X.base k x Ff) (hr : Room k X.A) (ha : PAF X (e :: es) L)
    (hg : Gl X x := by rfl) (hdb : (x == ("__debug__" : Str)) = false := by decide) (he : starEach (e :: es) X.env = (false, eval e X.env) :: starEach es X.env := by rfl) (hpl : (backTo pos (starEach es X.env)).any (·.1) = false := by rfl) :
    PF X (.Call (.Name x p) (e :: es) [] pos) (eCall Ff L) := by
  obtain ⟨f, fd, ps, F, hm, hk, hb, hl⟩ := F.ex
  refine PE.weak (pe_call F hr hg hm hk hb .nil pass0 ha hdb he hpl) fun σ H Q ⟨B, G, ρ, d, r, q, z⟩ => ?_
  obtain ⟨ds, hd, q⟩ := Option.bind_eq_some_iff.mp q
  refine ⟨B, G, ρ, ds, r, hd, fun vs G1 H1 w1 rv => ?_⟩
  exact ⟨by rw [List.append_nil, ← rv.length, hl ds d q], G1, ds, d, w1.gh, by rw [List.append_nil]; exact rv, q, fun v G2 H2 w2 r2 => z v G2 H2 (w1.trans w2) r2⟩
end
end DV
end

set_option Elab.async false
set_option linter.all false
set_option maxRecDepth 100000
/-! DVd: the operators, by data. -/
noncomputable section
namespace DV
open PySem PySem.Spec PyProof.Rows L2

section
variable {W : Wd} {G H : Hp} {v : V}
theorem Bor.non' (b : Bor W G H .none v) : v = .non := by
  rcases b with b | ⟨p, e, t⟩
  · cases b; rfl
  · cases t
theorem Bor.bl' {c : Bool} (b : Bor W G H (.bool c) v) : v = .bl c := by
  rcases b with b | ⟨p, e, t⟩
  · cases b; rfl
  · cases t
theorem Bor.int' {i : Int} (b : Bor W G H (.int i) v) : v = .int i := by
  rcases b with b | ⟨p, e, t⟩
  · cases b; rfl
  · cases t
theorem Bor.str' {x : Str} (b : Bor W G H (.str x) v) : v = .str x := by
  rcases b with b | ⟨p, e, t⟩
  · cases b; rfl
  · cases t
theorem Bor.lst' {ds : List D} (sg : Same G H) (b : Bor W G H (.list ds) v) : ∃ a xs, v = .ref a ∧ H a = some (.lst xs) ∧ Reps W G ds xs := by
  rcases b with b | ⟨p, e, t⟩
  · cases b with
    | lst h r => exact ⟨_, _, rfl, sg _ _ h, r⟩
  · cases t with
    | lst h r => exact ⟨_, _, e, h, r⟩
theorem Bor.tup' {ds : List D} (sg : Same G H) (b : Bor W G H (.tuple ds) v) : ∃ a xs, v = .ref a ∧ G a = some (.tup xs) ∧ H a = some (.tup xs) ∧ Reps W G ds xs := by
  rcases b with b | ⟨p, e, t⟩
  · cases b with
    | tup h r => exact ⟨_, _, rfl, h, sg _ _ h, r⟩
  · cases t
theorem Rep.str' {x : Str} (b : Rep W G (.str x) v) : v = .str x := by cases b; rfl
theorem Rep.int' {x : Int} (b : Rep W G (.int x) v) : v = .int x := by cases b; rfl
theorem Gw.mk1 {u : HO} {p : Addr} (sg : Same G H) (hp : H p = none) : Gw G H (upd G p u) (upd H p u) where
  g := same_upd (sg.free hp)
  h := same_upd hp
  gh := fun b z e => by
    by_cases hb : b = p
    · subst hb; rw [upd_same] at e ⊢; exact e
    · rw [upd_ne hb] at e ⊢; exact sg b z e
  new := fun b z e => by
    by_cases hb : b = p
    · subst hb; exact .inr (.inl hp)
    · rw [upd_ne hb] at e; exact .inl e
/-- a new list, a new tuple is frozen -/
theorem fin_lst {Q : VK} {ds : List D} {xs : List V} (sg : Same G H) (r : Reps W G ds xs) (q : ∀ z G' H', Gw G H G' H' → Rep W G' (.list ds) z → Q z H') : ∀ p, H p = none → Q (.ref p) (upd H p (.lst xs)) := fun p hp =>
  q _ _ _ (Gw.mk1 sg hp) (.lst upd_same (r.mono (same_upd (sg.free hp))))
theorem fin_tup {Q : VK} {ds : List D} {xs : List V} (sg : Same G H) (r : Reps W G ds xs) (q : ∀ z G' H', Gw G H G' H' → Rep W G' (.tuple ds) z → Q z H') : ∀ p, H p = none → Q (.ref p) (upd H p (.tup xs)) := fun p hp =>
  q _ _ _ (Gw.mk1 sg hp) (.tup upd_same (r.mono (same_upd (sg.free hp))))
theorem Reps.nil_iff {ds : List D} {xs : List V} (r : Reps W G ds xs) : ds = [] ↔ xs = [] := by
  have := r.length
  constructor
  · rintro rfl
    exact List.eq_nil_of_length_eq_zero this.symm
  · rintro rfl
    exact List.eq_nil_of_length_eq_zero this
end

/-! ### arithmetic and joining -/
section
local instance (priority := 1000000) cdec1 (p : Prop) : Decidable p := Classical.propDecidable p
def addD : D → D → Option D
  | .int i, .int j => some (.int (i + j))
  | .str x, .str y => if x.length + y.length ≤ sizeLine then some (.str (x ++ y)) else none
  | .list xs, .list ys => if xs.length + ys.length ≤ sizeLine then some (.list (xs ++ ys)) else none
  | .tuple xs, .tuple ys => if xs.length + ys.length ≤ sizeLine then some (.tuple (xs ++ ys)) else none
  | _, _ => none
def subD : D → D → Option D
  | .int i, .int j => some (.int (i - j))
  | _, _ => none
def mulS (z : Str) (n : Int) : Str := ⟨(List.replicate n.toNat z.cps.toList).flatten.toArray⟩
def mulD : D → D → Option D
  | .int i, .int j => if (-(2 ^ 64) < i ∧ i < 2 ^ 64) ∨ (-(2 ^ 64) < j ∧ j < 2 ^ 64) then some (.int (i * j)) else none
  | .str z, .int n => if -(2 ^ 62) ≤ n ∧ n < 2 ^ 62 ∧ z.length * n.toNat ≤ sizeLine then some (.str (mulS z n)) else none
  | _, _ => none
def fdivD : D → D → Option D
  | .int i, .int j => if 0 < j ∧ j < 1073741824 then some (.int (i / j)) else none
  | _, _ => none
def modD : D → D → Option D
  | .int i, .int j => if 0 < j then some (.int (i % j)) else none
  | _, _ => none
def powD : D → D → Option D
  | .int i, .int j => if 0 ≤ j ∧ j ≤ 1000000 ∧ i.natAbs < 2 ^ 64 then some (.int (i ^ j.toNat)) else none
  | _, _ => none
def shlD : D → D → Option D
  | .int i, .int j => if 0 ≤ j ∧ j ≤ 1000000 ∧ i.natAbs < 2 ^ 64 then some (.int (i * 2 ^ j.toNat)) else none
  | _, _ => none
def shrD : D → D → Option D
  | .int i, .int j => if 0 ≤ j then some (.int (i / 2 ^ j.toNat)) else none
  | _, _ => none
def andD : D → D → Option D
  | .int i, .int j => some (.int (Builtin.bitAnd i j))
  | _, _ => none
def orD : D → D → Option D
  | .int i, .int j => some (.int (Builtin.bitOr i j))
  | _, _ => none
end
theorem foldl_app (z : Array Nat) : ∀ (n : Nat) (a : Array Nat), ((List.replicate n z).foldl (· ++ ·) a) = a ++ (List.replicate n z.toList).flatten.toArray
  | 0, a => by simp
  | n + 1, a => by
    rw [List.replicate_succ, List.foldl_cons, foldl_app z n, List.replicate_succ, List.flatten_cons]
    apply Array.ext'
    simp
theorem mulS_len (z : Str) (n : Int) : (mulS z n).length = z.length * n.toNat := by
  unfold mulS Str.length
  rw [List.size_toArray, List.length_flatten, List.map_replicate, List.sum_replicate_nat]
  simp [Nat.mul_comm]
section
variable {X : Cx}
theorem op_mul_str : OpR X (binaryOp .Mult) (fun x y H Q => ∃ z n, x = .str z ∧ y = .int n ∧ (-(2 ^ 62) ≤ n ∧ n < 2 ^ 62 ∧ z.length * n.toNat ≤ sizeLine) ∧ Q (.str (mulS z n)) H) := by
  intro pins s σ H x y v u Q I rx ry h
  obtain ⟨z, n, rfl, rfl, ⟨h1, h2, h3⟩, q⟩ := h
  obtain ⟨t, rfl⟩ := rx
  obtain ⟨t', rfl⟩ := ry
  have hs := sizeLine_eq
  refine P.mul_str (by rw [decide_eq_false (by omega), decide_eq_false (by omega)]; rfl) (fun h4 h5 => ?_) (fun h4 h5 => ?_) ?_
  · have hn : (0 : Int) < n := by omega
    have hz : ((z.length : Int) * n) ≤ 2 ^ 63 - 1 := by
      have : ((z.length * n.toNat : Nat) : Int) ≤ (sizeLine : Int) := by exact_mod_cast h3
      rw [Int.natCast_mul, Int.toNat_of_nonneg (Int.le_of_lt hn)] at this
      omega
    have := (Int.le_ediv_iff_mul_le hn).mpr hz
    omega
  · unfold Builtin.Str.tooLong
    exact decide_eq_false (by omega)
  · by_cases h4 : n < 1
    · rw [if_pos h4]
      have e : mulS z n = Str.empty := by
        have : n.toNat = 0 := by omega
        unfold mulS
        rw [this]
        rfl
      rw [e] at q
      exact ⟨by decide, .str Str.empty, H, I.tok _, ⟨_, rfl⟩, q⟩
    · rw [if_neg h4]
      split
      · rename_i h5
        have e : mulS z n = z := by
          unfold mulS
          rcases (Bool.or_eq_true _ _).mp h5 with h6 | h6
          · have : n = 1 := by simpa using h6
            subst this
            simp
          · have h7 : z.length = 0 := by simpa using h6
            have h8 : z.cps = #[] := Array.eq_empty_of_size_eq_zero h7
            obtain ⟨c⟩ := z
            simp only at h8
            subst h8
            simp
        rw [e] at q
        exact ⟨.str z, H, I, ⟨_, rfl⟩, q⟩
      · have e : (⟨(List.replicate n.toNat z.cps).foldl (· ++ ·) #[]⟩ : Str) = mulS z n := by
          unfold mulS
          rw [foldl_app]
          simp
        rw [e]
        refine ⟨?_, .str _, H, I.tok _, ⟨_, rfl⟩, q⟩
        rw [mulS_len]
        exact h3
/-- all of + -/
theorem f_add {a b : Expr} {pos : Pos} {Fa Fb : FE} (ha : PB X a Fa) (hb : PB X b Fb) : PF X (.BinOp a .Add b pos) (o2 addD Fa Fb) :=
  f_op (op_add.or (op_add_str.or (op_cat.or op_catA))) (fun x y d v u G H Q k bx bY sg q => by
    unfold addD at k
    split at k
    · cases k
      cases bx.int'
      cases bY.int'
      exact .inl ⟨_, _, rfl, rfl, q _ G H (Gw.refl sg) (.int _)⟩
    · split at k
      · rename_i hz
        cases k
        cases bx.str'
        cases bY.str'
        exact .inr (.inl ⟨_, _, rfl, rfl, hz, q _ G H (Gw.refl sg) (.str _)⟩)
      · cases k
    · split at k
      · rename_i hz
        cases k
        obtain ⟨a, xs, rfl, h1, r1⟩ := bx.lst' sg
        obtain ⟨b, ys, rfl, h2, r2⟩ := bY.lst' sg
        exact .inr (.inr (.inl ⟨_, _, _, _, rfl, rfl, h1, h2, by rw [← r1.length, ← r2.length]; exact hz, fin_lst sg (r1.append r2) q⟩))
      · cases k
    · split at k
      · rename_i hz
        cases k
        obtain ⟨a, xs, rfl, g1, h1, r1⟩ := bx.tup' sg
        obtain ⟨b, ys, rfl, g2, h2, r2⟩ := bY.tup' sg
        refine .inr (.inr (.inr ⟨_, _, _, _, rfl, rfl, SqT.of h1, SqT.of h2, by rw [← r1.length, ← r2.length]; exact hz, fun e => ?_, fun e1 e2 => ?_, fun _ _ => fin_tup sg (r1.append r2) q⟩))
        · rw [r1.nil_iff.mpr e] at q
          exact q _ G H (Gw.refl sg) (.tup g2 r2)
        · rw [r2.nil_iff.mpr e2, List.append_nil] at q
          exact q _ G H (Gw.refl sg) (.tup g1 r1)
      · cases k
    · cases k) ha hb
theorem opd_int {C : Int → Int → Prop} [∀ i j, Decidable (C i j)] {g : Int → Int → Int} {W : Wd} {f : D → D → Option D} (hf : ∀ x y d, f x y = some d → ∃ i j, x = .int i ∧ y = .int j ∧ C i j ∧ d = .int (g i j)) : OpD W (rI C fun i j => .int (g i j)) f := fun x y d v u G H Q k bx bY sg q => by
  obtain ⟨i, j, rfl, rfl, hc, rfl⟩ := hf x y d k
  cases bx.int'
  cases bY.int'
  exact ⟨_, _, rfl, rfl, hc, q _ G H (Gw.refl sg) (.int _)⟩
theorem opd_int0 {g : Int → Int → Int} {W : Wd} {f : D → D → Option D} (hf : ∀ x y d, f x y = some d → ∃ i j, x = .int i ∧ y = .int j ∧ d = .int (g i j)) : OpD W (rI0 fun i j => .int (g i j)) f := fun x y d v u G H Q k bx bY sg q => by
  obtain ⟨i, j, rfl, rfl, rfl⟩ := hf x y d k
  cases bx.int'
  cases bY.int'
  exact ⟨_, _, rfl, rfl, q _ G H (Gw.refl sg) (.int _)⟩
section
variable {a b : Expr} {pos : Pos} {Fa Fb : FE}
theorem f_sub (ha : PB X a Fa) (hb : PB X b Fb) : PF X (.BinOp a .Sub b pos) (o2 subD Fa Fb) := f_op op_sub (opd_int0 fun x y d k => by
  unfold subD at k; split at k <;> cases k; exact ⟨_, _, rfl, rfl, rfl⟩) ha hb
theorem f_mul (ha : PB X a Fa) (hb : PB X b Fb) : PF X (.BinOp a .Mult b pos) (o2 mulD Fa Fb) := f_op (op_mul.or op_mul_str) (fun x y d v u G H Q k bx bY sg q => by
  unfold mulD at k
  split at k
  · split at k
    · rename_i hz
      cases k
      cases bx.int'
      cases bY.int'
      exact .inl ⟨_, _, rfl, rfl, hz, q _ G H (Gw.refl sg) (.int _)⟩
    · cases k
  · split at k
    · rename_i hz
      cases k
      cases bx.str'
      cases bY.int'
      exact .inr ⟨_, _, rfl, rfl, hz, q _ G H (Gw.refl sg) (.str _)⟩
    · cases k
  · cases k) ha hb
theorem f_fdiv (ha : PB X a Fa) (hb : PB X b Fb) : PF X (.BinOp a .FloorDiv b pos) (o2 fdivD Fa Fb) := f_op op_fdiv (fun x y d v u G H Q k bx bY sg q => by
  unfold fdivD at k
  split at k
  · split at k
    · rename_i hz
      cases k
      cases bx.int'
      cases bY.int'
      exact ⟨_, _, rfl, rfl, hz, q _ G H (Gw.refl sg) (.int _)⟩
    · cases k
  · cases k) ha hb
theorem f_mod (ha : PB X a Fa) (hb : PB X b Fb) : PF X (.BinOp a .Mod b pos) (o2 modD Fa Fb) := f_op op_mod (fun x y d v u G H Q k bx bY sg q => by
  unfold modD at k
  split at k
  · split at k
    · rename_i hz
      cases k
      cases bx.int'
      cases bY.int'
      exact ⟨_, _, rfl, rfl, hz, q _ G H (Gw.refl sg) (.int _)⟩
    · cases k
  · cases k) ha hb
theorem f_pow (ha : PB X a Fa) (hb : PB X b Fb) : PF X (.BinOp a .Pow b pos) (o2 powD Fa Fb) := f_op op_pow (fun x y d v u G H Q k bx bY sg q => by
  unfold powD at k
  split at k
  · split at k
    · rename_i hz
      cases k
      cases bx.int'
      cases bY.int'
      exact ⟨_, _, rfl, rfl, hz, q _ G H (Gw.refl sg) (.int _)⟩
    · cases k
  · cases k) ha hb
theorem f_shl (ha : PB X a Fa) (hb : PB X b Fb) : PF X (.BinOp a .LShift b pos) (o2 shlD Fa Fb) := f_op op_shl (fun x y d v u G H Q k bx bY sg q => by
  unfold shlD at k
  split at k
  · split at k
    · rename_i hz
      cases k
      cases bx.int'
      cases bY.int'
      exact ⟨_, _, rfl, rfl, hz, q _ G H (Gw.refl sg) (.int _)⟩
    · cases k
  · cases k) ha hb
theorem f_shr (ha : PB X a Fa) (hb : PB X b Fb) : PF X (.BinOp a .RShift b pos) (o2 shrD Fa Fb) := f_op op_shr (fun x y d v u G H Q k bx bY sg q => by
  unfold shrD at k
  split at k
  · split at k
    · rename_i hz
      cases k
      cases bx.int'
      cases bY.int'
      exact ⟨_, _, rfl, rfl, hz, q _ G H (Gw.refl sg) (.int _)⟩
    · cases k
  · cases k) ha hb
theorem f_bitand (ha : PB X a Fa) (hb : PB X b Fb) : PF X (.BinOp a .BitAnd b pos) (o2 andD Fa Fb) := f_op op_and (opd_int0 fun x y d k => by
  unfold andD at k; split at k <;> cases k; exact ⟨_, _, rfl, rfl, rfl⟩) ha hb
theorem f_bitor (ha : PB X a Fa) (hb : PB X b Fb) : PF X (.BinOp a .BitOr b pos) (o2 orD Fa Fb) := f_op op_or (opd_int0 fun x y d k => by
  unfold orD at k; split at k <;> cases k; exact ⟨_, _, rfl, rfl, rfl⟩) ha hb
def negD : D → Option D
  | .int i => some (.int (-i))
  | _ => none
theorem f_neg (ha : PB X a Fa) : PF X (.UnaryOp .USub a pos) (o1 negD Fa) := PE.weak (pe_un un_neg ha) fun σ H Q ⟨B, G, ρ, d, r, k, q⟩ => by
  obtain ⟨x, hx, k⟩ := Option.bind_eq_some_iff.mp k
  refine ⟨B, G, ρ, x, r, hx, fun v G1 H1 w1 b1 => ?_⟩
  unfold negD at k
  split at k
  · cases k
    cases b1.int'
    exact ⟨_, rfl, q _ G1 H1 w1 (.int _)⟩
  · cases k
end
end
end DV
end

set_option Elab.async false
set_option linter.all false
set_option maxRecDepth 100000
/-! DVe: comparisons by data: ==, !=, <, <=, is, in. -/
noncomputable section
namespace DV
open PySem PySem.Spec PyProof.Rows L2

def CmpR (X : Cx) (op : CmpOp) (f : D → D → Option D) : Prop := ∃ r, OpR X (compareOp op) r ∧ OpD X.wd r f
section
variable {X : Cx} {op op' : CmpOp} {f f' : D → D → Option D} {a b c : Expr} {pos : Pos} {Fa Fb Fc : FE}
theorem f_cm (h : CmpR X op f) (ha : PB X a Fa) (hb : PB X b Fb) (hm : behindInMarks op b = false) : PF X (.Compare a [op] [b] pos) (o2 f Fa Fb) := let ⟨_, h1, h2⟩ := h; f_cmp h1 h2 ha hb hm
theorem t_cm (h : CmpR X op f) (ha : PB X a Fa) (hb : PB X b Fb) (hm : behindInMarks op b = false) : PTD X (.Compare a [op] [b] pos) (toT (o2 f Fa Fb)) := let ⟨_, h1, h2⟩ := h; t_cmp h1 h2 ha hb hm
/-- a < b < c -/
def o3c (f f' : D → D → Option D) (a b c : FE) : FE := fun ρ => (a ρ).bind fun x => (b ρ).bind fun y => ((f x y).bind asB).bind fun k => if k = true then (c ρ).bind fun z => f' y z else some (.bool false)
theorem chain_r {r r' : R2} (h2 : OpD X.wd r f) (h2' : OpD X.wd r' f') {σ : L2.St} {H : Hp} {Q : VK} (h : tF X.wd (o3c f f' Fa Fb Fc) σ H Q) : tChain r r' (tB X.wd Fa) (tB X.wd Fb) (tB X.wd Fc) σ H Q := by
  obtain ⟨B, G, ρ, d, rp, k, q⟩ := h
  obtain ⟨x, hx, k⟩ := Option.bind_eq_some_iff.mp k
  obtain ⟨y, hy, k⟩ := Option.bind_eq_some_iff.mp k
  obtain ⟨c, hc, k⟩ := Option.bind_eq_some_iff.mp k
  obtain ⟨d1, hd1, hc⟩ := Option.bind_eq_some_iff.mp hc
  refine ⟨B, G, ρ, x, rp, hx, fun v G1 H1 w1 b1 => ⟨B, G1, ρ, y, rp.step w1, hy, fun u G2 H2 w2 b2 => ?_⟩⟩
  refine h2 x y d1 v u G2 H2 _ hd1 (b1.step w2) b2 w2.gh fun z G3 H3 w3 rz => ?_
  cases d1 <;> first | cases hc | skip
  cases rz
  refine ⟨_, rfl, ?_⟩
  by_cases e : c = true
  · rw [if_pos e] at k ⊢
    obtain ⟨z, hz, k⟩ := Option.bind_eq_some_iff.mp k
    exact ⟨B, G3, ρ, z, ((rp.step w1).step w2).step w3, hz, fun t G4 H4 w4 b4 => h2' y z d u t G4 H4 Q k ((b2.step w3).step w4) b4 w4.gh fun z' G5 H5 w5 rz => q z' G5 H5 ((((w1.trans w2).trans w3).trans w4).trans w5) rz⟩
  · rw [if_neg e] at k ⊢
    cases k
    exact q _ G3 H3 ((w1.trans w2).trans w3) (.bl _)
theorem f_chain (h : CmpR X op f) (h' : CmpR X op' f') (ha : PB X a Fa) (hb : PB X b Fb) (hc : PB X c Fc) (hm : lastMarks [op, op'] [b, c] = false := by with_unfolding_all rfl) : PF X (.Compare a [op, op'] [b, c] pos) (o3c f f' Fa Fb Fc) :=
  let ⟨_, h1, h2⟩ := h
  let ⟨_, h1', h2'⟩ := h'
  PE.weak (pe_chain h1 h1' ha hb hc hm) fun _ _ _ q => chain_r h2 h2' q
theorem t_chain (h : CmpR X op f) (h' : CmpR X op' f') (ha : PB X a Fa) (hb : PB X b Fb) (hc : PB X c Fc) (hm : lastMarks [op, op'] [b, c] = false := by with_unfolding_all rfl) : PTD X (.Compare a [op, op'] [b, c] pos) (toT (o3c f f' Fa Fb Fc)) :=
  let ⟨_, h1, h2⟩ := h
  let ⟨_, h1', h2'⟩ := h'
  PT.weak (pt_chain h1 h1' ha hb hc hm) fun σ H Q q => by
    obtain ⟨B, G, ρ, c, rp, k, q⟩ := q
    obtain ⟨d, hd, k⟩ := Option.bind_eq_some_iff.mp k
    refine chain_r h2 h2' (Q := fun x H' => ∃ k, x = .bl k ∧ Q k H') ⟨B, G, ρ, d, rp, hd, fun v G' H' w rv => ?_⟩
    cases d <;> first | cases k | skip
    cases rv
    exact ⟨_, rfl, q G' H' w⟩
end

/-! ### == -/
section
variable {W : Wd} {G H : Hp}
mutual
theorem Rep.dp (sg : Same G H) : ∀ (d : D) (v : V), Rep W G d v → d.canLay0 = true → Dp W.K H v d
  | .none, _, h, _ => by cases h; exact .non
  | .bool b, _, h, _ => by cases h; exact .bl b
  | .int i, _, h, _ => by cases h; exact .int i
  | .str x, _, h, _ => by cases h; exact .str x
  | .list ds, _, h, hl => by
    cases h with
    | lst h1 h2 => exact .lst (SqL.of (sg _ _ h1)) (Reps.dp sg ds _ h2 hl)
  | .tuple ds, _, h, hl => by
    cases h with
    | tup h1 h2 => exact .tup (SqT.of (sg _ _ h1)) (Reps.dp sg ds _ h2 hl)
  | .dict _, _, _, hl => by cases hl
theorem Reps.dp (sg : Same G H) : ∀ (ds : List D) (vs : List V), Reps W G ds vs → PyData.canLayAll0 ds = true → DpAll W.K H vs ds
  | [], _, h, _ => by cases h; exact .nil
  | d :: ds, _, h, hl => by
    cases h with
    | cons h1 h2 =>
      have := (Bool.and_eq_true _ _).mp hl
      exact .cons (Rep.dp sg d _ h1 this.1) (Reps.dp sg ds _ h2 this.2)
end
theorem Bor.dp {d : D} {v : V} (sg : Same G H) (b : Bor W G H d v) (hl : d.canLay0 = true) : Dp W.K H v d := by
  rcases b with b | ⟨p, e, t⟩
  · exact b.dp sg _ _ hl
  · subst e
    cases t with
    | lst h r => exact .lst (SqL.of h) (r.dp sg _ _ hl)
    | dcK => cases hl
    | dcT => cases hl
    | dcN => cases hl
end
section
local instance (priority := 1000000) cde1 (p : Prop) : Decidable p := Classical.propDecidable p
def eqG (x y : D) : Option D := if SeqAt.shaped x = true ∧ SeqAt.shaped y = true then some (.bool (PyData.eqv x y)) else none
end
def eqD : D → D → Option D
  | .int i, .int j => some (.bool (decide (i = j)))
  | .str i, .str j => some (.bool (decide (i = j)))
  | .bool i, .bool j => some (.bool (decide (i = j)))
  | .none, .none => some (.bool true)
  | .none, .int _ => some (.bool false)
  | .int _, .none => some (.bool false)
  | .none, .str _ => some (.bool false)
  | .str _, .none => some (.bool false)
  | .int _, .str _ => some (.bool false)
  | .str _, .int _ => some (.bool false)
  | x, y => eqG x y
def neD (x y : D) : Option D := ((eqD x y).bind asB).map fun b => .bool (!b)
theorem fin_b {W : Wd} {G H : Hp} {Q : VK} {b c : Bool} (sg : Same G H) (e : b = c) (q : ∀ z G' H', Gw G H G' H' → Rep W G' (.bool b) z → Q z H') : Q (.bl c) H := by
  subst e
  exact q _ G H (Gw.refl sg) (.bl _)
section
variable {X : Cx}
theorem c_eq (hu : X.A.units + 64 < cLine) : CmpR X .Eq eqD := ⟨_, op_eq.or (op_eqD hu), fun x y d v u G H Q k bx bY sg q => by
  unfold eqD at k
  split at k
  · cases k; cases bx.int'; cases bY.int'; exact .inl ⟨rfl, fin_b sg (by simp) q⟩
  · cases k; cases bx.str'; cases bY.str'; exact .inl ⟨rfl, fin_b sg (by simp) q⟩
  · cases k; cases bx.bl'; cases bY.bl'; exact .inl ⟨rfl, fin_b sg (by simp) q⟩
  · cases k; cases bx.non'; cases bY.non'; exact .inl ⟨rfl, fin_b sg (by simp) q⟩
  · cases k; cases bx.non'; cases bY.int'; exact .inl ⟨rfl, fin_b sg (by simp) q⟩
  · cases k; cases bx.int'; cases bY.non'; exact .inl ⟨rfl, fin_b sg (by simp) q⟩
  · cases k; cases bx.non'; cases bY.str'; exact .inl ⟨rfl, fin_b sg (by simp) q⟩
  · cases k; cases bx.str'; cases bY.non'; exact .inl ⟨rfl, fin_b sg (by simp) q⟩
  · cases k; cases bx.int'; cases bY.str'; exact .inl ⟨rfl, fin_b sg (by simp) q⟩
  · cases k; cases bx.str'; cases bY.int'; exact .inl ⟨rfl, fin_b sg (by simp) q⟩
  · unfold eqG at k
    split at k
    · rename_i hs
      cases k
      exact .inr ⟨_, _, bx.dp sg (SeqAt.canLay_of_shaped hs.1), bY.dp sg (SeqAt.canLay_of_shaped hs.2), hs.1, hs.2, fin_b sg rfl q⟩
    · cases k⟩
theorem c_ne (hu : X.A.units + 64 < cLine) : CmpR X .NotEq neD := ⟨_, op_ne.or (op_neD hu), fun x y d v u G H Q k bx bY sg q => by
  obtain ⟨c, hc, k⟩ := Option.map_eq_some_iff.mp k
  obtain ⟨e, he, hc⟩ := Option.bind_eq_some_iff.mp hc
  subst k
  unfold eqD at he
  split at he
  · cases he; cases hc; cases bx.int'; cases bY.int'; exact .inl ⟨rfl, fin_b sg (by simp) q⟩
  · cases he; cases hc; cases bx.str'; cases bY.str'; exact .inl ⟨rfl, fin_b sg (by simp) q⟩
  · cases he; cases hc; cases bx.bl'; cases bY.bl'; exact .inl ⟨rfl, fin_b sg (by simp) q⟩
  · cases he; cases hc; cases bx.non'; cases bY.non'; exact .inl ⟨rfl, fin_b sg (by simp) q⟩
  · cases he; cases hc; cases bx.non'; cases bY.int'; exact .inl ⟨rfl, fin_b sg (by simp) q⟩
  · cases he; cases hc; cases bx.int'; cases bY.non'; exact .inl ⟨rfl, fin_b sg (by simp) q⟩
  · cases he; cases hc; cases bx.non'; cases bY.str'; exact .inl ⟨rfl, fin_b sg (by simp) q⟩
  · cases he; cases hc; cases bx.str'; cases bY.non'; exact .inl ⟨rfl, fin_b sg (by simp) q⟩
  · cases he; cases hc; cases bx.int'; cases bY.str'; exact .inl ⟨rfl, fin_b sg (by simp) q⟩
  · cases he; cases hc; cases bx.str'; cases bY.int'; exact .inl ⟨rfl, fin_b sg (by simp) q⟩
  · unfold eqG at he
    split at he
    · rename_i hs
      cases he
      cases hc
      exact .inr ⟨_, _, bx.dp sg (SeqAt.canLay_of_shaped hs.1), bY.dp sg (SeqAt.canLay_of_shaped hs.2), hs.1, hs.2, fin_b sg rfl q⟩
    · cases he⟩

/-! ### <, <=, >, >= -/
def ltD : D → D → Option D
  | .int i, .int j => some (.bool (decide (i < j)))
  | .str i, .str j => some (.bool (decide (i.cps.toList < j.cps.toList)))
  | _, _ => none
def leD : D → D → Option D
  | .int i, .int j => some (.bool (decide (i ≤ j)))
  | _, _ => none
def gtD : D → D → Option D
  | .int i, .int j => some (.bool (decide (j < i)))
  | _, _ => none
def geD : D → D → Option D
  | .int i, .int j => some (.bool (decide (j ≤ i)))
  | _, _ => none
theorem c_lt : CmpR X .Lt ltD := ⟨_, op_lt.or op_lt_str, fun x y d v u G H Q k bx bY sg q => by
  unfold ltD at k
  split at k
  · cases k; cases bx.int'; cases bY.int'; exact .inl ⟨_, _, rfl, rfl, fin_b sg rfl q⟩
  · cases k; cases bx.str'; cases bY.str'; exact .inr ⟨_, _, rfl, rfl, fin_b sg rfl q⟩
  · cases k⟩
theorem c_le : CmpR X .LtE leD := ⟨_, op_le, fun x y d v u G H Q k bx bY sg q => by
  unfold leD at k
  split at k
  · cases k; cases bx.int'; cases bY.int'; exact ⟨_, _, rfl, rfl, fin_b sg rfl q⟩
  · cases k⟩
theorem c_gt : CmpR X .Gt gtD := ⟨_, op_gt, fun x y d v u G H Q k bx bY sg q => by
  unfold gtD at k
  split at k
  · cases k; cases bx.int'; cases bY.int'; exact ⟨_, _, rfl, rfl, fin_b sg rfl q⟩
  · cases k⟩
theorem c_ge : CmpR X .GtE geD := ⟨_, op_ge, fun x y d v u G H Q k bx bY sg q => by
  unfold geD at k
  split at k
  · cases k; cases bx.int'; cases bY.int'; exact ⟨_, _, rfl, rfl, fin_b sg rfl q⟩
  · cases k⟩

/-! ### is None, is True -/
def isNb : D → Bool
  | .none => true
  | _ => false
def isD : D → D → Option D
  | .bool a, .bool b => some (.bool (decide (a = b)))
  | x, .none => some (.bool (isNb x))
  | _, _ => none
def isnD (x y : D) : Option D := ((isD x y).bind asB).map fun b => .bool (!b)
theorem Bor.isN {W : Wd} {G H : Hp} {d : D} {v : V} (b : Bor W G H d v) : isNb d = decide (v = .non) := by
  rcases b with b | ⟨p, e, t⟩
  · cases b <;> simp [isNb, scrD]
  · subst e
    cases t <;> simp [isNb]
theorem c_is : CmpR X .Is isD := ⟨_, op_isN.or op_is_bl, fun x y d v u G H Q k bx bY sg q => by
  unfold isD at k
  split at k
  · cases k; cases bx.bl'; cases bY.bl'; exact .inr ⟨_, _, rfl, rfl, fin_b sg rfl q⟩
  · cases k; cases bY.non'; exact .inl ⟨rfl, fin_b sg bx.isN q⟩
  · cases k⟩
theorem c_isn : CmpR X .IsNot isnD := ⟨_, op_notN.or op_isnot_bl, fun x y d v u G H Q k bx bY sg q => by
  obtain ⟨c, hc, k⟩ := Option.map_eq_some_iff.mp k
  obtain ⟨e, he, hc⟩ := Option.bind_eq_some_iff.mp hc
  subst k
  unfold isD at he
  split at he
  · cases he; cases hc; cases bx.bl'; cases bY.bl'; exact .inr ⟨_, _, rfl, rfl, fin_b sg rfl q⟩
  · cases he; cases hc; cases bY.non'; exact .inl ⟨rfl, fin_b sg (by rw [bx.isN]) q⟩
  · cases he⟩
end
end DV
end

set_option Elab.async false
set_option linter.all false
set_option maxRecDepth 100000
/-! DVf: keys of dicts, in, subscripts, slices, displays, len, stores into what is owned. -/
noncomputable section
namespace DV
open PySem PySem.Spec PyProof.Rows L2

/-! ### keys -/
mutual
def keq : D → D → Bool
  | .none, .none => true
  | .int i, .int j => decide (i = j)
  | .str x, .str y => decide (x = y)
  | .tuple xs, .tuple ys => keqs xs ys
  | _, _ => false
def keqs : List D → List D → Bool
  | [], [] => true
  | x :: xs, y :: ys => keq x y && keqs xs ys
  | _, _ => false
end
def keyOf : D → Option Key
  | .int i => some (.inl i)
  | .str x => some (.inr x)
  | _ => none
def keysOf : List D → Option (List Key)
  | [] => some []
  | d :: ds => (keyOf d).bind fun k => (keysOf ds).map fun ks => k :: ks
def tkeyOf : D → Option (List Key)
  | .tuple ds => keysOf ds
  | _ => none
def dget (kvs : List (D × D)) (k : D) : Option D := (kvs.find? fun p => keq p.1 k).map (·.2)
def dput (kvs : List (D × D)) (k v : D) : List (D × D) :=
  if (kvs.any fun p => keq p.1 k) = true then kvs.map (fun p => if keq p.1 k = true then (p.1, v) else p) else kvs ++ [(k, v)]
theorem keyOf_some {d : D} {k : Key} (h : keyOf d = some k) : d = keyD k := by
  unfold keyOf at h
  split at h <;> cases h <;> rfl
theorem keysOf_some : ∀ {ds : List D} {ks : List Key}, keysOf ds = some ks → ds = ks.map keyD
  | [], ks, h => by cases h; rfl
  | d :: ds, ks, h => by
    obtain ⟨k, hk, h⟩ := Option.bind_eq_some_iff.mp h
    obtain ⟨ks', hks, h⟩ := Option.map_eq_some_iff.mp h
    subst h
    rw [keyOf_some hk, keysOf_some hks]
    rfl
theorem tkeyOf_some {d : D} {ks : List Key} (h : tkeyOf d = some ks) : d = .tuple (ks.map keyD) := by
  unfold tkeyOf at h
  split at h
  · rw [keysOf_some h]
  · cases h
theorem keq_key (a b : Key) : keq (keyD a) (keyD b) = decide (a = b) := by
  cases a <;> cases b <;> simp [keyD, keq]
theorem keqs_key : ∀ (a b : List Key), keqs (a.map keyD) (b.map keyD) = decide (a = b)
  | [], [] => by simp [keqs]
  | [], _ :: _ => by simp [keqs]
  | _ :: _, [] => by simp [keqs]
  | a :: as, b :: bs => by
    rw [List.map_cons, List.map_cons, keqs, keq_key, keqs_key as bs, Bool.eq_iff_iff]
    simp
theorem keq_tkey (a b : List Key) : keq (.tuple (a.map keyD)) (.tuple (b.map keyD)) = decide (a = b) := by rw [keq, keqs_key]

def RepO (W : Wd) (G : Hp) : Option D → Option V → Prop
  | some d, some v => Rep W G d v
  | none, none => True
  | _, _ => False
section
variable {W : Wd} {G H : Hp} {κ : Type} [DecidableEq κ] {enc : κ → D} (he : ∀ a b, keq (enc a) (enc b) = decide (a = b))
include he
theorem get_rel (k : κ) : ∀ {kvs : List (D × D)} {kv : List (κ × V)}, kvs.map (·.1) = kv.map (fun p => enc p.1) → Reps W G (kvs.map (·.2)) (kv.map (·.2)) → RepO W G (dget kvs (enc k)) (valV kv k)
  | [], [], _, _ => trivial
  | [], _ :: _, h, _ => by cases h
  | _ :: _, [], h, _ => by cases h
  | p :: kvs, q :: kv, h, r => by
    rw [List.map_cons, List.map_cons] at h r
    injection h with h1 h2
    cases r with
    | cons r1 r2 =>
      unfold dget
      rw [List.find?_cons]
      by_cases e : q.1 = k
      · rw [h1, he, decide_eq_true e, valV_pos e]
        exact r1
      · rw [h1, he, decide_eq_false e, valV_neg e]
        exact get_rel k h2 r2
theorem any_rel (k : κ) : ∀ {kvs : List (D × D)} {kv : List (κ × V)}, kvs.map (·.1) = kv.map (fun p => enc p.1) → (kvs.any fun p => keq p.1 (enc k)) = kv.any fun q => decide (q.1 = k)
  | [], [], _ => rfl
  | [], _ :: _, h => by cases h
  | _ :: _, [], h => by cases h
  | p :: kvs, q :: kv, h => by
    rw [List.map_cons, List.map_cons] at h
    injection h with h1 h2
    rw [List.any_cons, List.any_cons, h1, he, any_rel k h2]
theorem map_rel {k : κ} {d : D} {v : V} (hv : Rep W G d v) : ∀ {kvs : List (D × D)} {kv : List (κ × V)}, kvs.map (·.1) = kv.map (fun p => enc p.1) → Reps W G (kvs.map (·.2)) (kv.map (·.2)) →
    (kvs.map (fun p => if keq p.1 (enc k) = true then (p.1, d) else p)).map (·.1) = (kv.map (fun q => if q.1 = k then (q.1, v) else q)).map (fun p => enc p.1) ∧
      Reps W G ((kvs.map (fun p => if keq p.1 (enc k) = true then (p.1, d) else p)).map (·.2)) ((kv.map (fun q => if q.1 = k then (q.1, v) else q)).map (·.2))
  | [], [], _, _ => ⟨rfl, .nil⟩
  | [], _ :: _, h, _ => by cases h
  | _ :: _, [], h, _ => by cases h
  | p :: kvs, q :: kv, h, r => by
    rw [List.map_cons, List.map_cons] at h r
    injection h with h1 h2
    cases r with
    | cons r1 r2 =>
      obtain ⟨g1, g2⟩ := map_rel hv h2 r2
      by_cases e : q.1 = k
      · have e' : keq p.1 (enc k) = true := by rw [h1, he, decide_eq_true e]
        simp only [List.map_cons, if_pos e, if_pos e']
        exact ⟨by rw [h1, g1], .cons hv g2⟩
      · have e' : ¬ keq p.1 (enc k) = true := by rw [h1, he, decide_eq_false e]; exact Bool.false_ne_true
        simp only [List.map_cons, if_neg e, if_neg e']
        exact ⟨by rw [h1, g1], .cons r1 g2⟩
theorem put_rel {k : κ} {d : D} {v : V} (hv : Rep W G d v) {kvs : List (D × D)} {kv : List (κ × V)} (h : kvs.map (·.1) = kv.map (fun p => enc p.1)) (r : Reps W G (kvs.map (·.2)) (kv.map (·.2))) :
    (dput kvs (enc k) d).map (·.1) = (putK kv k v).map (fun p => enc p.1) ∧ Reps W G ((dput kvs (enc k) d).map (·.2)) ((putK kv k v).map (·.2)) := by
  unfold dput putK
  rw [any_rel he k h]
  split
  · exact map_rel he hv h r
  · simp only [List.map_append, List.map_cons, List.map_nil]
    exact ⟨by rw [h], r.append (.cons hv .nil)⟩
end
theorem RepO.some {W : Wd} {G : Hp} {d : D} {o : Option V} (h : RepO W G (some d) o) : ∃ v, o = some v ∧ Rep W G d v := by
  cases o with
  | none => exact h.elim
  | some v => exact ⟨v, rfl, h⟩
theorem RepO.isSome {W : Wd} {G : Hp} {x : Option D} {o : Option V} (h : RepO W G x o) : x.isSome = o.isSome := by
  cases x <;> cases o <;> first | rfl | exact h.elim
theorem Rep.key {W : Wd} {G H : Hp} {k : Key} {v : V} (b : Bor W G H (keyD k) v) : v = kV k := by
  cases k with
  | inl i => exact b.int'
  | inr x => exact b.str'
theorem Reps.keys {W : Wd} {G : Hp} : ∀ {ks : List Key} {vs : List V}, Reps W G (ks.map keyD) vs → vs = ks.map kV
  | [], _, h => by cases h; rfl
  | k :: ks, _, h => by
    cases h with
    | cons h1 h2 => rw [Rep.key (k := k) (H := G) (.inl h1), Reps.keys h2]; rfl
theorem Bor.dk {W : Wd} {G H : Hp} {kvs : List (D × D)} {v : V} (sg : Same G H) (b : Bor W G H (.dict ((.none, .int 0) :: kvs)) v) : ∃ a kv, v = .ref a ∧ Rd H a (.dK kv) ∧ kvs.map (·.1) = kv.map (fun p => keyD p.1) ∧ Reps W G (kvs.map (·.2)) (kv.map (·.2)) := by
  rcases b with b | ⟨p, e, t⟩
  · cases b with
    | dcK h1 h2 h3 => exact ⟨_, _, rfl, .inr ⟨_, sg _ _ h1⟩, h2, h3⟩
  · cases t with
    | dcK h1 h2 h3 => exact ⟨_, _, e, .inl h1, h2, h3⟩
theorem Bor.dt {W : Wd} {G H : Hp} {kvs : List (D × D)} {v : V} (sg : Same G H) (b : Bor W G H (.dict ((.none, .int 1) :: kvs)) v) : ∃ a kv, v = .ref a ∧ Rd H a (.dT kv) ∧ kvs.map (·.1) = kv.map (fun p => .tuple (p.1.map keyD)) ∧ Reps W G (kvs.map (·.2)) (kv.map (·.2)) := by
  rcases b with b | ⟨p, e, t⟩
  · cases b with
    | dcT h1 h2 h3 => exact ⟨_, _, rfl, .inr ⟨_, sg _ _ h1⟩, h2, h3⟩
  · cases t with
    | dcT h1 h2 h3 => exact ⟨_, _, e, .inl h1, h2, h3⟩

/-! ### in, not in -/
def toV : D → V
  | .bool b => .bl b
  | .int i => .int i
  | .str x => .str x
  | _ => .non
def flatD : D → Bool
  | .none => true
  | .bool _ => true
  | .int _ => true
  | .str _ => true
  | _ => false
theorem Rep.flat {W : Wd} {G : Hp} {d : D} {v : V} (h : Rep W G d v) (f : flatD d = true) : v = toV d ∧ flatV v = true := by
  cases h <;> first | exact ⟨rfl, rfl⟩ | cases f
theorem Bor.flat {W : Wd} {G H : Hp} {d : D} {v : V} (h : Bor W G H d v) (f : flatD d = true) : v = toV d ∧ flatV v = true := by
  rcases h with h | ⟨p, e, t⟩
  · exact h.flat f
  · cases t <;> cases f
theorem Reps.flat {W : Wd} {G : Hp} : ∀ {ds : List D} {vs : List V}, Reps W G ds vs → ds.all flatD = true → vs = ds.map toV ∧ vs.all flatV = true
  | _, _, .nil, _ => ⟨rfl, rfl⟩
  | _, _, .cons h t, f => by
    rw [List.all_cons] at f
    obtain ⟨f1, f2⟩ := (Bool.and_eq_true _ _).mp f
    obtain ⟨e1, e2⟩ := Rep.flat h f1
    obtain ⟨e3, e4⟩ := Reps.flat t f2
    exact ⟨by rw [e1, e3]; rfl, by rw [List.all_cons, e2, e4]; rfl⟩
section
local instance (priority := 1000000) cdf1 (p : Prop) : Decidable p := Classical.propDecidable p
def inL (x : D) (ds : List D) : Option Bool :=
  if flatD x = true ∧ ds.all flatD = true then some (inV (toV x) (ds.map toV)) else if SeqAt.shaped x = true ∧ SeqAt.shaped (.list ds) = true then some (ds.any fun z => PyData.eqv z x) else none
def inT (x : D) (ds : List D) : Option Bool :=
  if flatD x = true ∧ ds.all flatD = true then some (inV (toV x) (ds.map toV)) else none
end
def inB : D → D → Option Bool
  | x, .dict ((.none, .int 0) :: kvs) => (keyOf x).map fun _ => (dget kvs x).isSome
  | x, .dict ((.none, .int 1) :: kvs) => (tkeyOf x).map fun _ => (dget kvs x).isSome
  | .str x, .str y => match x.cps.toList with
    | [c] => some (decide (c ∈ y.cps.toList))
    | _ => none
  | x, .list ds => inL x ds
  | x, .tuple ds => inT x ds
  | _, _ => none
def inD (x y : D) : Option D := (inB x y).map .bool
def ninD (x y : D) : Option D := (inB x y).map fun b => .bool (!b)
def rInDict : R2 := fun x y H Q => ∃ a o, y = .ref a ∧ DGet H a x o ∧ Q (.bl o.isSome) H
def rNinDict : R2 := fun x y H Q => ∃ a o, y = .ref a ∧ DGet H a x o ∧ Q (.bl (!o.isSome)) H
section
variable {X : Cx}
theorem op_inDict (hu : X.A.units + 1 < cLine) : OpR X (compareOp .In) rInDict := by
  intro pins s σ H x y v u Q I rx ry h
  obtain ⟨a, o, rfl, g, q⟩ := h
  cases ry
  exact d_in hu I g rx fun s3 I3 => ⟨.bl o.isSome, H, I3, rfl, q⟩
theorem op_ninDict (hu : X.A.units + 1 < cLine) : OpR X (compareOp .NotIn) rNinDict := by
  intro pins s σ H x y v u Q I rx ry h
  obtain ⟨a, o, rfl, g, q⟩ := h
  cases ry
  exact d_notIn hu I g rx fun s3 I3 => ⟨.bl (!o.isSome), H, I3, rfl, q⟩
theorem sign_of {x : Str} {c : Nat} (h : x.cps.toList = [c]) : x = ⟨#[c]⟩ := by
  obtain ⟨a⟩ := x
  simp only at h
  have : a = #[c] := by
    apply Array.ext'
    simpa using h
  rw [this]
theorem getK {W : Wd} {G H : Hp} {a : Addr} {x : D} {v : V} {kvs : List (D × D)} {kv : List (Key × V)} {k : Key} (h1 : Rd H a (.dK kv)) (h2 : kvs.map (·.1) = kv.map (fun p => keyD p.1)) (h3 : Reps W G (kvs.map (·.2)) (kv.map (·.2))) (hk : keyOf x = some k) (b : Bor W G H x v) :
    DGet H a v (valV kv k) ∧ RepO W G (dget kvs x) (valV kv k) := by
  cases keyOf_some hk
  exact ⟨.inl ⟨kv, k, h1, Rep.key b, rfl⟩, get_rel keq_key k h2 h3⟩
theorem getT {W : Wd} {G H : Hp} {a : Addr} {x : D} {v : V} {kvs : List (D × D)} {kv : List (List Key × V)} {k : List Key} (sg : Same G H) (h1 : Rd H a (.dT kv)) (h2 : kvs.map (·.1) = kv.map (fun p => .tuple (p.1.map keyD))) (h3 : Reps W G (kvs.map (·.2)) (kv.map (·.2))) (hk : tkeyOf x = some k) (b : Bor W G H x v) :
    DGet H a v (valV kv k) ∧ RepO W G (dget kvs x) (valV kv k) := by
  cases tkeyOf_some hk
  obtain ⟨p, xs, rfl, g1, g2, r⟩ := b.tup' sg
  cases Reps.keys r
  exact ⟨.inr ⟨kv, k, p, h1, rfl, g2, rfl⟩, get_rel (enc := fun k => .tuple (k.map keyD)) keq_tkey k h2 h3⟩
theorem in_all {W : Wd} {neg : Bool} {x y : D} {c : Bool} {v u : V} {G H : Hp} {Q : VK} (k : inB x y = some c) (bx : Bor W G H x v) (bY : Bor W G H y u) (sg : Same G H)
    (q : Q (.bl (if neg then !c else c)) H) : (∃ a o, u = .ref a ∧ DGet H a v o ∧ Q (.bl (if neg then !o.isSome else o.isSome)) H) ∨ (∃ (c : Nat) (z : Str), v = .str ⟨#[c]⟩ ∧ u = .str z ∧ Q (.bl (if neg then !decide (c ∈ z.cps.toList) else decide (c ∈ z.cps.toList))) H) ∨ rIn W.K neg v u H Q ∨
      (∃ d ds, Dp W.K H v d ∧ Dp W.K H u (.list ds) ∧ SeqAt.shaped d = true ∧ SeqAt.shaped (.list ds) = true ∧ Q (.bl (if neg then !ds.any fun z => PyData.eqv z d else ds.any fun z => PyData.eqv z d)) H) := by
  unfold inB at k
  split at k
  · obtain ⟨kk, hk, k⟩ := Option.map_eq_some_iff.mp k
    subst k
    obtain ⟨a, kv, rfl, h1, h2, h3⟩ := bY.dk sg
    obtain ⟨g, r⟩ := getK h1 h2 h3 hk bx
    exact .inl ⟨a, _, rfl, g, by rw [← r.isSome]; exact q⟩
  · obtain ⟨kk, hk, k⟩ := Option.map_eq_some_iff.mp k
    subst k
    obtain ⟨a, kv, rfl, h1, h2, h3⟩ := bY.dt sg
    obtain ⟨g, r⟩ := getT sg h1 h2 h3 hk bx
    exact .inl ⟨a, _, rfl, g, by rw [← r.isSome]; exact q⟩
  · split at k
    · rename_i hx
      cases k
      cases bx.str'
      cases bY.str'
      rw [sign_of hx]
      exact .inr (.inl ⟨_, _, rfl, rfl, q⟩)
    · cases k
  · unfold inL at k
    obtain ⟨a, xs, rfl, h1, r1⟩ := bY.lst' sg
    split at k
    · rename_i hf
      cases k
      obtain ⟨e1, e2⟩ := bx.flat hf.1
      obtain ⟨e3, e4⟩ := r1.flat hf.2
      refine .inr (.inr (.inl ⟨a, xs, rfl, .inl (SqL.of h1), e2, e4, ?_⟩))
      rw [e1, e3]
      exact q
    · split at k
      · rename_i hs
        cases k
        exact .inr (.inr (.inr ⟨_, _, bx.dp sg (SeqAt.canLay_of_shaped hs.1), .lst (SqL.of h1) (r1.dp sg _ _ (SeqAt.canLay_of_shaped hs.2)), hs.1, hs.2, q⟩))
      · cases k
  · unfold inT at k
    obtain ⟨a, xs, rfl, g1, h1, r1⟩ := bY.tup' sg
    split at k
    · rename_i hf
      cases k
      obtain ⟨e1, e2⟩ := bx.flat hf.1
      obtain ⟨e3, e4⟩ := r1.flat hf.2
      refine .inr (.inr (.inl ⟨a, xs, rfl, .inr (SqT.of h1), e2, e4, ?_⟩))
      rw [e1, e3]
      exact q
    · cases k
  · cases k
theorem c_in (hu : X.A.units + 65 < cLine) : CmpR X .In inD := ⟨_, (op_inDict (by omega)).or (op_in_sign.or (op_in_seq.or (op_inD hu))), fun x y d v u G H Q k bx bY sg q => by
  obtain ⟨c, hc, k⟩ := Option.map_eq_some_iff.mp k
  subst k
  exact in_all (neg := false) hc bx bY sg (q _ G H (Gw.refl sg) (.bl _))⟩
theorem c_nin (hu : X.A.units + 65 < cLine) : CmpR X .NotIn ninD := ⟨_, (op_ninDict (by omega)).or (op_notIn_sign.or (op_notIn_seq.or (op_notInD hu))), fun x y d v u G H Q k bx bY sg q => by
  obtain ⟨c, hc, k⟩ := Option.map_eq_some_iff.mp k
  subst k
  exact in_all (neg := true) hc bx bY sg (q _ G H (Gw.refl sg) (.bl _))⟩

/-! ### subscripts -/
def rIxDict : R2 := fun x y H Q => ∃ a v, x = .ref a ∧ DGet H a y (some v) ∧ Q v H
theorem ix_dict (hu : X.A.units + 1 < cLine) : IxR X rIxDict := by
  intro value slice pins s σ H x y v u Q I rx ry h hs
  obtain ⟨a, w, rfl, g, q⟩ := h
  cases rx
  exact tail_any (dict_typeIs I g) PySem.F.slot_dict_getitem.lookup (d_getItem hu I g ry fun w' s' I' rw => ⟨w, H, I', rw, q⟩) hs
section
local instance (priority := 1000000) cdf2 (p : Prop) : Decidable p := Classical.propDecidable p
def ixS (z : Str) (i : Int) : Option D := if z.length ≤ sizeLine then (atI z.cps.toList i).map fun c => .str ⟨#[c]⟩ else none
end
def ixD : D → D → Option D
  | .dict ((.none, .int 0) :: kvs), k => (keyOf k).bind fun _ => dget kvs k
  | .dict ((.none, .int 1) :: kvs), k => (tkeyOf k).bind fun _ => dget kvs k
  | .dict [(.none, .list ds)], .int i => atI ds i
  | .list ds, .int i => atI ds i
  | .tuple ds, .int i => atI ds i
  | .str z, .int i => ixS z i
  | _, _ => none
theorem Reps.atI {W : Wd} {G : Hp} {ds : List D} {vs : List V} {i : Int} {d : D} (r : Reps W G ds vs) (h : atI ds i = some d) : ∃ v, L2.atI vs i = some v ∧ Rep W G d v := by
  unfold L2.atI at h ⊢
  rw [← r.length]
  obtain ⟨j, hj, h⟩ := Option.bind_eq_some_iff.mp h
  obtain ⟨v, h1, h2⟩ := r.get h
  exact ⟨v, by rw [hj]; exact h1, h2⟩
theorem ints_rep {W : Wd} {G : Hp} : ∀ (ns : List Int), Reps W G (ns.map .int) (ns.map V.int)
  | [] => .nil
  | n :: ns => .cons (.int n) (ints_rep ns)
theorem Bor.scr {W : Wd} {G H : Hp} {ds : List D} {v : V} (sg : Same G H) (b : Bor W G H (.dict [(.none, .list ds)]) v) : ∃ (a : Addr) (ns : List Int), v = .ref a ∧ SqL W.K H a (ns.map V.int) ∧ ds = ns.map PyData.int := by
  rcases b with b | ⟨p, e, t⟩
  · generalize hd : (PyData.dict [(PyData.none, PyData.list ds)]) = d at b
    cases b <;> first | cases hd | skip
    exact ⟨_, _, rfl, sg.seq (by assumption), rfl⟩
  · cases t
theorem f_ix {a b : Expr} {pos : Pos} {Fa Fb : FE} (hu : X.A.units + 1 < cLine) (ha : PB X a Fa) (hb : PB X b Fb) (hs : PlainIx b := by exact fun _ _ => rfl) : PF X (.Subscript a b pos) (o2 ixD Fa Fb) :=
  PE.weak (pe_ix ((ix_dict hu).or ix_seq) ha hb hs) fun _ _ _ h => two (a := a) (b := b) (fun x y d v u G H Q k bx bY sg q => by
    unfold ixD at k
    split at k
    · obtain ⟨kk, hk, k⟩ := Option.bind_eq_some_iff.mp k
      obtain ⟨a, kv, rfl, h1, h2, h3⟩ := bx.dk sg
      obtain ⟨g, r⟩ := getK h1 h2 h3 hk bY
      rw [k] at r
      obtain ⟨w, ew, rw'⟩ := r.some
      rw [ew] at g
      exact .inl ⟨a, w, rfl, g, q _ G H (Gw.refl sg) rw'⟩
    · obtain ⟨kk, hk, k⟩ := Option.bind_eq_some_iff.mp k
      obtain ⟨a, kv, rfl, h1, h2, h3⟩ := bx.dt sg
      obtain ⟨g, r⟩ := getT sg h1 h2 h3 hk bY
      rw [k] at r
      obtain ⟨w, ew, rw'⟩ := r.some
      rw [ew] at g
      exact .inl ⟨a, w, rfl, g, q _ G H (Gw.refl sg) rw'⟩
    · obtain ⟨a, ns, rfl, h1, rfl⟩ := bx.scr sg
      cases bY.int'
      obtain ⟨w, ew, rw'⟩ := (ints_rep (W := X.wd) (G := G) ns).atI k
      exact .inr (.inl ⟨_, _, _, _, rfl, rfl, h1, ew, q _ G H (Gw.refl sg) rw'⟩)
    · obtain ⟨a, xs, rfl, h1, r1⟩ := bx.lst' sg
      cases bY.int'
      obtain ⟨w, ew, rw'⟩ := r1.atI k
      exact .inr (.inl ⟨_, _, _, _, rfl, rfl, SqL.of h1, ew, q _ G H (Gw.refl sg) rw'⟩)
    · obtain ⟨a, xs, rfl, g1, h1, r1⟩ := bx.tup' sg
      cases bY.int'
      obtain ⟨w, ew, rw'⟩ := r1.atI k
      exact .inr (.inr (.inl ⟨_, _, _, _, rfl, rfl, SqT.of h1, ew, q _ G H (Gw.refl sg) rw'⟩))
    · unfold ixS at k
      split at k
      · rename_i hz
        obtain ⟨c, hc, k⟩ := Option.map_eq_some_iff.mp k
        subst k
        cases bx.str'
        cases bY.int'
        exact .inr (.inr (.inr ⟨_, _, _, rfl, rfl, hz, hc, q _ G H (Gw.refl sg) (.str _)⟩))
      · cases k
    · cases k) h
end
end DV
end

set_option Elab.async false
set_option linter.all false
set_option maxRecDepth 100000
/-! DVg: slices, displays, built-ins, stores into what is owned. -/
noncomputable section
namespace DV
open PySem PySem.Spec PyProof.Rows L2

/-! ### slices -/
abbrev FP := Env → Option (Option Int)
def tP (W : Wd) (F : FP) : TO := fun σ H Q => ∃ B G ρ o, Rp W B G H ρ σ ∧ F ρ = some o ∧ ∀ G' H', Gw G H G' H' → Q o H'
abbrev POD (X : Cx) (e : Option Expr) (F : FP) : Prop := PO X e (tP X.wd F)
theorem PO.weak {X : Cx} {e : Option Expr} {t t' : TO} (h : PO X e t) (i : ∀ σ H Q, t' σ H Q → t σ H Q) : PO X e t' := ⟨fun pins s σ H Q I q => h.run pins s σ H Q I (i σ H Q q)⟩
def asI : D → Option Int
  | .int i => some i
  | _ => none
def pN : FP := fun _ => some none
def pS (F : FE) : FP := fun ρ => ((F ρ).bind asI).map some
def cutD (xs : List D) (lo hi : Option Int) : List D := (xs.drop (HT.sIx xs.length 0 lo)).take (HT.sIx xs.length xs.length hi - HT.sIx xs.length 0 lo)
section
local instance (priority := 1000000) cdg1 (p : Prop) : Decidable p := Classical.propDecidable p
def slD : D → Option Int → Option Int → Option D
  | .str z, lo, hi => if z.length ≤ sizeLine then some (.str (cutS z lo hi)) else none
  | .list ds, lo, hi => some (.list (cutD ds lo hi))
  | .tuple ds, lo, hi => some (.tuple (cutD ds lo hi))
  | _, _, _ => none
end
def eSl (a : FE) (lo hi : FP) : FE := fun ρ => (a ρ).bind fun x => (lo ρ).bind fun l => (hi ρ).bind fun h => slD x l h
section
variable {X : Cx} {e : Expr} {pos p2 : Pos} {F : FE}
theorem p_none : POD X none pN := PO.weak po_none fun σ H Q ⟨B, G, ρ, o, r, k, q⟩ => by
  cases k
  exact q G H (Gw.refl r.gh)
theorem p_some (h : PF X e F) : POD X (some e) (pS F) := PO.weak (po_some h) fun σ H Q ⟨B, G, ρ, o, r, k, q⟩ => by
  obtain ⟨i, hi, k⟩ := Option.map_eq_some_iff.mp k
  obtain ⟨d, hd, hi⟩ := Option.bind_eq_some_iff.mp hi
  subst k
  refine ⟨B, G, ρ, d, r, hd, fun v G' H' w rv => ?_⟩
  cases d <;> first | cases hi | skip
  cases rv
  exact ⟨_, rfl, q G' H' w⟩
theorem Reps.cut {W : Wd} {G : Hp} {ds : List D} {xs : List V} (r : Reps W G ds xs) (lo hi : Option Int) : Reps W G (cutD ds lo hi) (cutV xs lo hi) := by
  unfold cutD cutV
  rw [← r.length]
  exact (r.drop _).take _
theorem f_sl {lo hi : Option Expr} {L U : FP} (he : PB X e F) (hl : POD X lo L) (hu : POD X hi U) : PF X (.Subscript e (.Slice lo hi none p2) pos) (eSl F L U) :=
  PE.weak (pe_slice (sl_str.or (sl_list.or sl_tupA)) he hl hu) fun σ H Q ⟨B, G, ρ, d, r, k, q⟩ => by
    obtain ⟨x, hx, k⟩ := Option.bind_eq_some_iff.mp k
    obtain ⟨l, hl, k⟩ := Option.bind_eq_some_iff.mp k
    obtain ⟨h, hh, k⟩ := Option.bind_eq_some_iff.mp k
    refine ⟨B, G, ρ, x, r, hx, fun v G1 H1 w1 b1 => ⟨B, G1, ρ, l, r.step w1, hl, fun G2 H2 w2 => ⟨B, G2, ρ, h, (r.step w1).step w2, hh, fun G3 H3 w3 => ?_⟩⟩⟩
    have b3 := (b1.step w2).step w3
    have w := (w1.trans w2).trans w3
    have q' : ∀ z G' H', Gw G3 H3 G' H' → Rep X.wd G' d z → Q z H' := fun z G' H' w' rz => q z G' H' (w.trans w') rz
    unfold slD at k
    split at k
    · split at k
      · rename_i hz
        cases k
        cases b3.str'
        exact .inl ⟨_, rfl, hz, q' _ _ _ (Gw.refl w3.gh) (.str _)⟩
      · cases k
    · cases k
      obtain ⟨a, xs, rfl, h1, r1⟩ := b3.lst' w3.gh
      exact .inr (.inl ⟨_, _, rfl, SqL.of h1, fin_lst w3.gh (r1.cut l h) q'⟩)
    · cases k
      obtain ⟨a, xs, rfl, g1, h1, r1⟩ := b3.tup' w3.gh
      refine .inr (.inr ⟨_, _, rfl, SqT.of h1, fun hw => ?_, fun _ => fin_tup w3.gh (r1.cut l h) q'⟩)
      refine q' _ _ _ (Gw.refl w3.gh) ?_
      have e : cutV xs l h = xs := by
        unfold cutV
        rw [hw.1, hw.2]
        simp
      have := r1.cut l h
      rw [e] at this
      exact .tup g1 this
    · cases k
/-- x[::-1] of a list -/
def revD : D → Option D
  | .list ds => some (.list ds.reverse)
  | _ => none
theorem f_rev {k : Nat} {p1 p2 p3 pos : Pos} (he : PB X e F) : PF X (.Subscript e (.Slice none none (some (.UnaryOp .USub (.Constant (.int 1) k p1) p2)) p3) pos) (o1 revD F) :=
  PE.weak (pe_revL he) fun σ H Q ⟨B, G, ρ, d, r, k, q⟩ => by
    obtain ⟨x, hx, k⟩ := Option.bind_eq_some_iff.mp k
    refine ⟨B, G, ρ, x, r, hx, fun v G1 H1 w1 b1 => ?_⟩
    unfold revD at k
    split at k
    · cases k
      obtain ⟨a, xs, rfl, h1, r1⟩ := b1.lst' w1.gh
      exact ⟨_, _, rfl, SqL.of h1, fin_lst w1.gh r1.reverse fun z G' H' w' rz => q z G' H' (w1.trans w') rz⟩
    · cases k

/-! ### displays -/
section
local instance (priority := 1000000) cdg2 (p : Prop) : Decidable p := Classical.propDecidable p
def eTup (l : FL) : FE := fun ρ => (l ρ).bind fun ds => if ds.length ≤ sizeLine then some (.tuple ds) else none
def eLst (l : FL) : FE := fun ρ => (l ρ).bind fun ds => if ds.length ≤ sizeLine then some (.list ds) else none
end
variable {es : List Expr} {L : FL}
theorem f_tup {x1} (h : PAF X es L) : PF X (.Tuple es x1 pos) (eTup L) := PE.weak (pe_tup h) fun σ H Q ⟨B, G, ρ, d, r, k, q⟩ => by
  obtain ⟨ds, hd, k⟩ := Option.bind_eq_some_iff.mp k
  split at k
  · rename_i hz
    cases k
    refine ⟨B, G, ρ, ds, r, hd, fun vs G1 H1 w1 rs => ⟨by rw [← rs.length]; exact hz, fin_tup w1.gh rs fun z G' H' w' rz => q z G' H' (w1.trans w') rz⟩⟩
  · cases k
theorem Frs.new {W : Wd} {G H G1 H1 : Hp} {d : D} {p : Addr} {o : HO} (w : Gw G H G1 H1) (hp : H1 p = none) (t : Top W G1 (upd H1 p o) d p) : Gw G H G1 (upd H1 p o) ∧ Frs W G H G1 (upd H1 p o) d (.ref p) :=
  ⟨⟨w.g, w.h.trans (same_upd hp), w.gh.trans (same_upd hp), w.new⟩, p, rfl, w.h.free hp, w.gh.free hp, t⟩
theorem n_lst (h : PAF X es L) : PN X (.List es pos) (eLst L) := PE.weak (pe_lst h) fun σ H Q ⟨B, G, ρ, d, r, k, q⟩ => by
  obtain ⟨ds, hd, k⟩ := Option.bind_eq_some_iff.mp k
  split at k
  · rename_i hz
    cases k
    refine ⟨B, G, ρ, ds, r, hd, fun vs G1 H1 w1 rs => ⟨by rw [← rs.length]; exact hz, fun p hp => ?_⟩⟩
    obtain ⟨w2, f⟩ := Frs.new (o := .lst vs) (d := .list ds) w1 hp (.lst upd_same rs)
    exact q _ _ _ w2 f
  · cases k
theorem n_dK : PN X (.Dict [] [] pos) (eC (.dict [(.none, .int 0)])) := PE.weak pe_dnewK fun σ H Q ⟨B, G, ρ, d, r, k, q⟩ => by
  cases k
  intro p hp
  obtain ⟨w2, f⟩ := Frs.new (W := X.wd) (o := .dK []) (d := .dict [(.none, .int 0)]) (Gw.refl r.gh) hp (.dcK upd_same rfl .nil)
  exact q _ _ _ w2 f
theorem n_dT : PN X (.Dict [] [] pos) (eC (.dict [(.none, .int 1)])) := PE.weak pe_dnewT fun σ H Q ⟨B, G, ρ, d, r, k, q⟩ => by
  cases k
  intro p hp
  obtain ⟨w2, f⟩ := Frs.new (W := X.wd) (o := .dT []) (d := .dict [(.none, .int 1)]) (Gw.refl r.gh) hp (.dcT upd_same rfl .nil)
  exact q _ _ _ w2 f
/-- {k: v}, k an int or a text -/
def eD1 (a b : FE) : FE := fun ρ => (a ρ).bind fun x => (b ρ).bind fun y => (keyOf x).map fun _ => .dict [(.none, .int 0), (x, y)]
theorem n_d1 {k v : Expr} {Fk Fv : FE} (hk : PF X k Fk) (hv : PF X v Fv) : PN X (.Dict [some k] [v] pos) (eD1 Fk Fv) :=
  PE.weak (pe_disp (pps_cons hk hv pps_nil) (by rfl) (by rfl) (fun z => by cases z) (by show 1 ≤ 15; decide)) fun σ H Q ⟨B, G, ρ, d, r, k, q⟩ => by
    obtain ⟨x, hx, k⟩ := Option.bind_eq_some_iff.mp k
    obtain ⟨y, hy, k⟩ := Option.bind_eq_some_iff.mp k
    obtain ⟨kk, hkk, k⟩ := Option.map_eq_some_iff.mp k
    subst k
    intro p hp
    have w0 : Gw G H G (upd H p (.dK [])) := ⟨Same.refl _, same_upd hp, r.gh.trans (same_upd hp), fun _ _ e => .inl e⟩
    refine ⟨B, G, ρ, x, r.step w0, hx, fun u1 G1 H1 w1 r1 => ⟨B, G1, ρ, y, (r.step w0).step w1, hy, fun u2 G2 H2 w2 r2 => ?_⟩⟩
    have w := w1.trans w2
    have hd : H2 p = some (.dK []) := w.h _ _ upd_same
    refine ⟨hd, [(kk, u2)], ?_, (by show 1 ≤ 15; decide), ?_⟩
    · cases keyOf_some hkk
      rw [Rep.key (k := kk) (H := G1) (.inl r1)]
      rfl
    · have hg : G2 p = none := by
        cases e : G2 p with
        | none => rfl
        | some o =>
          rcases w.new p o e with z | z
          · rw [r.gh.free hp] at z; cases z
          · rcases z with z | ⟨xs, z⟩ <;> (rw [upd_same] at z; cases z)
      have e2 : (mergeK [] [(kk, u2)] : List (Key × V)) = [(kk, u2)] := rfl
      rw [e2]
      refine q _ G2 _ ⟨w.g, (fun b o e => ?_), (fun b o e => ?_), (fun b o e => ?_)⟩ ⟨p, rfl, hp, hg, .dcK upd_same (by rw [keyOf_some hkk]; rfl) (.cons r2 .nil)⟩
      · rw [upd_ne (ne_of_none e hp)]
        exact w.h b o (by rw [upd_ne (ne_of_none e hp)]; exact e)
      · rw [upd_ne (ne_of_none e hg)]
        exact w.gh b o e
      · rcases w.new b o e with z | z
        · exact .inl z
        · by_cases hb : b = p
          · subst hb; exact .inr (.inl hp)
          · unfold Nw at z; rw [upd_ne hb] at z; exact .inr z
end

/-! ### built-ins -/
section
variable {X : Cx}
theorem CallR.or {f : Value} {r r' : List V → Hp → VK → Prop} (h : CallR X f r) (h' : CallR X f r') : CallR X f (fun xs H Q => r xs H Q ∨ r' xs H Q) := by
  intro pins s σ H xs us Q I rv q
  rcases q with q | q
  · exact h pins s σ H xs us Q I rv q
  · exact h' pins s σ H xs us Q I rv q
def CallD (W : Wd) (r : List V → Hp → VK → Prop) (f : List D → Option D) : Prop :=
  ∀ (ds : List D) (d : D) (vs : List V) (G H : Hp) (Q : VK), f ds = some d → Bors W G H ds vs → Same G H → (∀ z G' H', Gw G H G' H' → Rep W G' d z → Q z H') → r vs H Q
variable {id T : String} {r : List V → Hp → VK → Prop} {f : List D → Option D} {x : Str} {p pos : Pos} {e : Expr} {es : List Expr} {L : FL}
theorem callD_tA {r : List V → Hp → VK → Prop} {f : List D → Option D} (hf : CallD X.wd r f) {σ : L2.St} {H : Hp} {Q : VK} (h : tF X.wd (eCall f L) σ H Q) : tCB r (tAB X.wd L) σ H Q := by
  obtain ⟨B, G, ρ, d, rp, k, q⟩ := h
  obtain ⟨ds, hd, k⟩ := Option.bind_eq_some_iff.mp k
  exact ⟨B, G, ρ, ds, rp, hd, fun vs G1 H1 w1 bs => hf ds d vs G1 H1 Q k bs w1.gh fun z G' H' w' rz => q z G' H' (w1.trans w') rz⟩
theorem f_bc (hc : CallR X (.builtin id) r) (hf : CallD X.wd r f) (hm : X.mg x = none) (ha : PAB X (e :: es) L) (hv : bootBuiltins x = some (.builtin id) := by decide +kernel) (hg : Gl X x := by rfl) (hn : x ≠ "__name__" := by decide) (hdb : (x == ("__debug__" : Str)) = false := by decide)
    (he : starEach (e :: es) X.env = (false, eval e X.env) :: starEach es X.env := by rfl) (hpl : (backTo pos (starEach es X.env)).any (·.1) = false := by rfl) : PF X (.Call (.Name x p) (e :: es) [] pos) (eCall f L) :=
  PE.weak (pe_callB hc hg hm hv ha hn hdb he hpl) fun _ _ _ h => callD_tA hf h
theorem f_bt (hc : CallR X (.type T) r) (hf : CallD X.wd r f) (hm : X.mg x = none) (ha : PAB X (e :: es) L) (hv : bootBuiltins x = some (.type T) := by decide +kernel) (hg : Gl X x := by rfl) (hn : x ≠ "__name__" := by decide) (hdb : (x == ("__debug__" : Str)) = false := by decide)
    (he : starEach (e :: es) X.env = (false, eval e X.env) :: starEach es X.env := by rfl) (hpl : (backTo pos (starEach es X.env)).any (·.1) = false := by rfl) : PF X (.Call (.Name x p) (e :: es) [] pos) (eCall f L) :=
  PE.weak (pe_callTy hc hg hm hv ha hn hdb he hpl) fun _ _ _ h => callD_tA hf h
theorem Bors.one {W : Wd} {G H : Hp} {d : D} {vs : List V} (b : Bors W G H [d] vs) : ∃ v, vs = [v] ∧ Bor W G H d v := by
  cases b with
  | cons b t => cases t; exact ⟨_, rfl, b⟩
theorem Bors.two {W : Wd} {G H : Hp} {d e : D} {vs : List V} (b : Bors W G H [d, e] vs) : ∃ v u, vs = [v, u] ∧ Bor W G H d v ∧ Bor W G H e u := by
  cases b with
  | cons b t => cases t with
    | cons b' t => cases t; exact ⟨_, _, rfl, b, b'⟩
/-! len -/
section
local instance (priority := 1000000) cdg3 (p : Prop) : Decidable p := Classical.propDecidable p
def lenS (z : Str) : Option D := if z.length ≤ sizeLine then some (.int z.length) else none
end
def lenF : List D → Option D
  | [.dict ((.none, .int 0) :: kvs)] => some (.int kvs.length)
  | [.dict [(.none, .list ds)]] => some (.int ds.length)
  | [.str z] => lenS z
  | [.list ds] => some (.int ds.length)
  | [.tuple ds] => some (.int ds.length)
  | _ => none
theorem call_lenR : CallR X (.builtin "len") (fun xs H Q => ∃ a kvs, xs = [V.ref a] ∧ Rd H a (.dK kvs) ∧ Q (.int kvs.length) H) := by
  intro pins s σ H xs us Q I r h
  obtain ⟨a, kvs, rfl, ha, q⟩ := h
  obtain ⟨u, rfl, ru⟩ := vals1 r
  cases ru
  exact d_len I ha fun t s' I' => ⟨.int kvs.length, H, I', ⟨t, rfl⟩, q⟩
theorem c_len : ∃ r, CallR X (.builtin "len") r ∧ CallD X.wd r lenF := ⟨_, CallR.or call_lenR call_len, fun ds d vs G H Q k bs sg q => by
  unfold lenF at k
  split at k
  · cases k
    obtain ⟨v, rfl, b⟩ := bs.one
    obtain ⟨a, kv, rfl, h1, h2, h3⟩ := b.dk sg
    refine .inl ⟨_, _, rfl, h1, q _ G H (Gw.refl sg) ?_⟩
    have e := congrArg List.length h2
    rw [List.length_map, List.length_map] at e
    rw [← e]
    exact .int _
  · cases k
    obtain ⟨v, rfl, b⟩ := bs.one
    obtain ⟨a, ns, rfl, h1, rfl⟩ := b.scr sg
    exact .inr ⟨_, _, rfl, .inl ⟨_, h1, rfl⟩, q _ G H (Gw.refl sg) (by simp only [List.length_map]; exact .int _)⟩
  · unfold lenS at k
    split at k
    · rename_i hz
      cases k
      obtain ⟨v, rfl, b⟩ := bs.one
      cases b.str'
      exact .inr ⟨_, _, rfl, ⟨hz, rfl⟩, q _ G H (Gw.refl sg) (.int _)⟩
    · cases k
  · cases k
    obtain ⟨v, rfl, b⟩ := bs.one
    obtain ⟨a, xs, rfl, h1, r1⟩ := b.lst' sg
    exact .inr ⟨_, _, rfl, .inl ⟨_, SqL.of h1, rfl⟩, q _ G H (Gw.refl sg) (by rw [← r1.length]; exact .int _)⟩
  · cases k
    obtain ⟨v, rfl, b⟩ := bs.one
    obtain ⟨a, xs, rfl, g1, h1, r1⟩ := b.tup' sg
    exact .inr ⟨_, _, rfl, .inr ⟨_, SqT.of h1, rfl⟩, q _ G H (Gw.refl sg) (by rw [← r1.length]; exact .int _)⟩
  · cases k⟩
theorem f_len (hm : X.mg "len" = none) (ha : PAB X [e] L) (hg : Gl X "len" := by rfl)
    (he : starEach [e] X.env = (false, eval e X.env) :: starEach [] X.env := by rfl) (hpl : (backTo pos (starEach [] X.env)).any (·.1) = false := by rfl) : PF X (.Call (.Name "len" p) [e] [] pos) (eCall lenF L) :=
  let ⟨_, h1, h2⟩ := c_len (X := X)
  f_bc h1 h2 hm ha PySem.boot_len hg (by decide) (by decide) he hpl
/-- abs -/
def absF : List D → Option D
  | [.int i] => some (.int (if i < 0 then -i else i))
  | _ => none
theorem f_abs (hm : X.mg "abs" = none) (ha : PAB X [e] L) (hg : Gl X "abs" := by rfl)
    (he : starEach [e] X.env = (false, eval e X.env) :: starEach [] X.env := by rfl) (hpl : (backTo pos (starEach [] X.env)).any (·.1) = false := by rfl) : PF X (.Call (.Name "abs" p) [e] [] pos) (eCall absF L) :=
  f_bc call_abs (fun ds d vs G H Q k bs sg q => by
    unfold absF at k
    split at k
    · cases k
      obtain ⟨v, rfl, b⟩ := bs.one
      cases b.int'
      exact ⟨_, rfl, q _ G H (Gw.refl sg) (.int _)⟩
    · cases k) hm ha (by decide +kernel) hg (by decide) (by decide) he hpl
/-- int of an int or a bool -/
def intF : List D → Option D
  | [.int i] => some (.int i)
  | [.bool b] => some (.int (if b then 1 else 0))
  | _ => none
theorem f_int1 (hm : X.mg "int" = none) (ha : PAB X [e] L) (hg : Gl X "int" := by rfl)
    (he : starEach [e] X.env = (false, eval e X.env) :: starEach [] X.env := by rfl) (hpl : (backTo pos (starEach [] X.env)).any (·.1) = false := by rfl) : PF X (.Call (.Name "int" p) [e] [] pos) (eCall intF L) :=
  f_bt call_int1 (fun ds d vs G H Q k bs sg q => by
    unfold intF at k
    split at k
    · cases k
      obtain ⟨v, rfl, b⟩ := bs.one
      cases b.int'
      exact .inl ⟨_, rfl, q _ G H (Gw.refl sg) (.int _)⟩
    · cases k
      obtain ⟨v, rfl, b⟩ := bs.one
      cases b.bl'
      exact .inr ⟨_, rfl, q _ G H (Gw.refl sg) (.int _)⟩
    · cases k) hm ha (by decide +kernel) hg (by decide) (by decide) he hpl
/-- the ints of a list -/
def intsOf : List D → Option (List Int)
  | [] => some []
  | .int i :: ds => (intsOf ds).map fun l => i :: l
  | _ :: _ => none
theorem intsOf_some : ∀ {ds : List D} {ns : List Int}, intsOf ds = some ns → ds = ns.map .int
  | [], ns, h => by cases h; rfl
  | d :: ds, ns, h => by
    cases d <;> first | (obtain ⟨l, hl, h⟩ := Option.map_eq_some_iff.mp h; subst h; rw [intsOf_some hl]; rfl) | cases h
theorem Reps.ints {W : Wd} {G : Hp} : ∀ {ns : List Int} {vs : List V}, Reps W G (ns.map .int) vs → vs = ns.map .int
  | [], _, h => by cases h; rfl
  | n :: ns, _, h => by
    cases h with
    | cons h1 h2 => cases h1; rw [Reps.ints h2]; rfl
def strsOf : List D → Option (List Str)
  | [] => some []
  | .str i :: ds => (strsOf ds).map fun l => i :: l
  | _ :: _ => none
theorem strsOf_some : ∀ {ds : List D} {ns : List Str}, strsOf ds = some ns → ds = ns.map .str
  | [], ns, h => by cases h; rfl
  | d :: ds, ns, h => by
    cases d <;> first | (obtain ⟨l, hl, h⟩ := Option.map_eq_some_iff.mp h; subst h; rw [strsOf_some hl]; rfl) | cases h
theorem Reps.strs {W : Wd} {G : Hp} : ∀ {ns : List Str} {vs : List V}, Reps W G (ns.map .str) vs → vs = ns.map .str
  | [], _, h => by cases h; rfl
  | n :: ns, _, h => by
    cases h with
    | cons h1 h2 => cases h1; rw [Reps.strs h2]; rfl
def sumF : List D → Option D
  | [.list ds] => (intsOf ds).map fun ns => .int ns.sum
  | [.dict [(.none, .list ds)]] => (intsOf ds).map fun ns => .int ns.sum
  | _ => none
theorem f_sum (hc : X.calm = true) (hm : X.mg "sum" = none) (ha : PAB X [e] L) (hg : Gl X "sum" := by rfl)
    (he : starEach [e] X.env = (false, eval e X.env) :: starEach [] X.env := by rfl) (hpl : (backTo pos (starEach [] X.env)).any (·.1) = false := by rfl) : PF X (.Call (.Name "sum" p) [e] [] pos) (eCall sumF L) :=
  f_bc (cr_sum hc) (fun ds d vs G H Q k bs sg q => by
    unfold sumF at k
    split at k
    · obtain ⟨ns, hn, k⟩ := Option.map_eq_some_iff.mp k
      subst k
      obtain ⟨v, rfl, b⟩ := bs.one
      obtain ⟨a, xs, rfl, h1, r1⟩ := b.lst' sg
      rw [intsOf_some hn] at r1
      cases r1.ints
      exact ⟨_, _, rfl, SqL.of h1, q _ G H (Gw.refl sg) (.int _)⟩
    · obtain ⟨ns, hn, k⟩ := Option.map_eq_some_iff.mp k
      subst k
      obtain ⟨v, rfl, b⟩ := bs.one
      obtain ⟨a, ms, rfl, h1, e1⟩ := b.scr sg
      rw [intsOf_some hn] at e1
      have : ns = ms := by
        have := congrArg (List.map (fun d => match d with | PyData.int i => i | _ => 0)) e1
        simpa [List.map_map, Function.comp_def] using this
      subst this
      exact ⟨_, _, rfl, h1, q _ G H (Gw.refl sg) (.int _)⟩
    · cases k) hm ha (by decide +kernel) hg (by decide) (by decide) he hpl
end
end DV
end

set_option Elab.async false
set_option linter.all false
set_option maxRecDepth 100000
/-! DVh: what is walked; comprehensions; stores into what is owned. -/
noncomputable section
namespace DV
open PySem PySem.Spec PyProof.Rows L2

/-! ### what a for walks: a list, a tuple, a text, a dict's keys -/
def itemsD : D → Option (List D)
  | .list ds => some ds
  | .tuple ds => some ds
  | .str z => some (z.cps.toList.map fun c => .str ⟨#[c]⟩)
  | .dict ((.none, .int 0) :: kvs) => some (kvs.map (·.1))
  | .dict ((.none, .int 1) :: kvs) => some (kvs.map (·.1))
  | _ => none
def iAny (F : FE) : FI := fun ρ => (F ρ).bind itemsD
section
variable {X : Cx} {tg e : Expr} {F : FE}
theorem itRep_seq {W : Wd} {G : Hp} {J : It} {ds : List D} {xs : List V} (r : Reps W G ds xs) (hs : ∀ H, Same G H → ∀ i : Nat, xs.length ≤ i → J.stop i H)
    (hg : ∀ H, Same G H → ∀ (i : Nat) x, xs[i]? = some x → J.go i H ∧ ∀ y H', J.yld i H y H' → H' = H ∧ y = x) : ItRep W G J ds := fun Gc H sg sh i =>
  ⟨fun hi => hs H (sg.trans sh) i (by rw [← r.length]; exact hi), fun d hd => by
    obtain ⟨x, hx, rx⟩ := r.get hd
    obtain ⟨h1, h2⟩ := hg H (sg.trans sh) i x hx
    refine ⟨h1, fun y H' hy => ?_⟩
    obtain ⟨rfl, rfl⟩ := h2 y H' hy
    exact ⟨Gc, Gw.refl sh, rx.mono sg⟩⟩
theorem reps_signs {W : Wd} {G : Hp} : ∀ l : List Nat, Reps W G (l.map fun c => .str ⟨#[c]⟩) (l.map fun c => V.str ⟨#[c]⟩)
  | [] => .nil
  | c :: l => .cons (.str _) (reps_signs l)
theorem reps_keys {W : Wd} {G : Hp} : ∀ {kvs : List (D × D)} {kv : List (Key × V)}, kvs.map (·.1) = kv.map (fun p => keyD p.1) → Reps W G (kvs.map (·.1)) (kv.map fun p => kV p.1)
  | [], [], _ => .nil
  | [], _ :: _, h => by cases h
  | _ :: _, [], h => by cases h
  | p :: kvs, q :: kv, h => by
    rw [List.map_cons, List.map_cons] at h
    injection h with h1 h2
    refine .cons ?_ (reps_keys h2)
    show Rep W G p.1 (kV q.1)
    rw [h1]
    cases q.1 with
    | inl i => exact .int i
    | inr x => exact .str x
end
/-- tuples that stand as tuples of keys -/
theorem rep_tkey {W : Wd} {G : Hp} {k : List Key} {a : Addr} (h : G a = some (.tup (k.map kV))) : Rep W G (.tuple (k.map keyD)) (.ref a) := by
  refine .tup h ?_
  clear h
  induction k with
  | nil => exact .nil
  | cons k ks ih =>
    refine .cons ?_ ih
    cases k with
    | inl i => exact .int i
    | inr x => exact .str x
theorem itRep_tkeys {W : Wd} {G : Hp} {a : Addr} {od : Obj} {kvs : List (D × D)} {kv : List (List Key × V)} (h : G a = some (.frz od (.dT kv))) (hk : kvs.map (·.1) = kv.map (fun p => .tuple (p.1.map keyD))) : ItRep W G (Itkt a od kv) (kvs.map (·.1)) := fun Gc H sg sh i =>
  ⟨fun hi => ⟨sh _ _ (sg _ _ h), by rw [hk] at hi; simpa using hi⟩, fun d hd => by
    rw [hk, List.getElem?_map] at hd
    cases q : kv[i]? with
    | none => rw [q] at hd; cases hd
    | some p =>
      rw [q] at hd
      cases hd
      refine ⟨⟨sh _ _ (sg _ _ h), (List.getElem?_eq_some_iff.mp q).1⟩, fun x H' y => ?_⟩
      obtain ⟨rfl, k, v, c, e1, rfl, e2⟩ := y
      rw [q] at e1
      cases e1
      cases g : Gc c with
      | some o =>
        have := sh _ _ g
        rw [e2] at this
        cases this
        exact ⟨Gc, Gw.refl sh, rep_tkey g⟩
      | none =>
        refine ⟨upd Gc c (.tup (k.map kV)), ⟨same_upd g, Same.refl _, fun b o e => ?_, fun b o e => ?_⟩, rep_tkey upd_same⟩
        · by_cases hb : b = c
          · subst hb; rw [upd_same] at e; cases e; exact e2
          · rw [upd_ne hb] at e; exact sh b o e
        · by_cases hb : b = c
          · subst hb; exact .inr (.inr ⟨_, e2⟩)
          · rw [upd_ne hb] at e; exact .inl e⟩
section
variable {X : Cx} {tg e : Expr} {F : FE}
theorem i_any (he : PF X e F) : PID X tg e (iAny F) := by
  refine ⟨fun pins s σ H R I h => ?_⟩
  obtain ⟨B, G, ρ, ds, rp, k, q⟩ := h
  obtain ⟨d, hd, k⟩ := Option.bind_eq_some_iff.mp k
  refine thn (he.run pins s σ H (fun v H' => ∃ G', Gw G H G' H' ∧ Rep X.wd G' d v) I ⟨B, G, ρ, d, rp, hd, fun v G' H' w r => ⟨G', w, r⟩⟩) fun u s1 ⟨v, H1, I1, rv, G1, w1, r1⟩ => ?_
  unfold itemsD at k
  split at k
  · cases k
    cases r1 with
    | @lst a xs _ h1 h2 =>
      obtain rfl : u = Value.ref a := rv
      obtain ⟨its, _, p, _⟩ := I1.list (SqL.of (K := X.K) (w1.gh _ _ h1))
      refine wpAny_pyIter_list p.isList (pi_one (tk := s1.toks) I1 _ (turn_list a _) ⟨_, Heap.get?_push_size _ rfl, rfl, rfl⟩ (q _ G1 H1 w1 (itRep_seq h2 (fun H sg i hi => ⟨xs, SqL.of (sg _ _ h1), hi⟩) fun H sg i x hx => ?_)))
      exact ⟨⟨xs, x, SqL.of (sg _ _ h1), hx⟩, fun y H' hy => ⟨hy.1, Option.some.inj ((hy.2 xs (SqL.of (sg _ _ h1))).symm.trans hx)⟩⟩
  · cases k
    cases r1 with
    | @tup a xs _ h1 h2 =>
      obtain rfl : u = Value.ref a := rv
      obtain ⟨its, _, p, _⟩ := I1.tuple (SqT.of (K := X.K) (w1.gh _ _ h1))
      refine wpAny_pyIter_tuple (show s1.heap.IsTuple a its.toArray from p) (pi_one (tk := s1.toks) I1 _ (turn_tuple a _) ⟨_, Heap.get?_push_size _ rfl, rfl, rfl⟩ (q _ G1 H1 w1 (itRep_seq h2 (fun H sg i hi => ⟨xs, SqT.of (sg _ _ h1), hi⟩) fun H sg i x hx => ?_)))
      exact ⟨⟨xs, x, SqT.of (sg _ _ h1), hx⟩, fun y H' hy => ⟨hy.1, Option.some.inj ((hy.2 xs (SqT.of (sg _ _ h1))).symm.trans hx)⟩⟩
  · rename_i z _
    cases k
    cases r1.str'
    obtain ⟨t, rfl⟩ := rv
    have R1 : R (Its z) H1 := q _ G1 H1 w1 (itRep_seq (reps_signs z.cps.toList) (fun H sg i hi => show z.cps.size ≤ i by simpa using hi) fun H sg i x hx => by
      rw [List.getElem?_map] at hx
      cases c : z.cps.toList[i]? with
      | none => rw [c] at hx; cases hx
      | some c' =>
        rw [c] at hx
        cases hx
        have hi := (List.getElem?_eq_some_iff.mp c).1
        refine ⟨show i < z.cps.size by simpa using hi, fun y H' hy => ⟨hy.1, ?_⟩⟩
        obtain ⟨_, c2, e2, rfl⟩ := hy
        rw [← Array.getElem?_toList, c] at e2
        cases e2
        rfl)
    cases hz : z.cps.all (· < 128)
    · exact wpAny_pyIter_wide hz (pi_one (tk := s1.toks) I1 _ (turn_str _ z t "str_iterator" (.inr rfl)) ⟨_, Heap.get?_push_size _ rfl, rfl, rfl⟩ R1)
    · exact wpAny_pyIter_ascii hz (pi_one (tk := s1.toks) I1 _ (turn_str _ z t "str_ascii_iterator" (.inl rfl)) ⟨_, Heap.get?_push_size _ rfl, rfl, rfl⟩ R1)
  · cases k
    cases r1 with
    | @dcK a od kv kvs h1 h2 h3 =>
      obtain rfl : u = Value.ref a := rv
      have hd' := w1.gh _ _ h1
      obtain ⟨hs, hgd, hx, es, ep, vs, hdt, hsz, _, _⟩ := I1.frzK hd'
      refine iter_keys hs hgd hx hdt (pi_one (tk := s1.toks) I1 _ (turn_keys _ hdt) ⟨_, Heap.get?_push_size _ rfl, rfl, by rw [hsz] <;> rfl⟩ (q _ G1 H1 w1 (itRep_seq (reps_keys h2) (fun H sg i hi => ⟨sg _ _ h1, by simpa using hi⟩) fun H sg i x hx => ?_)))
      rw [List.getElem?_map] at hx
      cases c : kv[i]? with
      | none => rw [c] at hx; cases hx
      | some c' =>
        rw [c] at hx
        cases hx
        refine ⟨⟨sg _ _ h1, (List.getElem?_eq_some_iff.mp c).1⟩, fun y H' hy => ⟨hy.1, ?_⟩⟩
        obtain ⟨_, k', v', e1, rfl⟩ := hy
        rw [c] at e1
        cases e1
        rfl
  · cases k
    cases r1 with
    | @dcT a od kv kvs h1 h2 h3 =>
      obtain rfl : u = Value.ref a := rv
      obtain ⟨hs, hgd, hx, es, ep, hdt, hsz, _⟩ := I1.frzT (w1.gh _ _ h1)
      exact iter_keys hs hgd hx hdt (pi_one (tk := s1.toks) I1 _ (turn_keysT _ hdt) ⟨_, Heap.get?_push_size _ rfl, rfl, by rw [hsz] <;> rfl⟩ (q _ G1 H1 w1 (itRep_tkeys h1 h2)))
  · cases k

/-! ### ranges -/
def rngL (lo : Int) (n : Nat) : List D := (List.range n).map fun (i : Nat) => .int (lo + (i : Int))
def rngC (lo c : Int) (n : Nat) : List D := (List.range n).map fun (i : Nat) => .int (lo + (i : Int) * c)
section
local instance (priority := 1000000) cdec8 (p : Prop) : Decidable p := Classical.propDecidable p
def rng1 : List D → Option (List D)
  | [.int j] => if -(2 ^ 62) ≤ j ∧ j < 2 ^ 62 then some (rngL 0 j.toNat) else none
  | _ => none
def rng2 : List D → Option (List D)
  | [.int i, .int j] => if -(2 ^ 62) ≤ i ∧ i < 2 ^ 62 ∧ -(2 ^ 62) ≤ j ∧ j < 2 ^ 62 then some (rngL i (j - i).toNat) else none
  | _ => none
/-- range(i, j, -1) -/
def rng3 : List D → Option (List D)
  | [.int i, .int j, .int c] => if c = -1 ∧ -(2 ^ 62) ≤ i ∧ i < 2 ^ 62 ∧ -(2 ^ 62) ≤ j ∧ j < 2 ^ 62 then some (rngC i (-1) (i - j).toNat) else none
  | _ => none
end
def iCall (f : List D → Option (List D)) (l : FL) : FI := fun ρ => (l ρ).bind f
theorem itRep_rng {W : Wd} {G : Hp} (lo : Int) (n : Nat) : ItRep W G (Itr lo n) (rngL lo n) := fun Gc H sg sh i =>
  ⟨fun hi => show n ≤ i by simpa [rngL] using hi, fun d hd => by
    unfold rngL at hd
    rw [List.getElem?_map] at hd
    cases q : (List.range n)[i]? with
    | none => rw [q] at hd; cases hd
    | some j =>
      rw [q] at hd
      cases hd
      have hi : i < n := by simpa using (List.getElem?_eq_some_iff.mp q).1
      have e : i = j := by simpa using (List.getElem?_eq_some_iff.mp q).2
      subst e
      exact ⟨hi, fun x H' ⟨h1, h2⟩ => by subst h1 h2; exact ⟨Gc, Gw.refl sh, .int _⟩⟩⟩
theorem itRep_rngC {W : Wd} {G : Hp} (lo c : Int) (n : Nat) : ItRep W G (Itc lo c n) (rngC lo c n) := fun Gc H sg sh i =>
  ⟨fun hi => show n ≤ i by simpa [rngC] using hi, fun d hd => by
    unfold rngC at hd
    rw [List.getElem?_map] at hd
    cases q : (List.range n)[i]? with
    | none => rw [q] at hd; cases hd
    | some j =>
      rw [q] at hd
      cases hd
      have hi : i < n := by simpa using (List.getElem?_eq_some_iff.mp q).1
      have e : i = j := by simpa using (List.getElem?_eq_some_iff.mp q).2
      subst e
      exact ⟨hi, fun x H' ⟨h1, h2⟩ => by subst h1 h2; exact ⟨Gc, Gw.refl sh, .int _⟩⟩⟩
variable {L : FL} {a b c : Expr} {p pos : Pos}
theorem Reps.one {W : Wd} {G : Hp} {d : D} {vs : List V} (b : Reps W G [d] vs) : ∃ v, vs = [v] ∧ Rep W G d v := by
  cases b with
  | cons b t => cases t; exact ⟨_, rfl, b⟩
theorem i_rng1 (hm : X.mg "range" = none) (ha : PAF X [a] L) (hg : Gl X "range" := by rfl) (hs : starEach [a] X.env = [(false, eval a X.env)] := by rfl) : PID X tg (.Call (.Name "range" p) [a] [] pos) (iCall rng1 L) :=
  PI.weak (pi_range1 hg hm ha hs) fun σ H R ⟨B, G, ρ, ds, r, k, q⟩ => by
    obtain ⟨es, he, k⟩ := Option.bind_eq_some_iff.mp k
    refine ⟨B, G, ρ, es, r, he, fun vs G1 H1 w1 rs => ?_⟩
    unfold rng1 at k
    split at k
    · split at k
      · rename_i hz
        cases k
        obtain ⟨v, rfl, rv⟩ := rs.one
        cases rv
        exact ⟨_, rfl, hz.1, hz.2, q _ G1 H1 w1 (itRep_rng _ _)⟩
      · cases k
    · cases k
theorem i_rng2 (hm : X.mg "range" = none) (ha : PAF X [a, b] L) (hg : Gl X "range" := by rfl) (hs : starEach [a, b] X.env = [(false, eval a X.env), (false, eval b X.env)] := by rfl) (hs2 : starEach [b] X.env = [(false, eval b X.env)] := by rfl) :
    PID X tg (.Call (.Name "range" p) [a, b] [] pos) (iCall rng2 L) :=
  PI.weak (pi_range2 hg hm ha hs hs2) fun σ H R ⟨B, G, ρ, ds, r, k, q⟩ => by
    obtain ⟨es, he, k⟩ := Option.bind_eq_some_iff.mp k
    refine ⟨B, G, ρ, es, r, he, fun vs G1 H1 w1 rs => ?_⟩
    unfold rng2 at k
    split at k
    · split at k
      · rename_i hz
        cases k
        cases rs with
        | cons r1 rs =>
          obtain ⟨v, rfl, rv⟩ := rs.one
          cases rv
          cases r1
          exact ⟨_, _, rfl, hz, q _ G1 H1 w1 (itRep_rng _ _)⟩
      · cases k
    · cases k
theorem i_rng3 (hm : X.mg "range" = none) (ha : PAF X [a, b, c] L) (hg : Gl X "range" := by rfl)
    (hs : starEach [a, b, c] X.env = (false, eval a X.env) :: starEach [b, c] X.env := by rfl) (hpl : (backTo pos (starEach [b, c] X.env)).any (·.1) = false := by rfl) :
    PID X tg (.Call (.Name "range" p) [a, b, c] [] pos) (iCall rng3 L) :=
  PI.weak (pi_range3 hg hm ha hs hpl) fun σ H R ⟨B, G, ρ, ds, r, k, q⟩ => by
    obtain ⟨es, he, k⟩ := Option.bind_eq_some_iff.mp k
    refine ⟨B, G, ρ, es, r, he, fun vs G1 H1 w1 rs => ?_⟩
    unfold rng3 at k
    split at k
    · split at k
      · rename_i hz
        cases k
        obtain ⟨hc, hz1, hz2, hz3, hz4⟩ := hz
        subst hc
        cases rs with
        | cons r1 rs =>
          cases rs with
          | cons r2 rs =>
            obtain ⟨v, rfl, rv⟩ := rs.one
            cases rv
            cases r1
            cases r2
            exact ⟨_, _, _, _, rfl, RgC.neg hz1 hz2 hz3 hz4, q _ G1 H1 w1 (itRep_rngC _ _ _)⟩
      · cases k
    · cases k
end
end DV
end

set_option Elab.async false
set_option linter.all false
set_option maxRecDepth 100000
/-! DVi: comprehensions. -/
noncomputable section
namespace DV
open PySem PySem.Spec PyProof.Rows L2

def wipeE (ρ : Env) : List Nat → Env
  | [] => ρ
  | v :: vs => (wipeE ρ vs).set v none
theorem Rp.unset {W : Wd} {B G H : Hp} {ρ : Env} {σ : St} {i : Nat} (r : Rp W B G H ρ σ) : Rp W B G H (ρ.set i none) (σ.set i none) := by
  have at_ : ∀ {α : Type} {l : List (Option α)} {j : Nat} {x : α}, (l.set i none)[j]? = some (some x) → i ≠ j ∧ l[j]? = some (some x) := fun {α l j x} h => by
    by_cases hj : i = j
    · subst hj
      have hl : i < l.length := by
        have := (List.getElem?_eq_some_iff.mp h).1
        simpa using this
      rw [List.getElem?_set_self hl] at h
      cases h
    · rw [List.getElem?_set_ne hj] at h
      exact ⟨hj, h⟩
  refine ⟨r.bh, r.gh, by simp [r.len], fun j d h => ?_, fun j d h => ?_, fun j k d e a h1 h2 h3 h4 => ?_⟩
  · obtain ⟨hj, h⟩ := at_ h
    rw [List.getElem?_set_ne hj]
    exact r.shr j d h
  · obtain ⟨hj, h⟩ := at_ h
    rw [List.getElem?_set_ne hj]
    exact r.own j d h
  · obtain ⟨hj, h1⟩ := at_ h1
    obtain ⟨hk, h2⟩ := at_ h2
    rw [List.getElem?_set_ne hj] at h3
    rw [List.getElem?_set_ne hk] at h4
    exact r.sep j k d e a h1 h2 h3 h4
theorem Rp.wipe {W : Wd} {B G H : Hp} {ρ : Env} {σ : St} (r : Rp W B G H ρ σ) : ∀ vs : List Nat, Rp W B G H (wipeE ρ vs) (L2.wipe σ vs)
  | [] => r
  | _ :: vs => (Rp.wipe r vs).unset
theorem wipe_set {σ : St} {i : Nat} {v : Option V} : ∀ {vs : List Nat}, i ∈ vs → L2.wipe (σ.set i v) vs = L2.wipe σ vs
  | [], h => by cases h
  | j :: vs, h => by
    unfold L2.wipe
    by_cases hm : i ∈ vs
    · rw [wipe_set hm]
    · have e : i = j := by
        rcases List.mem_cons.mp h with h | h
        · exact h
        · exact absurd h hm
      subst e
      have out : ∀ {vs : List Nat}, i ∉ vs → L2.wipe (σ.set i v) vs = (L2.wipe σ vs).set i v := by
        intro vs
        induction vs with
        | nil => intro _; rfl
        | cons k vs ih =>
          intro hk
          have hk1 : k ≠ i := fun z => hk (by rw [z]; exact List.mem_cons_self)
          have hk2 : i ∉ vs := fun z => hk (List.mem_cons_of_mem _ z)
          unfold L2.wipe
          rw [ih hk2, List.set_comm _ _ (Ne.symm hk1)]
      rw [out hm, List.set_set]
theorem wipe_wipe {σ : St} : ∀ {vs : List Nat}, L2.wipe (L2.wipe σ vs) vs = L2.wipe σ vs := by
  intro vs
  have gen : ∀ us : List Nat, (∀ u ∈ us, u ∈ vs) → L2.wipe (L2.wipe σ us) vs = L2.wipe σ vs := by
    intro us
    induction us with
    | nil => intro _; rfl
    | cons u us ih =>
      intro h
      show L2.wipe ((L2.wipe σ us).set u none) vs = _
      rw [wipe_set (h u List.mem_cons_self)]
      exact ih fun w hw => h w (List.mem_cons_of_mem _ hw)
  exact gen vs fun _ h => h
/-- a target of a comprehension: it stores into vs alone -/
def tGc (W : Wd) (vs : List Nat) (F : FG) : TG := fun v σ H Q => ∃ B G ρ d ρ', Rp W B G H ρ σ ∧ Rep W G d v ∧ F d ρ = some ρ' ∧ ∀ σ' , Rp W B G H ρ' σ' → L2.wipe σ' vs = L2.wipe σ vs → Q σ' H
def tGsc (W : Wd) (vs : List Nat) (F : List D → Env → Option Env) : TGs := fun v σ H Q => ∃ B G ρ ds ρ', Rp W B G H ρ σ ∧ Reps W G ds v ∧ F ds ρ = some ρ' ∧ ∀ σ' , Rp W B G H ρ' σ' → L2.wipe σ' vs = L2.wipe σ vs → Q σ' H
abbrev PGC (X : Cx) (vs : List Nat) (e : Expr) (F : FG) : Prop := PG X e (tGc X.wd vs F)
abbrev PGCs (X : Cx) (vs : List Nat) (e : List Expr) (F : List D → Env → Option Env) : Prop := PGs X e (tGsc X.wd vs F)
section
variable {X : Cx} {pos : Pos} {vs : List Nat}
theorem gc_name (i : Nat) {x : Str} (hN : X.N.Nodup) (hi : X.N[i]? = some x := by rfl) (hx : Loc X.env.scope x := by first | exact Or.inl rfl | exact Or.inr rfl) (hv : i ∈ vs := by decide) (hf : X.fn x = true ∨ X.env.scope.names.lookup x = some .local := by first | exact .inl rfl | exact .inr rfl | assumption) : PGC X vs (.Name x pos) (gN i) :=
  PG.weak (pg_name (i := i) hN hi hx hf) fun v σ H Q ⟨B, G, ρ, d, ρ', r, rv, k, q⟩ => by
    cases k
    exact q _ (r.set_shr rv) (wipe_set hv)
theorem gcs_nil : PGCs X vs [] gsN := PGs.weak pgs_nil fun vs σ H Q ⟨B, G, ρ, ds, ρ', r, rv, k, q⟩ => by
  cases rv with
  | nil => cases k; exact ⟨rfl, q _ r rfl⟩
  | cons _ _ => cases k
theorem gcs_cons {e : Expr} {es : List Expr} {g : FG} {h : List D → Env → Option Env} (h1 : PGC X vs e g) (h2 : PGCs X vs es h)
    (hs : (assignEach (e :: es) X.env).map (·.2) = assign e X.env :: (assignEach es X.env).map (·.2) := by rfl) : PGCs X vs (e :: es) (gsC g h) :=
  PGs.weak (pgs_cons h1 h2 hs) fun us σ H Q ⟨B, G, ρ, ds, ρ', r, rv, k, q⟩ => by
    cases rv with
    | nil => cases k
    | @cons d ds v us r1 r2 =>
      obtain ⟨ρ1, k1, k2⟩ := Option.bind_eq_some_iff.mp k
      exact ⟨v, us, rfl, B, G, ρ, d, ρ1, r, r1, k1, fun σ' r' e' => ⟨B, G, ρ1, ds, ρ', r', r2, k2, fun σ2 rr e2 => q σ2 rr (e2.trans e')⟩⟩
theorem gc_tup {es : List Expr} {k : Nat} {n : Nat} {h : List D → Env → Option Env} (hc : X.calm = true) (hh : PGCs X vs es h)
    (hn : (assignEach es X.env).length = n := by rfl) (hst : (assignEach es X.env).findIdx? (·.1) = none := by rfl) : PGC X vs (.Tuple es k pos) (gT n h) :=
  PG.weak (pg_tup hc hh hn hst) fun v σ H Q ⟨B, G, ρ, d, ρ', r, rv, k, q⟩ => by
    unfold gT at k
    split at k
    · split at k
      · rename_i ds hl
        cases rv with
        | tup h1 h2 => exact ⟨_, _, rfl, SqT.of (r.gh _ _ h1), by rw [← h2.length]; exact hl, B, G, ρ, _, ρ', r, h2, k, q⟩
      · cases k
    · cases k
/-! ### what a comprehension walks: also what is owned -/
def ItRepH (W : Wd) (G H : Hp) (J : It) (ds : List D) : Prop := ∀ Gc Hc, Gw G H Gc Hc → ∀ i : Nat, (ds.length ≤ i → J.stop i Hc) ∧ ∀ d, ds[i]? = some d → J.go i Hc ∧ ∀ x H', J.yld i Hc x H' → ∃ G', Gw Gc Hc G' H' ∧ Rep W G' d x
theorem ItRep.toH {W : Wd} {G H : Hp} {J : It} {ds : List D} (h : ItRep W G J ds) : ItRepH W G H J ds := fun Gc Hc w i => h Gc Hc w.g w.gh i
def tIH (W : Wd) (F : FI) : TI := fun σ H R => ∃ B G ρ ds, Rp W B G H ρ σ ∧ F ρ = some ds ∧ ∀ J G' H', Gw G H G' H' → ItRepH W G' H' J ds → R J H'
abbrev PIH (X : Cx) (tg iter : Expr) (F : FI) : Prop := PI X tg iter (tIH X.wd F)
theorem toH {X : Cx} {tg iter : Expr} {F : FI} (h : PID X tg iter F) : PIH X tg iter F := PI.weak h fun σ H R ⟨B, G, ρ, ds, r, k, q⟩ => ⟨B, G, ρ, ds, r, k, fun J G' H' w it => q J G' H' w it.toH⟩
section
variable {X : Cx} {tg e : Expr} {F : FE}
/-- a list or a tuple, owned or not -/
def itemsB : D → Option (List D)
  | .list ds => some ds
  | .tuple ds => some ds
  | _ => none
def iAnyB (F : FE) : FI := fun ρ => (F ρ).bind itemsB
theorem i_anyB (he : PB X e F) : PIH X tg e (iAnyB F) := by
  refine ⟨fun pins s σ H R I h => ?_⟩
  obtain ⟨B, G, ρ, ds, rp, k, q⟩ := h
  obtain ⟨d, hd, k⟩ := Option.bind_eq_some_iff.mp k
  refine thn (he.run pins s σ H (fun v H' => ∃ G', Gw G H G' H' ∧ Bor X.wd G' H' d v) I ⟨B, G, ρ, d, rp, hd, fun v G' H' w r => ⟨G', w, r⟩⟩) fun u s1 ⟨v, H1, I1, rv, G1, w1, b1⟩ => ?_
  unfold itemsB at k
  split at k
  · cases k
    obtain ⟨a, xs, rfl, h1, r1⟩ := b1.lst' w1.gh
    obtain rfl : u = Value.ref a := rv
    obtain ⟨its, _, p, _⟩ := I1.list (SqL.of (K := X.K) h1)
    refine wpAny_pyIter_list p.isList (pi_one (tk := s1.toks) I1 _ (turn_list a _) ⟨_, Heap.get?_push_size _ rfl, rfl, rfl⟩ (q _ G1 H1 w1 fun Gc Hc w i => ?_))
    have h2 := w.h _ _ h1
    refine ⟨fun hi => ⟨xs, SqL.of h2, by rw [← r1.length]; exact hi⟩, fun d hd => ?_⟩
    obtain ⟨x, hx, rx⟩ := r1.get hd
    refine ⟨⟨xs, x, SqL.of h2, hx⟩, fun y H' hy => ?_⟩
    obtain rfl : H' = Hc := hy.1
    obtain rfl : y = x := Option.some.inj ((hy.2 xs (SqL.of h2)).symm.trans hx)
    exact ⟨Gc, Gw.refl w.gh, rx.mono w.g⟩
  · cases k
    obtain ⟨a, xs, rfl, g1, h1, r1⟩ := b1.tup' w1.gh
    obtain rfl : u = Value.ref a := rv
    obtain ⟨its, _, p, _⟩ := I1.tuple (SqT.of (K := X.K) h1)
    refine wpAny_pyIter_tuple (show s1.heap.IsTuple a its.toArray from p) (pi_one (tk := s1.toks) I1 _ (turn_tuple a _) ⟨_, Heap.get?_push_size _ rfl, rfl, rfl⟩ (q _ G1 H1 w1 fun Gc Hc w i => ?_))
    have h2 := w.h _ _ h1
    refine ⟨fun hi => ⟨xs, SqT.of h2, by rw [← r1.length]; exact hi⟩, fun d hd => ?_⟩
    obtain ⟨x, hx, rx⟩ := r1.get hd
    refine ⟨⟨xs, x, SqT.of h2, hx⟩, fun y H' hy => ?_⟩
    obtain rfl : H' = Hc := hy.1
    obtain rfl : y = x := Option.some.inj ((hy.2 xs (SqT.of h2)).symm.trans hx)
    exact ⟨Gc, Gw.refl w.gh, rx.mono w.g⟩
  · cases k
end
/-! ### lists -/
def lcL (g : FG) (t : FT) (e : FE) (ρ : Env) : List D → Option (List D)
  | [] => some []
  | d :: ds => (g d ρ).bind fun ρ1 => (t ρ1).bind fun b => if b = true then (e ρ1).bind fun y => (lcL g t e ρ ds).map fun ys => y :: ys else lcL g t e ρ ds
section
local instance (priority := 1000000) cdec9 (p : Prop) : Decidable p := Classical.propDecidable p
def eLc (vs : List Nat) (l : FI) (g : FG) (t : FT) (e : FE) : FE := fun ρ => (l ρ).bind fun ds => if ds.length ≤ sizeLine then (lcL g t e (wipeE ρ vs) ds).map .list else none
end
def tYs : FT := fun _ => some true
abbrev PTsD (X : Cx) (es : List Expr) (F : FT) : Prop := PTs X es (tT X.wd F)
theorem PTs.weak {es : List Expr} {t t' : TT} (h : PTs X es t) (i : ∀ σ H Q, t' σ H Q → t σ H Q) : PTs X es t' := ⟨fun pins s σ H Q I q => h.run pins s σ H Q I (i σ H Q q)⟩
theorem ts_nil : PTsD X [] tYs := PTs.weak pts_nil fun σ H Q ⟨B, G, ρ, b, r, k, q⟩ => by
  cases k
  exact q G H (Gw.refl r.gh)
theorem ts_one {c : Expr} {t : FT} (h : PTD X c t) : PTsD X [c] t := pts_one h
theorem Gw.atD {G H G' H' : Hp} {D : Addr} {o : HO} (w : Gw G H G' H') (hD : H D = none) (hg : G' D = none) : Gw G H G' (upd H' D o) where
  g := w.g
  h := fun b u e => by rw [upd_ne (ne_of_none e hD)]; exact w.h b u e
  gh := fun b u e => by rw [upd_ne (ne_of_none e hg)]; exact w.gh b u e
  new := w.new
theorem lc_read {W : Wd} {l : FI} {g : FG} {t : FT} {fe : FE} {σ : L2.St} {H : Hp} {Q : VK} (h : tN W (eLc vs l g t fe) σ H Q) : tLc (tIH W l) (tGc W vs g) (tT W t) (tF W fe) vs σ H Q := by
  obtain ⟨B, G, ρ, d, r, k, q⟩ := h
  obtain ⟨ds, hd, k⟩ := Option.bind_eq_some_iff.mp k
  split at k
  · rename_i hz
    obtain ⟨ys, hy, k⟩ := Option.map_eq_some_iff.mp k
    subst k
    refine ⟨B, G, ρ, ds, r, hd, fun J G1 H1 w1 it L hL => ?_⟩
    have gL : G1 L = none := w1.gh.free hL
    have bL : B L = none := r.bh.free (w1.h.free hL)
    refine ⟨fun i m H => m = ds.length - i ∧ i ≤ ds.length ∧ ∃ G2 acc us zs, Gw G1 H1 G2 H ∧ H L = some (.lst us) ∧ G2 L = none ∧ acc.length ≤ i ∧ Reps W G2 acc us ∧ lcL g t fe (wipeE ρ vs) (ds.drop i) = some zs ∧ acc ++ zs = ys,
      ⟨_, rfl, Nat.zero_le _, G1, [], [], ys, (Gw.refl w1.gh).atD hL gL, upd_same, gL, Nat.le_refl _, .nil, hy, rfl⟩, ?_⟩
    rintro i m H2 ⟨rfl, hi, G2, acc, us, zs, w2, hL2, gL2, ha, ra, hzs, hyz⟩
    obtain ⟨hstop, hgo⟩ := it G2 H2 w2 i
    by_cases hlt : i < ds.length
    · have e : ds.drop i = ds[i] :: ds.drop (i + 1) := List.drop_eq_getElem_cons hlt
      rw [e] at hzs
      obtain ⟨ρ1, h1, hzs⟩ := Option.bind_eq_some_iff.mp hzs
      obtain ⟨b, h2, hzs⟩ := Option.bind_eq_some_iff.mp hzs
      obtain ⟨go, yld⟩ := hgo ds[i] (List.getElem?_eq_getElem hlt)
      refine .inr ⟨go, fun H => ∃ G2 acc us zs, Gw G1 H1 G2 H ∧ H L = some (.lst us) ∧ G2 L = none ∧ acc.length ≤ i + 1 ∧ Reps W G2 acc us ∧ lcL g t fe (wipeE ρ vs) (ds.drop (i + 1)) = some zs ∧ acc ++ zs = ys, fun H' z => ⟨_, by omega, rfl, hlt, z⟩, fun x H' y => ?_⟩
      obtain ⟨G3, w3, rx⟩ := yld x H' y
      have w13 := w2.trans w3
      have nL : ∀ {G4 H4 : Hp}, Gw G2 H2 G4 H4 → G4 L = none := fun {G4 H4} w => by
        cases z : G4 L with
        | none => rfl
        | some o =>
          rcases w.new L o z with z | z | ⟨xs, z⟩
          · rw [gL2] at z; cases z
          · rw [hL2] at z; cases z
          · rw [hL2] at z; cases z
      refine ⟨B, G3, wipeE ρ vs, ds[i], ρ1, ((r.step w1).step w13).wipe vs, rx, h1, fun σ4 r4 e4 => ⟨e4.trans wipe_wipe, B, G3, ρ1, b, r4, h2, fun G5 H5 w5 => ?_⟩⟩
      by_cases eb : b = true
      · rw [if_pos eb] at hzs ⊢
        obtain ⟨y1, hy1, hzs⟩ := Option.bind_eq_some_iff.mp hzs
        obtain ⟨zs', hzs', hzs⟩ := Option.map_eq_some_iff.mp hzs
        refine ⟨B, G5, ρ1, y1, r4.step w5, hy1, fun v G6 H6 w6 rv => ?_⟩
        have w26 := (w3.trans w5).trans w6
        refine ⟨us, w26.h _ _ hL2, by rw [← ra.length]; omega, G6, acc ++ [y1], us ++ [v], zs', (w2.trans w26).atD hL (nL w26), upd_same, nL w26, by simp; omega, (ra.mono w26.g).snoc rv, hzs', ?_⟩
        rw [← hyz, ← hzs]
        simp
      · rw [if_neg eb] at hzs ⊢
        have w25 := w3.trans w5
        exact ⟨G5, acc, us, zs, w2.trans w25, w25.h _ _ hL2, nL w25, by omega, ra.mono w25.g, hzs, hyz⟩
    · have e : i = ds.length := by omega
      subst e
      rw [List.drop_length] at hzs
      cases hzs
      rw [List.append_nil] at hyz
      subst hyz
      exact .inl ⟨hstop (Nat.le_refl _), q _ G2 H2 (w1.trans w2) ⟨L, rfl, w1.h.free hL, gL2, .lst hL2 ra⟩⟩
  · cases k
variable {elt tg iter : Expr} {ifs : List Expr} {scope : Scope} {own : List (Str × Nat)} {l : FI} {g : FG} {t : FT} {fe : FE}
theorem n_lcH (own : List (Str × Nat)) (hc : X.calm = true) (hN : X.N.Nodup) (hi : PIH X tg iter l) (ok : blkC X.N X.env.scope scope own = true)
    (hg : ∀ (s : Shared) (H : Hp) (C : Addr) (cl : List (Str × Addr)) (fp : List Addr), PGC (X.blk s H scope (compEnvC scope cl C X.env) fp) (own.map (·.2)) tg g) (ht : ∀ (s : Shared) (H : Hp) (C : Addr) (cl : List (Str × Addr)) (fp : List Addr), PTsD (X.blk s H scope (compEnvC scope cl C X.env) fp) ifs t)
    (he : ∀ (s : Shared) (H : Hp) (C : Addr) (cl : List (Str × Addr)) (fp : List Addr), PF (X.blk s H scope (compEnvC scope cl C X.env) fp) elt fe) (hs : ∀ x, foldedSetIterable iter X.env x = pure x := by intro _; rfl) :
    PN X (.ListComp elt [⟨tg, iter, ifs, 0⟩] scope pos) (eLc (own.map (·.2)) l g t fe) :=
  PE.weak (pe_lc hc hN hi (blkOk_by ok) hg ht he hs) fun _ _ _ h => lc_read h
/-- name = [..] on one line -/
theorem s_lcH (i : Nat) (own : List (Str × Nat)) {y : Str} {py spos : Pos} (hc : X.calm = true) (hN : X.N.Nodup) (hi : PIH X tg iter l) (ok : blkC X.N X.env.scope scope own = true)
    (hg : ∀ (s : Shared) (H : Hp) (C : Addr) (cl : List (Str × Addr)) (fp : List Addr), PGC (X.blk s H scope (compEnvC scope cl C X.env) fp) (own.map (·.2)) tg g) (ht : ∀ (s : Shared) (H : Hp) (C : Addr) (cl : List (Str × Addr)) (fp : List Addr), PTsD (X.blk s H scope (compEnvC scope cl C X.env) fp) ifs t)
    (he : ∀ (s : Shared) (H : Hp) (C : Addr) (cl : List (Str × Addr)) (fp : List Addr), PF (X.blk s H scope (compEnvC scope cl C X.env) fp) elt fe)
    (hsw : swapsWith (.ListComp elt [⟨tg, iter, ifs, 0⟩] scope pos) (some (.Name y py)) spos.line X.env = pure true := by exact sw_true rfl rfl rfl (by decide +kernel))
    (hy : X.N[i]? = some y := by rfl) (hyl : X.env.scope.names.lookup y = some .local := by rfl) (hs : ∀ x, foldedSetIterable iter X.env x = pure x := by intro _; rfl) :
    PSD X (.Assign [.Name y py] (.ListComp elt [⟨tg, iter, ifs, 0⟩] scope pos) spos) (sOwn i (eLc (own.map (·.2)) l g t fe)) :=
  PS.weak (ps_setLc hc hN hy hyl hsw hi (blkOk_by ok) hg ht he hs) fun E σ H ⟨B, G, ρ, o, r, k, a⟩ => by
    obtain ⟨d, hd, k⟩ := Option.map_eq_some_iff.mp k
    subst k
    refine lc_read ⟨B, G, ρ, d, r, hd, fun v G' H' w ⟨p, ev, hp, hg, t⟩ => ?_⟩
    subst ev
    refine a _ G' H' (w.gs r.bh) ((r.step w).set_own (r.bh.free hp) hg t fun j e' hj hσ => ?_)
    obtain ⟨b, h1, h2, h3, h4⟩ := r.own j e' hj
    rw [hσ] at h1
    cases h1
    obtain ⟨o, ho⟩ := h4.at
    rw [hp] at ho
    cases ho

/-! ### dicts, keys ints and texts -/
def dcL (g : FG) (t : FT) (fk fv : FE) (ρ : Env) : List D → List (D × D) → Option (List (D × D))
  | [], acc => some acc
  | d :: ds, acc => (g d ρ).bind fun ρ1 => (t ρ1).bind fun b => if b = true then (fk ρ1).bind fun k => (fv ρ1).bind fun v => (keyOf k).bind fun _ => dcL g t fk fv ρ ds (dput acc k v) else dcL g t fk fv ρ ds acc
section
local instance (priority := 1000000) cdec10 (p : Prop) : Decidable p := Classical.propDecidable p
def eDc (vs : List Nat) (l : FI) (g : FG) (t : FT) (fk fv : FE) : FE := fun ρ => (l ρ).bind fun ds => if ds.length ≤ sizeLine then (dcL g t fk fv (wipeE ρ vs) ds []).map fun kvs => .dict ((.none, .int 0) :: kvs) else none
end
theorem dput_len (kvs : List (D × D)) (k v : D) : (dput kvs k v).length ≤ kvs.length + 1 := by
  unfold dput
  split <;> simp
theorem dc_read {W : Wd} {l : FI} {g : FG} {t : FT} {fk fv : FE} {σ : L2.St} {H : Hp} {Q : VK} (h : tN W (eDc vs l g t fk fv) σ H Q) : tDc (tIH W l) (tGc W vs g) (tT W t) (tF W fk) (tF W fv) vs σ H Q := by
  obtain ⟨B, G, ρ, d, r, k, q⟩ := h
  obtain ⟨ds, hd, k⟩ := Option.bind_eq_some_iff.mp k
  split at k
  · rename_i hz
    obtain ⟨ys, hy, k⟩ := Option.map_eq_some_iff.mp k
    subst k
    refine ⟨B, G, ρ, ds, r, hd, fun J G1 H1 w1 it L hL => ?_⟩
    have gL : G1 L = none := w1.gh.free hL
    refine ⟨fun i m H => m = ds.length - i ∧ i ≤ ds.length ∧ ∃ G2 acc kv, Gw G1 H1 G2 H ∧ H L = some (.dK kv) ∧ G2 L = none ∧ acc.length ≤ i ∧ acc.map (·.1) = kv.map (fun p => keyD p.1) ∧ Reps W G2 (acc.map (·.2)) (kv.map (·.2)) ∧ dcL g t fk fv (wipeE ρ vs) (ds.drop i) acc = some ys,
      ⟨_, rfl, Nat.zero_le _, G1, [], [], (Gw.refl w1.gh).atD hL gL, upd_same, gL, Nat.le_refl _, rfl, .nil, hy⟩, ?_⟩
    rintro i m H2 ⟨rfl, hi, G2, acc, kv, w2, hL2, gL2, ha, ka, ra, hzs⟩
    have la := congrArg List.length ka
    rw [List.length_map, List.length_map] at la
    obtain ⟨hstop, hgo⟩ := it G2 H2 w2 i
    by_cases hlt : i < ds.length
    · have e : ds.drop i = ds[i] :: ds.drop (i + 1) := List.drop_eq_getElem_cons hlt
      rw [e] at hzs
      obtain ⟨ρ1, h1, hzs⟩ := Option.bind_eq_some_iff.mp hzs
      obtain ⟨b, h2, hzs⟩ := Option.bind_eq_some_iff.mp hzs
      obtain ⟨go, yld⟩ := hgo ds[i] (List.getElem?_eq_getElem hlt)
      refine .inr ⟨go, fun H => ∃ G2 acc kv, Gw G1 H1 G2 H ∧ H L = some (.dK kv) ∧ G2 L = none ∧ acc.length ≤ i + 1 ∧ acc.map (·.1) = kv.map (fun p => keyD p.1) ∧ Reps W G2 (acc.map (·.2)) (kv.map (·.2)) ∧ dcL g t fk fv (wipeE ρ vs) (ds.drop (i + 1)) acc = some ys, fun H' z => ⟨_, by omega, rfl, hlt, z⟩, fun x H' y => ?_⟩
      obtain ⟨G3, w3, rx⟩ := yld x H' y
      have w13 := w2.trans w3
      have nL : ∀ {G4 H4 : Hp}, Gw G2 H2 G4 H4 → G4 L = none := fun {G4 H4} w => by
        cases z : G4 L with
        | none => rfl
        | some o =>
          rcases w.new L o z with z | z | ⟨xs, z⟩
          · rw [gL2] at z; cases z
          · rw [hL2] at z; cases z
          · rw [hL2] at z; cases z
      refine ⟨B, G3, wipeE ρ vs, ds[i], ρ1, ((r.step w1).step w13).wipe vs, rx, h1, fun σ4 r4 e4 => ⟨e4.trans wipe_wipe, B, G3, ρ1, b, r4, h2, fun G5 H5 w5 => ?_⟩⟩
      by_cases eb : b = true
      · rw [if_pos eb] at hzs ⊢
        obtain ⟨k1, hk1, hzs⟩ := Option.bind_eq_some_iff.mp hzs
        obtain ⟨v1, hv1, hzs⟩ := Option.bind_eq_some_iff.mp hzs
        obtain ⟨kk, hkk, hzs⟩ := Option.bind_eq_some_iff.mp hzs
        refine ⟨B, G5, ρ1, k1, r4.step w5, hk1, fun v G6 H6 w6 rk => ⟨B, G6, ρ1, v1, (r4.step w5).step w6, hv1, fun u G7 H7 w7 ru => ?_⟩⟩
        have w27 := ((w3.trans w5).trans w6).trans w7
        cases keyOf_some hkk
        obtain ⟨p1, p2⟩ := put_rel keq_key (k := kk) ru ka (ra.mono w27.g)
        refine ⟨kv, kk, Rep.key (k := kk) (H := G6) (.inl rk), w27.h _ _ hL2, by omega, G7, dput acc (keyD kk) v1, putK kv kk u, (w2.trans w27).atD hL (nL w27), upd_same, nL w27, Nat.le_trans (dput_len _ _ _) (by omega), p1, p2, hzs⟩
      · rw [if_neg eb] at hzs ⊢
        have w25 := w3.trans w5
        exact ⟨G5, acc, kv, w2.trans w25, w25.h _ _ hL2, nL w25, by omega, ka, ra.mono w25.g, hzs⟩
    · have e : i = ds.length := by omega
      subst e
      rw [List.drop_length] at hzs
      cases hzs
      exact .inl ⟨hstop (Nat.le_refl _), q _ G2 H2 (w1.trans w2) ⟨L, rfl, w1.h.free hL, gL2, .dcK hL2 ka ra⟩⟩
  · cases k
variable {kx vx : Expr} {fk fv : FE}
theorem n_dcH (own : List (Str × Nat)) (hc : X.calm = true) (hN : X.N.Nodup) (hi : PIH X tg iter l) (ok : blkC X.N X.env.scope scope own = true)
    (hg : ∀ (s : Shared) (H : Hp) (C : Addr) (cl : List (Str × Addr)) (fp : List Addr), PGC (X.blk s H scope (compEnvC scope cl C X.env) fp) (own.map (·.2)) tg g) (ht : ∀ (s : Shared) (H : Hp) (C : Addr) (cl : List (Str × Addr)) (fp : List Addr), PTsD (X.blk s H scope (compEnvC scope cl C X.env) fp) ifs t)
    (hk : ∀ (s : Shared) (H : Hp) (C : Addr) (cl : List (Str × Addr)) (fp : List Addr), PF (X.blk s H scope (compEnvC scope cl C X.env) fp) kx fk)
    (he : ∀ (s : Shared) (H : Hp) (C : Addr) (cl : List (Str × Addr)) (fp : List Addr), PF (X.blk s H scope (compEnvC scope cl C X.env) fp) vx fv) (hs : ∀ x, foldedSetIterable iter X.env x = pure x := by intro _; rfl) :
    PN X (.DictComp kx vx [⟨tg, iter, ifs, 0⟩] scope pos) (eDc (own.map (·.2)) l g t fk fv) :=
  PE.weak (pe_dc hc hN hi (blkOk_by ok) hg ht hk he hs) fun _ _ _ h => dc_read h
theorem sw_trueD {ka va : Expr} {gs : List Comprehension} {sc : Scope} {pd py : Pos} {y : Str} {l : Nat} {env : PySem.Env} (hk : env.scope.kind = .function) (hy : env.scope.names.lookup y = some .local) (hl : (py.line == pd.line) = true)
    (ha : (sc.names.any fun (n, k) => n == y && (k == .local || k == .cell)) = false) : swapsWith (.DictComp ka va gs sc pd) (some (.Name y py)) l env = pure true := by
  have h1 : env.kindOf y = some .local := hy
  have h2 : env.blockKind = .function := by
    unfold Env.blockKind
    rw [hk]
    rfl
  unfold swapsWith
  simp only [h2, h1, ha, Expr.pos, hl]
  rfl
/-- name = {..} on one line -/
theorem s_dcH (i : Nat) (own : List (Str × Nat)) {y : Str} {py spos : Pos} (hc : X.calm = true) (hN : X.N.Nodup) (hi : PIH X tg iter l) (ok : blkC X.N X.env.scope scope own = true)
    (hg : ∀ (s : Shared) (H : Hp) (C : Addr) (cl : List (Str × Addr)) (fp : List Addr), PGC (X.blk s H scope (compEnvC scope cl C X.env) fp) (own.map (·.2)) tg g) (ht : ∀ (s : Shared) (H : Hp) (C : Addr) (cl : List (Str × Addr)) (fp : List Addr), PTsD (X.blk s H scope (compEnvC scope cl C X.env) fp) ifs t)
    (hk : ∀ (s : Shared) (H : Hp) (C : Addr) (cl : List (Str × Addr)) (fp : List Addr), PF (X.blk s H scope (compEnvC scope cl C X.env) fp) kx fk)
    (he : ∀ (s : Shared) (H : Hp) (C : Addr) (cl : List (Str × Addr)) (fp : List Addr), PF (X.blk s H scope (compEnvC scope cl C X.env) fp) vx fv)
    (hsw : swapsWith (.DictComp kx vx [⟨tg, iter, ifs, 0⟩] scope pos) (some (.Name y py)) spos.line X.env = pure true := by exact sw_trueD rfl rfl rfl (by decide +kernel))
    (hy : X.N[i]? = some y := by rfl) (hyl : X.env.scope.names.lookup y = some .local := by rfl) (hs : ∀ x, foldedSetIterable iter X.env x = pure x := by intro _; rfl) :
    PSD X (.Assign [.Name y py] (.DictComp kx vx [⟨tg, iter, ifs, 0⟩] scope pos) spos) (sOwn i (eDc (own.map (·.2)) l g t fk fv)) := by
  refine ⟨fun pins s σ H E I ⟨B, G, ρ, o, r, k, a⟩ => ?_⟩
  obtain ⟨d, hd, k⟩ := Option.map_eq_some_iff.mp k
  subst k
  rw [exec_Assign_Name_used _ _ _ _ hsw]
  refine wpAny_bind (wpAny_standAt (wpAny_bind ?_))
  have rd := dc_read (W := X.wd) (vs := own.map (·.2)) (l := l) (g := g) (t := t) (fk := fk) (fv := fv) (σ := σ) (H := H) (Q := fun v H' => E.nx (σ.set i (some v)) H') ⟨B, G, ρ, d, r, hd, fun v G' H' w ⟨p, ev, hp, hg, t⟩ => by
    subst ev
    refine a _ G' H' (w.gs r.bh) ((r.step w).set_own (r.bh.free hp) hg t fun j e' hj hσ => ?_)
    obtain ⟨b, h1, h2, h3, h4⟩ := r.own j e' hj
    rw [hσ] at h1
    cases h1
    obtain ⟨o, ho⟩ := h4.at
    rw [hp] at ho
    cases ho⟩
  show wpAny _ X.A (do let _ ← comprehension (.DictComp kx vx [⟨tg, iter, ifs, 0⟩] scope pos) scope X.env (firstIterPos [⟨tg, iter, ifs, 0⟩] pos) newDict false (eval iter X.env) (some (assign (.Name y py) X.env))) _ _ s
  refine wpAny_bind (thn (dc_core (use := some (assign (.Name y py) X.env)) (Qf := fun _ st => SP X pins E .next st) hc hN I hi (blkOk_by ok) hg ht hk he hs rd fun A1 C1 s5 m5 H5 I5 q5 hn5 ⟨f0, f1, f2, f3, f4, f5⟩ => ?_) fun _ _ z => wpAny_pure (wpAny_pure z))
  refine wpAny_assign_Name (store_ok2 (v := V.ref A1) I5 hN hy (.inl hyl) rfl (fun s6 I6 ⟨b6, sb6, hb6⟩ => ?_) (.inr hyl))
  have ne : C1 ≠ b6 := hb6.elim (fun z => z ▸ f1) fun z q => f4 y b6 z q.symm
  exact ⟨m5, hn5.sameBut sb6 ne, fun h7 sb7 => ⟨_, H5, I6.turned (t' := s6.toks) (fun b o hb z => (sb7.2 b hb).trans z) f0 f1 f3 f4 f5, q5⟩⟩
end
end DV
end

set_option Elab.async false
set_option linter.all false
set_option maxRecDepth 100000
/-! DVj: stores into what is owned; more built-ins. -/
noncomputable section
namespace DV
open PySem PySem.Spec PyProof.Rows L2

section
variable {X : Cx}
theorem PSet.or {t t' : TSet} (h : PSet X t) (h' : PSet X t') : PSet X (fun o i v H Q => t o i v H Q ∨ t' o i v H Q) := by
  intro pins s σ H o i v ov iv u Q I ro ri rv q
  rcases q with q | q
  · exact h pins s σ H o i v ov iv u Q I ro ri rv q
  · exact h' pins s σ H o i v ov iv u Q I ro ri rv q
def rSetDict : V → V → V → Hp → (Hp → Prop) → Prop := fun o i v H Q => ∃ a H', o = .ref a ∧ DPut H a i v H' ∧ Q H'
theorem set_dict (hu : X.A.units + 1 < cLine) : PSet X rSetDict := by
  intro pins s σ H o i v ov iv u Q I ro ri rv q
  obtain ⟨a, H', rfl, g, q⟩ := q
  cases ro
  exact d_setItem hu I g ri rv fun s4 I4 => ⟨H', I4, q⟩
section
local instance (priority := 1000000) cdj1 (p : Prop) : Decidable p := Classical.propDecidable p
def putKv (kd : D) (kvs : List (D × D)) (k v : D) : Option D := if kvs.length < sizeLine then some (.dict ((.none, kd) :: dput kvs k v)) else none
end
def putO (d k v : D) : Option D := match d with
  | .list ds => match k with
    | .int j => (ixN ds.length j).map fun n => .list (ds.set n v)
    | _ => none
  | .dict ((.none, .int 0) :: kvs) => (keyOf k).bind fun _ => putKv (.int 0) kvs k v
  | .dict ((.none, .int 1) :: kvs) => (tkeyOf k).bind fun _ => putKv (.int 1) kvs k v
  | _ => none
def sPut (i : Nat) (Fk Fv : FE) : FS := fun ρ => (Fv ρ).bind fun v => (Fk ρ).bind fun k => match ρ[i]? with
  | some (some (.own d)) => (putO d k v).map fun d' => .nx (ρ.set i (some (.own d')))
  | _ => none
theorem put_ok {W : Wd} {G H : Hp} {d k v d' : D} {a : Addr} {kv' vv : V} {Q : Hp → Prop} (h : putO d k v = some d') (sg : Same G H) (t : Top W G H d a) (rk : Rep W G k kv') (rv : Rep W G v vv) (q : ∀ o, Top W G (upd H a o) d' a → Q (upd H a o)) :
    rSetL (.ref a) kv' vv H Q ∨ rSetDict (.ref a) kv' vv H Q := by
  unfold putO at h
  split at h
  · split at h
    · obtain ⟨n, hn, h⟩ := Option.map_eq_some_iff.mp h
      subst h
      cases rk
      cases t with
      | lst e r => exact .inl ⟨a, _, _, n, rfl, rfl, e, by rw [← r.length]; exact hn, q _ (.lst upd_same (r.set rv n))⟩
    · cases h
  · obtain ⟨kk, hk, h⟩ := Option.bind_eq_some_iff.mp h
    unfold putKv at h
    split at h
    · rename_i hz
      cases h
      cases keyOf_some hk
      cases t with
      | dcK e hk' r =>
        have l := congrArg List.length hk'
        rw [List.length_map, List.length_map] at l
        obtain ⟨p1, p2⟩ := put_rel keq_key (k := kk) rv hk' r
        refine .inr ⟨a, _, rfl, ?_, q _ (.dcK upd_same p1 p2)⟩
        rw [Rep.key (k := kk) (H := G) (.inl rk)]
        exact DPut.k e (by omega)
    · cases h
  · obtain ⟨kk, hk, h⟩ := Option.bind_eq_some_iff.mp h
    unfold putKv at h
    split at h
    · rename_i hz
      cases h
      cases tkeyOf_some hk
      cases t with
      | dcT e hk' r =>
        have l := congrArg List.length hk'
        rw [List.length_map, List.length_map] at l
        obtain ⟨p1, p2⟩ := put_rel (enc := fun k => .tuple (k.map keyD)) keq_tkey (k := kk) rv hk' r
        cases rk with
        | tup h1 h2 =>
          cases Reps.keys h2
          exact .inr ⟨a, _, rfl, DPut.t e (sg _ _ h1) (by omega), q _ (.dcT upd_same p1 p2)⟩
    · cases h
  · cases h
/-- x[k] = e, x owned -/
theorem s_put (i : Nat) {x : Str} {k e : Expr} {Fk Fe : FE} {npos tpos pos : Pos} (hu : X.A.units + 1 < cLine) (he : PF X e Fe) (hk : PF X k Fk) (hN : X.N[i]? = some x := by rfl) (hv : Vis X.env.scope x := by first | exact Or.inl rfl | exact Or.inr (Or.inl rfl) | exact Or.inr (Or.inr rfl)) (hd : (x == ("__debug__" : Str)) = false := by decide)
    (hcd : (x == ("__classdict__" : Str)) = false := by decide)
    (ha : ∀ v, assign (.Subscript (.Name x npos) k tpos) X.env v = (do
      let ov ← holding [v] (eval (.Name x npos) X.env)
      let iv ← holding [v, ov] (eval k X.env)
      standAt tpos
      holding [v, ov, iv] (setItem ov iv v)
      release [v, ov, iv] []) := by intro _; rfl)
    (hs : swapsWithSole [.Subscript (.Name x npos) k tpos] e pos.line X.env = pure false := by rfl) (hw : swappedStores [.Subscript (.Name x npos) k tpos] e X.env = pure none := by rfl)
    (h1 : (assignEach [.Subscript (.Name x npos) k tpos] X.env).map (·.2) = [assign (.Subscript (.Name x npos) k tpos) X.env] := by rfl) :
    PSD X (.Assign [.Subscript (.Name x npos) k tpos] e pos) (sPut i Fk Fe) :=
  PS.weak (ps_asg he (pg_sub (pe_var (i := i) hN hv hd hcd) hk (PSet.or set_list (set_dict hu)) ha) hs hw h1) fun E σ H ⟨B, G, ρ, o, r, q, a⟩ => by
    obtain ⟨v, hv, q⟩ := Option.bind_eq_some_iff.mp q
    obtain ⟨kd, hk, q⟩ := Option.bind_eq_some_iff.mp q
    refine ⟨B, G, ρ, v, r, hv, fun vv G1 H1 w1 rv => ?_⟩
    split at q
    · rename_i d hi
      obtain ⟨d', hp, q⟩ := Option.map_eq_some_iff.mp q
      subst q
      obtain ⟨l, h1, h2, h3, h4⟩ := r.own i _ hi
      refine ⟨_, h1, B, G1, ρ, kd, r.step w1, hk, fun kv G2 H2 w2 rk => ?_⟩
      have w := w1.trans w2
      exact put_ok hp w2.gh (h4.same w.g w.h) rk (rv.mono w2.g) fun o t => a σ G2 _ (w.gs r.bh) ((r.step w).upd_own hi h1 t)
    · cases q

/-! ### min, max of a list of ints; of two ints -/
def minL : List Int → Int
  | [] => 0
  | [x] => x
  | x :: xs => if minL xs < x then minL xs else x
def maxL : List Int → Int
  | [] => 0
  | [x] => x
  | x :: xs => if x < maxL xs then maxL xs else x
theorem minL_spec : ∀ {ns : List Int}, ns ≠ [] → minL ns ∈ ns ∧ ∀ y ∈ ns, minL ns ≤ y
  | [], h => absurd rfl h
  | [x], _ => ⟨by simp [minL], fun y hy => by simp at hy; subst hy; simp [minL]⟩
  | x :: y :: r, _ => by
    obtain ⟨h1, h2⟩ := minL_spec (ns := y :: r) (by simp)
    unfold minL
    split
    · exact ⟨List.mem_cons_of_mem _ h1, fun z hz => by
        rcases List.mem_cons.mp hz with rfl | hz
        · omega
        · exact h2 z hz⟩
    · exact ⟨List.mem_cons_self, fun z hz => by
        rcases List.mem_cons.mp hz with rfl | hz
        · exact Int.le_refl _
        · have := h2 z hz
          omega⟩
theorem maxL_spec : ∀ {ns : List Int}, ns ≠ [] → maxL ns ∈ ns ∧ ∀ y ∈ ns, y ≤ maxL ns
  | [], h => absurd rfl h
  | [x], _ => ⟨by simp [maxL], fun y hy => by simp at hy; subst hy; simp [maxL]⟩
  | x :: y :: r, _ => by
    obtain ⟨h1, h2⟩ := maxL_spec (ns := y :: r) (by simp)
    unfold maxL
    split
    · exact ⟨List.mem_cons_of_mem _ h1, fun z hz => by
        rcases List.mem_cons.mp hz with rfl | hz
        · omega
        · exact h2 z hz⟩
    · exact ⟨List.mem_cons_self, fun z hz => by
        rcases List.mem_cons.mp hz with rfl | hz
        · exact Int.le_refl _
        · have := h2 z hz
          omega⟩
def minF : List D → Option D
  | [.list ds] => (intsOf ds).bind fun ns => if ns = [] then none else some (.int (minL ns))
  | [.int i, .int j] => some (.int (if j < i then j else i))
  | _ => none
def maxF : List D → Option D
  | [.list ds] => (intsOf ds).bind fun ns => if ns = [] then none else some (.int (maxL ns))
  | [.int i, .int j] => some (.int (if j > i then j else i))
  | _ => none
variable {p pos : Pos} {e e' : Expr} {es : List Expr} {L : FL} {F : FE}
theorem mm_eq {ns : List Int} {a b : Int} (ha : a ∈ ns) (hb : b ∈ ns) (h1 : ∀ y ∈ ns, a ≤ y) (h2 : ∀ y ∈ ns, b ≤ y) : a = b := Int.le_antisymm (h1 b hb) (h2 a ha)
theorem f_min (hc : X.calm = true) (hm : X.mg "min" = none) (ha : PAB X (e :: es) L) (hg : Gl X "min" := by rfl)
    (he : starEach (e :: es) X.env = (false, eval e X.env) :: starEach es X.env := by rfl) (hpl : (backTo pos (starEach es X.env)).any (·.1) = false := by rfl) : PF X (.Call (.Name "min" p) (e :: es) [] pos) (eCall minF L) :=
  f_bc (CallR.or (cr_min hc) (call_min2 hc)) (fun ds d vs G H Q k bs sg q => by
    unfold minF at k
    split at k
    · obtain ⟨ns, hn, k⟩ := Option.bind_eq_some_iff.mp k
      split at k
      · cases k
      · rename_i hne
        cases k
        obtain ⟨v, rfl, b⟩ := bs.one
        obtain ⟨a, xs, rfl, h1, r1⟩ := b.lst' sg
        rw [intsOf_some hn] at r1
        cases r1.ints
        refine .inl ⟨_, ns, rfl, SqL.of h1, List.length_pos_iff.mpr hne, fun m hm hy => ?_⟩
        rw [mm_eq hm (minL_spec hne).1 hy (minL_spec hne).2]
        exact q _ G H (Gw.refl sg) (.int _)
    · cases k
      obtain ⟨v, u, rfl, b1, b2⟩ := bs.two
      cases b1.int'
      cases b2.int'
      exact .inr ⟨_, _, rfl, q _ G H (Gw.refl sg) (.int _)⟩
    · cases k) hm ha (by decide +kernel) hg (by decide) (by decide) he hpl
theorem f_max (hc : X.calm = true) (hm : X.mg "max" = none) (ha : PAB X (e :: es) L) (hg : Gl X "max" := by rfl)
    (he : starEach (e :: es) X.env = (false, eval e X.env) :: starEach es X.env := by rfl) (hpl : (backTo pos (starEach es X.env)).any (·.1) = false := by rfl) : PF X (.Call (.Name "max" p) (e :: es) [] pos) (eCall maxF L) :=
  f_bc (CallR.or (cr_max hc) (call_max2 hc)) (fun ds d vs G H Q k bs sg q => by
    unfold maxF at k
    split at k
    · obtain ⟨ns, hn, k⟩ := Option.bind_eq_some_iff.mp k
      split at k
      · cases k
      · rename_i hne
        cases k
        obtain ⟨v, rfl, b⟩ := bs.one
        obtain ⟨a, xs, rfl, h1, r1⟩ := b.lst' sg
        rw [intsOf_some hn] at r1
        cases r1.ints
        refine .inl ⟨_, ns, rfl, SqL.of h1, List.length_pos_iff.mpr hne, fun m hm hy => ?_⟩
        rw [Int.le_antisymm ((maxL_spec hne).2 m hm) (hy _ (maxL_spec hne).1)]
        exact q _ G H (Gw.refl sg) (.int _)
    · cases k
      obtain ⟨v, u, rfl, b1, b2⟩ := bs.two
      cases b1.int'
      cases b2.int'
      exact .inr ⟨_, _, rfl, q _ G H (Gw.refl sg) (.int _)⟩
    · cases k) hm ha (by decide +kernel) hg (by decide) (by decide) he hpl

/-! ### isinstance(x, T) -/
def tyS : D → Option String
  | .none => some "NoneType"
  | .bool _ => some "bool"
  | .int _ => some "int"
  | .str _ => some "str"
  | .list _ => some "list"
  | .tuple _ => some "tuple"
  | _ => none
def isiD (T : String) (d : D) : Option D := (tyS d).bind fun t => (kitB t T).map .bool
theorem Bor.ty {W : Wd} {G H : Hp} {d : D} {v : V} {t : String} (b : Bor W G H d v) (sg : Same G H) (h : tyS d = some t) : TyX W.K H v (.type t) := by
  unfold tyS at h
  split at h
  · cases h; cases b.non'; exact .base .non
  · cases h; cases b.bl'; exact .base (.bl _)
  · cases h; cases b.int'; exact .base (.int _)
  · cases h; cases b.str'; exact .base (.str _)
  · cases h
    obtain ⟨a, xs, rfl, h1, _⟩ := b.lst' sg
    exact .base (.lst h1)
  · cases h
    obtain ⟨a, xs, rfl, _, h1, _⟩ := b.tup' sg
    exact .base (.tup h1)
  · cases h
theorem f_isi (T : String) {y : Str} {p2 : Pos} (hm : X.mg "isinstance" = none) (hmT : X.mg y = none) (ha : PB X e F) (hvT : bootBuiltins y = some (.type T) := by decide +kernel) (hg : Gl X "isinstance" := by rfl) (hgT : Gl X y := by rfl) (hn : y ≠ "__name__" := by decide) (hdb : (y == ("__debug__" : Str)) = false := by decide)
    (hs1 : starEach [e, .Name y p2] X.env = (false, eval e X.env) :: starEach [.Name y p2] X.env := by rfl) (hs2 : starEach [.Name y p2] X.env = (false, eval (.Name y p2) X.env) :: starEach [] X.env := by rfl) (hpl : (backTo pos (starEach [.Name y p2] X.env)).any (·.1) = false := by rfl) :
    PF X (.Call (.Name "isinstance" p) [e, .Name y p2] [] pos) (o1 (isiD T) F) :=
  PE.weak (pe_callB call_isi hg hm (by decide +kernel) (pa_cons ha (pa_cons (pe_bltn (v := .ty T) hgT hmT hvT rfl hn hdb) pa_nil hs2) hs1) (by decide) (by decide) hs1 hpl) fun σ H Q ⟨B, G, ρ, d, r, k, q⟩ => by
    obtain ⟨x, hx, k⟩ := Option.bind_eq_some_iff.mp k
    obtain ⟨t, ht, k⟩ := Option.bind_eq_some_iff.mp k
    obtain ⟨b, hb, k⟩ := Option.map_eq_some_iff.mp k
    subst k
    refine ⟨B, G, ρ, x, r, hx, fun v G1 H1 w1 b1 => ?_⟩
    exact ⟨v, .ty T, .type t, .type T, b, rfl, .ty T, b1.ty w1.gh ht, kit_ty hb, q _ G1 H1 w1 (.bl _)⟩

/-! ### tuple(x), list(x) -/
def tupF : List D → Option D
  | [.list ds] => some (.tuple ds)
  | [.tuple ds] => some (.tuple ds)
  | _ => none
theorem f_tuple (hm : X.mg "tuple" = none) (ha : PAB X [e] L) (hg : Gl X "tuple" := by rfl)
    (he : starEach [e] X.env = (false, eval e X.env) :: starEach [] X.env := by rfl) (hpl : (backTo pos (starEach [] X.env)).any (·.1) = false := by rfl) : PF X (.Call (.Name "tuple" p) [e] [] pos) (eCall tupF L) :=
  f_bt call_tuple_of (fun ds d vs G H Q k bs sg q => by
    unfold tupF at k
    split at k
    · cases k
      obtain ⟨v, rfl, b⟩ := bs.one
      obtain ⟨a, xs, rfl, h1, r1⟩ := b.lst' sg
      exact ⟨_, _, rfl, .inl ⟨SqL.of h1, fin_tup sg r1 q⟩⟩
    · cases k
      obtain ⟨v, rfl, b⟩ := bs.one
      obtain ⟨a, xs, rfl, g1, h1, r1⟩ := b.tup' sg
      exact ⟨_, _, rfl, .inr ⟨SqT.of h1, q _ G H (Gw.refl sg) (.tup g1 r1)⟩⟩
    · cases k) hm ha (by decide +kernel) hg (by decide) (by decide) he hpl
def lstF : List D → Option D
  | [.list ds] => some (.list ds)
  | [.tuple ds] => some (.list ds)
  | [.dict ((.none, .int 0) :: kvs)] => some (.list (kvs.map (·.1)))
  | _ => none
theorem f_list (hc : X.calm = true) (hm : X.mg "list" = none) (ha : PAB X [e] L) (hg : Gl X "list" := by rfl)
    (he : starEach [e] X.env = (false, eval e X.env) :: starEach [] X.env := by rfl) (hpl : (backTo pos (starEach [] X.env)).any (·.1) = false := by rfl) : PF X (.Call (.Name "list" p) [e] [] pos) (eCall lstF L) :=
  f_bt (CallR.or call_list_of (call_listD hc)) (fun ds d vs G H Q k bs sg q => by
    unfold lstF at k
    split at k
    · cases k
      obtain ⟨v, rfl, b⟩ := bs.one
      obtain ⟨a, xs, rfl, h1, r1⟩ := b.lst' sg
      exact .inl ⟨_, _, rfl, .inl (SqL.of h1), fin_lst sg r1 q⟩
    · cases k
      obtain ⟨v, rfl, b⟩ := bs.one
      obtain ⟨a, xs, rfl, g1, h1, r1⟩ := b.tup' sg
      exact .inl ⟨_, _, rfl, .inr (SqT.of h1), fin_lst sg r1 q⟩
    · cases k
      obtain ⟨v, rfl, b⟩ := bs.one
      obtain ⟨a, kv, rfl, h1, h2, h3⟩ := b.dk sg
      exact .inr ⟨_, _, rfl, h1, fin_lst sg (reps_keys h2) q⟩
    · cases k) hm ha (by decide +kernel) hg (by decide) (by decide) he hpl

/-! ### methods of texts -/
/-- a built-in type's method by values -/
def eMeth (f : D → List D → Option D) (a : FE) (l : FL) : FE := fun ρ => (a ρ).bind fun x => (l ρ).bind fun xs => f x xs
def MethD (W : Wd) (T : String) (r : V → List V → Hp → VK → Prop) (f : D → List D → Option D) : Prop :=
  ∀ (x : D) (ds : List D) (d : D) (v : V) (vs : List V) (G H : Hp) (Q : VK), f x ds = some d → Bor W G H x v → Bors W G H ds vs → Same G H → (∀ z G' H', Gw G H G' H' → Rep W G' d z → Q z H') → r v vs H Q
theorem f_meth {T id : String} {name : Str} {o : Expr} {r : V → List V → Hp → VK → Prop} {f : D → List D → Option D} {apos cpos : Pos} {Fo : FE} (pa : PlainAttrs T) (slot : Slot T name id) (hty : typeOf (.builtin id) = pure (.type "method_descriptor")) (hm : MtR X id r) (hf : MethD X.wd T r f)
    (hT : ∀ x ds d, f x ds = some d → ∀ G H v, Bor X.wd G H x v → Same G H → tyV X.K T v H) (ho : PB X o Fo) (ha : PAB X (e :: es) L)
    (hbase : attributeBase o name X.env (eval o X.env) = eval o X.env := by rfl)
    (hfew : ((backTo cpos (starEach (e :: es) X.env)).all (fun x => !x.1) && (backToKw cpos (keywordEach [] X.env)).all (fun x => x.1.isSome)
      && decide ((e :: es).length + ([] : List Keyword).length + (if ([] : List Keyword).isEmpty then 0 else 1) < 30)) = true := by rfl)
    (hline : (apos.endLine == cpos.line) = true := by rfl) (hs : starEach (e :: es) X.env = (false, eval e X.env) :: starEach es X.env := by rfl) (hplain : (backTo cpos (starEach es X.env)).any (·.1) = false := by rfl) :
    PF X (.Call (.Attribute o name apos) (e :: es) [] cpos) (eMeth f Fo L) :=
  PE.weak (pe_bm pa slot hty hm ho ha hbase hfew hline hs hplain) fun σ H Q ⟨B, G, ρ, d, rp, k, q⟩ => by
    obtain ⟨x, hx, k⟩ := Option.bind_eq_some_iff.mp k
    obtain ⟨ds, hd, k⟩ := Option.bind_eq_some_iff.mp k
    refine ⟨B, G, ρ, x, rp, hx, fun v G1 H1 w1 b1 => ⟨hT x ds d k G1 H1 v b1 w1.gh, B, G1, ρ, ds, rp.step w1, hd, fun vs G2 H2 w2 bs => ?_⟩⟩
    exact hf x ds d v vs G2 H2 Q k (b1.step w2) bs w2.gh fun z G' H' w rz => q z G' H' ((w1.trans w2).trans w) rz
section
local instance (priority := 1000000) cdj2 (p : Prop) : Decidable p := Classical.propDecidable p
def joinF : D → List D → Option D
  | .str a, [.list ds] => (strsOf ds).bind fun ys => if (ys.map (·.length)).sum + ys.length * a.length ≤ 16777216 then some (.str (Txt.join a ys)) else none
  | _, _ => none
end
theorem f_join {o : Expr} {Fo : FE} {apos cpos : Pos} (ho : PB X o Fo) (ha : PAB X [e] L)
    (hbase : attributeBase o "join" X.env (eval o X.env) = eval o X.env := by rfl)
    (hfew : ((backTo cpos (starEach [e] X.env)).all (fun x => !x.1) && (backToKw cpos (keywordEach [] X.env)).all (fun x => x.1.isSome)
      && decide (([e] : List Expr).length + ([] : List Keyword).length + (if ([] : List Keyword).isEmpty then 0 else 1) < 30)) = true := by rfl)
    (hline : (apos.endLine == cpos.line) = true := by rfl) (hs : starEach [e] X.env = (false, eval e X.env) :: starEach [] X.env := by rfl) (hplain : (backTo cpos (starEach [] X.env)).any (·.1) = false := by rfl) :
    PF X (.Call (.Attribute o "join" apos) [e] [] cpos) (eMeth joinF Fo L) :=
  f_meth PySem.F.plainAttrs_str PySem.F.slot_str_join PySem.F.type_str_join mt_join (fun x ds d v vs G H Q k b bs sg q => by
    unfold joinF at k
    split at k
    · obtain ⟨ys, hy, k⟩ := Option.bind_eq_some_iff.mp k
      split at k
      · rename_i hz
        cases k
        cases b.str'
        obtain ⟨u, rfl, b1⟩ := bs.one
        obtain ⟨a, xs, rfl, h1, r1⟩ := b1.lst' sg
        rw [strsOf_some hy] at r1
        cases r1.strs
        exact ⟨_, _, ys, rfl, rfl, .inl (SqL.of h1), hz, q _ G H (Gw.refl sg) (.str _)⟩
      · cases k
    · cases k) (fun x ds d k G H v b sg => by
      unfold joinF at k
      split at k
      · cases b.str'; rfl
      · cases k) ho ha hbase hfew hline hs hplain
end

/-! ### a slot's thing frozen behind a statement; a def that calls itself -/
def thenF (i : Nat) (F : FS) : FS := fun ρ => (F ρ).map fun o => match o with
  | .nx ρ' => .nx (frzE i ρ')
  | o => o
theorem s_thenF (i : Nat) {X : Cx} {st : Stmt} {F : FS} (h : PSD X st F) : PSD X st (thenF i F) := by
  refine ⟨fun pins s σ H E I ⟨B, G, ρ, o, r, k, a⟩ => ?_⟩
  obtain ⟨o1, ho, k⟩ := Option.map_eq_some_iff.mp k
  subst k
  refine thn (h.run pins s σ H { nx := fun σ' H' => ∃ ρ' G', o1 = .nx ρ' ∧ Gs B G G' ∧ Rp X.wd B G' H' ρ' σ', rt := E.rt, bk := E.bk, ct := E.ct } I ⟨B, G, ρ, o1, r, ho, ?_⟩) fun f s1 q => ?_
  · cases o1 with
    | nx ρ' => exact fun σ' G' H' g r' => ⟨ρ', G', rfl, g, r'⟩
    | rt d => exact a
    | bk ρ' => exact a
    | ct ρ' => exact a
  · cases f with
    | next =>
      obtain ⟨σ', H', I', ρ', G', rfl, g, r'⟩ := q
      obtain ⟨G2, H2, I2, r2, g2⟩ := frz_run (i := i) I' r'
      exact ⟨σ', H2, I2, a σ' G2 H2 (g.trans g2) r2⟩
    | brk => exact q
    | cont => exact q
    | ret v => exact q
theorem DefD.nil {P : Program} {w : World} {K : PySem.W.Frag} {mg : Str → Option Value} {base : Heap} {k : Nat} {x : Str} {st : Stmt} {ps : List Str} (T : TopF K mg x st ps) : DefD P w K mg base k x (fun _ => none) :=
  let ⟨f, fd, F, hm, hb⟩ := T.ex
  ⟨f, fd, ps, ⟨fun vs H Q E h => h.1, fun A outer s H args us vs Q E _ _ _ _ h => let ⟨_, _, _, _, _, _, z, _⟩ := h; nomatch z⟩, hm, F.kp, hb, fun _ _ h => nomatch h⟩
/-- the law: a list of at most 63 ints is handed in, True comes out -/
def spLaw (K : PySem.W.Frag) : Sp := fun vs H Q _ => ∃ (a : Addr) (ns : List Int), vs = [.ref a] ∧ SqL K H a (ns.map V.int) ∧ ns.length ≤ 63 ∧ ∀ H', Q (.bl true) H'
theorem law_imp {P : Program} {w : World} {K : PySem.W.Frag} {mg : Str → Option Value} {base : Heap} {k : Nat} {Ff : List D → Option D} {fa : Addr} {fd : FuncData} {ps : List Str} (F : FnOk P w K mg base CX0 k fa fd ps (spD ⟨P, w, K⟩ 1 Ff)) (ht : ∀ ns : List Int, ns.length ≤ 63 → Ff [scrD ns] = some (.bool true)) :
    FnOk P w K mg base CX0 k fa fd ps (spLaw K) := F.imp fun vs H Q E q => by
  obtain ⟨a, ns, rfl, hs, hz, q⟩ := q
  refine ⟨rfl, H, [scrD ns], _, Same.refl _, .cons (.scr hs) .nil, ht ns hz, fun v G' H' w rv => ?_⟩
  cases rv
  exact q H'
theorem room65 {k : Nat} {A : Around} (r : Room k A) : A.units + 65 < cLine := by
  have := r.un
  omega
end DV
end

set_option Elab.async false
set_option linter.all false
set_option maxRecDepth 100000
/-! DVk: text.index, slices with a step, `in` a written tuple of the module. -/
noncomputable section
namespace DV
open PySem PySem.Spec PyProof.Rows L2
section
variable {X : Cx} {e : Expr} {pos p2 : Pos} {F Fo : FE} {L : FL}
/-! ### text.index -/
def indexF : D → List D → Option D
  | .str a, [.str b] => match Builtin.Str.occurrences a b 0 a.length 1 with
    | i :: _ => some (.int (i : Nat))
    | [] => none
  | _, _ => none
theorem f_index {o : Expr} {apos cpos : Pos} (ho : PB X o Fo) (ha : PAB X [e] L)
    (hbase : attributeBase o "index" X.env (eval o X.env) = eval o X.env := by rfl)
    (hfew : ((backTo cpos (starEach [e] X.env)).all (fun x => !x.1) && (backToKw cpos (keywordEach [] X.env)).all (fun x => x.1.isSome)
      && decide (([e] : List Expr).length + ([] : List Keyword).length + (if ([] : List Keyword).isEmpty then 0 else 1) < 30)) = true := by rfl)
    (hline : (apos.endLine == cpos.line) = true := by rfl) (hs : starEach [e] X.env = (false, eval e X.env) :: starEach [] X.env := by rfl) (hplain : (backTo cpos (starEach [] X.env)).any (·.1) = false := by rfl) :
    PF X (.Call (.Attribute o "index" apos) [e] [] cpos) (eMeth indexF Fo L) :=
  f_meth PySem.F.plainAttrs_str PySem.F.slot_str_index PySem.F.type_str_index mt_sindex (fun x ds d v vs G H Q k b bs sg q => by
    unfold indexF at k
    split at k
    · split at k
      · rename_i i rest hi
        cases k
        cases b.str'
        obtain ⟨u, rfl, b1⟩ := bs.one
        cases b1.str'
        exact ⟨_, _, i, rest, rfl, rfl, hi, q _ G H (Gw.refl sg) (.int _)⟩
      · cases k
    · cases k) (fun x ds d k G H v b sg => by
      unfold indexF at k
      split at k
      · cases b.str'; rfl
      · cases k) ho ha hbase hfew hline hs hplain

/-! ### a list's slice with a step -/
def pickD {α : Type} (xs : List α) (lo hi st : Option Int) : List α :=
  (sliceRange (sliceBounds lo hi st xs.length).1 (sliceBounds lo hi st xs.length).2.1 (sliceBounds lo hi st xs.length).2.2).filterMap (xs[·]?)
theorem pick_eq (vs : List Value) (lo hi st : Option Int) : slicePick vs.toArray lo hi st = (pickD vs lo hi st).toArray := by
  unfold slicePick pickD
  simp
theorem vals_pick {xs : List V} {vs : List Value} (r : Vals xs vs) : ∀ l : List Nat, Vals (l.filterMap (xs[·]?)) (l.filterMap (vs[·]?))
  | [] => .nil
  | i :: l => by
    have hl := r.length
    have ih := vals_pick r l
    cases hx : xs[i]? with
    | none =>
      have hv : vs[i]? = none := by
        rw [List.getElem?_eq_none_iff] at hx ⊢
        omega
      rw [List.filterMap_cons_none hx, List.filterMap_cons_none hv]
      exact ih
    | some x =>
      obtain ⟨v, hv, rv⟩ := r.get hx
      rw [List.filterMap_cons_some hx, List.filterMap_cons_some hv]
      exact .cons rv ih
theorem reps_pick {W : Wd} {G : Hp} {ds : List D} {xs : List V} (r : Reps W G ds xs) : ∀ l : List Nat, Reps W G (l.filterMap (ds[·]?)) (l.filterMap (xs[·]?))
  | [] => .nil
  | i :: l => by
    have hl := r.length
    have ih := reps_pick r l
    cases hx : ds[i]? with
    | none =>
      have hv : xs[i]? = none := by
        rw [List.getElem?_eq_none_iff] at hx ⊢
        omega
      rw [List.filterMap_cons_none hx, List.filterMap_cons_none hv]
      exact ih
    | some x =>
      obtain ⟨v, hv, rv⟩ := r.get hx
      rw [List.filterMap_cons_some hx, List.filterMap_cons_some hv]
      exact .cons rv ih
def tSlS (K : PySem.W.Frag) (te : TE) (tl th ts : TO) : TE := fun σ H Q => te σ H fun x H1 => tl σ H1 fun lo H2 => th σ H2 fun hi H3 => ts σ H3 fun st H4 => ∃ a xs, x = .ref a ∧ st ≠ some 0 ∧ SqL K H4 a xs ∧ ∀ p, H4 p = none → Q (.ref p) (upd H4 p (.lst (pickD xs lo hi st)))
theorem pe_slS {te : TE} {tl th ts : TO} {lo hi : Option Expr} {es : Expr} (he : PE X e te) (hl : PO X lo tl) (hu : PO X hi th) (hst : PO X (some es) ts) : PE X (.Subscript e (.Slice lo hi (some es) p2) pos) (tSlS X.K te tl th ts) := by
  refine ⟨fun pins s σ H Q I h => ?_⟩
  refine Subscript_ (thn (he.run pins s σ H _ I h) fun v s1 ⟨x, H1, I1, r1, q1⟩ => ?_)
  refine wpAny_Slice (thn (hl.run pins s1 σ H1 _ I1 q1) fun vl s2 ⟨l, H2, I2, pl, q2⟩ => thn (hu.run pins s2 σ H2 _ I2 q2) fun vu s3 ⟨u, H3, I3, pu, q3⟩ => thn (hst.run pins s3 σ H3 _ I3 q3) fun vs s4 ⟨o, H4, I4, ps, q4⟩ => ?_)
  obtain ⟨a, xs, ex, h0, hx, q⟩ := q4
  subst ex
  cases r1
  have I5 : Inv X pins σ H4 { s4 with heap := s4.heap.push { cls := .type "slice", data := .fields #[vl, vu, vs] } } := I4.kept (t' := s4.toks) fun b ob q => Heap.get?_push_of_some _ q
  obtain ⟨its, r, ht, hz⟩ := I5.list hx
  have hlen := r.length
  show wpAny (model X.prog X.w) X.A (subscriptTail e (.Slice lo hi (some es) p2) (.ref a) (.ref s4.heap.objs.size)) (EP X pins σ Q) X.xe { s4 with heap := s4.heap.push { cls := .type "slice", data := .fields #[vl, vu, vs] } }
  refine tail_any (ops := [.ref a, .ref s4.heap.objs.size]) ht.isList.typeIs (PySem.slot_list_getitem.lookup) ?_ (by with_unfolding_all rfl)
  refine wpAny_getItem_list_slice ht.isList (Heap.IsSliceOf.new _ vl vu vs) pl pu ps h0 ?_ (by rw [List.size_toArray]; omega)
  have hsz := slicePick_size_le its.toArray l u o
  rw [pick_eq] at hsz ⊢
  have rp : Vals (pickD xs l u o) (pickD its l u o) := by
    unfold pickD
    rw [hlen]
    exact vals_pick r _
  refine ⟨.ref _, _, I5.laid (t' := s4.toks) (o := .lst (pickD xs l u o)) (fun b ob q => Heap.get?_push_of_some _ q) (Nat.le_refl _) ?_, rfl, q _ (I5.hok.fresh (Nat.le_refl _))⟩
  refine ⟨?_, _, 0, rp, Heap.get?_push_size _ rfl⟩
  have := rp.length
  simp at hsz
  omega
theorem Reps.pick {W : Wd} {G : Hp} {ds : List D} {xs : List V} (r : Reps W G ds xs) (lo hi st : Option Int) : Reps W G (pickD ds lo hi st) (pickD xs lo hi st) := by
  unfold pickD
  rw [r.length]
  exact reps_pick r _
def slsD : D → Option Int → Option Int → Option Int → Option D
  | .list ds, lo, hi, st => if st = some 0 then none else some (.list (pickD ds lo hi st))
  | _, _, _, _ => none
def eSlS (a : FE) (lo hi st : FP) : FE := fun ρ => (a ρ).bind fun x => (lo ρ).bind fun l => (hi ρ).bind fun h => (st ρ).bind fun o => slsD x l h o
theorem f_slS {lo hi : Option Expr} {es : Expr} {L U S : FP} (he : PB X e F) (hl : POD X lo L) (hu : POD X hi U) (hs : POD X (some es) S) : PF X (.Subscript e (.Slice lo hi (some es) p2) pos) (eSlS F L U S) :=
  PE.weak (pe_slS he hl hu hs) fun σ H Q ⟨B, G, ρ, d, r, k, q⟩ => by
    obtain ⟨x, hx, k⟩ := Option.bind_eq_some_iff.mp k
    obtain ⟨l, hl, k⟩ := Option.bind_eq_some_iff.mp k
    obtain ⟨h, hh, k⟩ := Option.bind_eq_some_iff.mp k
    obtain ⟨o, ho, k⟩ := Option.bind_eq_some_iff.mp k
    refine ⟨B, G, ρ, x, r, hx, fun v G1 H1 w1 b1 => ⟨B, G1, ρ, l, r.step w1, hl, fun G2 H2 w2 => ⟨B, G2, ρ, h, (r.step w1).step w2, hh, fun G3 H3 w3 => ⟨B, G3, ρ, o, ((r.step w1).step w2).step w3, ho, fun G4 H4 w4 => ?_⟩⟩⟩⟩
    have b4 := ((b1.step w2).step w3).step w4
    have w := ((w1.trans w2).trans w3).trans w4
    have q' : ∀ z G' H', Gw G4 H4 G' H' → Rep X.wd G' d z → Q z H' := fun z G' H' w' rz => q z G' H' (w.trans w') rz
    unfold slsD at k
    split at k
    · split at k
      · cases k
      · rename_i h0
        cases k
        obtain ⟨a, xs, rfl, h1, r1⟩ := b4.lst' w4.gh
        exact ⟨_, _, rfl, h0, SqL.of h1, fin_lst w4.gh (r1.pick l h o) q'⟩
    · cases k

/-! ### in, not in: a written tuple of texts of the module -/
structure KTup (K : PySem.W.Frag) (mg : Str → Option Value) (x : Str) (ks : List Str) : Prop where
  ex : ∃ (t : Addr) (o : Obj) (its : Array Value) (n : Nat), mg x = some (.ref t) ∧ K.lookup t = some o ∧ o.cls = .type "tuple" ∧ o.data = .seq its n ∧ its.size ≤ sizeLine ∧ Vals (ks.map V.str) its.toList
def inC (ks : List Str) : D → Option D
  | .str z => some (.bool (decide (z ∈ ks)))
  | _ => none
def ninC (ks : List Str) : D → Option D
  | .str z => some (.bool (!decide (z ∈ ks)))
  | _ => none
theorem inV_strs (z : Str) (ks : List Str) : inV (.str z) (ks.map V.str) = decide (z ∈ ks) := by
  induction ks with
  | nil => rfl
  | cons k ks ih =>
    rw [List.map_cons]
    unfold inV at ih ⊢
    rw [List.any_cons, ih]
    show ((k == z) || decide (z ∈ ks)) = decide (z ∈ k :: ks)
    by_cases h : k = z
    · subst h; simp
    · have h' : ¬ z = k := fun e => h e.symm
      rw [beq_eq_false_iff_ne.mpr h]
      simp [h']
theorem f_ninG {x : Str} {ks : List Str} {a : Expr} {Fa : FE} {p : Pos} (ha : PB X a Fa) (T : KTup X.K X.mg x ks) (hg : Gl X x) (hd : (x == ("__debug__" : Str)) = false := by decide) (hm : behindInMarks .NotIn (.Name x p) = false := by with_unfolding_all rfl) :
    PF X (.Compare a [.NotIn] [.Name x p] pos) (o1 (ninC ks) Fa) := by
  obtain ⟨t, o, its, n, h1, h2, h3, h4, h5, h6⟩ := T.ex
  refine PE.weak (pe_cmpR op_notIn_seq ha (pe_glob (v := V.ref t) hg h1 rfl hd) hm) fun σ H Q ⟨B, G, ρ, d, r, k, q⟩ => ?_
  obtain ⟨y, hy, k⟩ := Option.bind_eq_some_iff.mp k
  refine ⟨B, G, ρ, y, r, hy, fun v G1 H1 w1 b1 => ?_⟩
  unfold ninC at k
  split at k
  · cases k
    cases b1.str'
    refine ⟨t, ks.map V.str, rfl, .inr (.inr ⟨o, its, n, h2, h3, h4, h5, h6⟩), rfl, ?_, ?_⟩
    · simp [flatV]
    · rw [inV_strs]
      exact q _ G1 H1 w1 (.bl _)
  · cases k
end
end DV
end

set_option Elab.async false
set_option linter.all false
set_option maxRecDepth 100000
/-! DVl: sorted(.., key=own def), the keys being pairs of an int and a text. -/
noncomputable section
namespace DV
open PySem PySem.Spec PyProof.Rows L2
/-! ### the order -/
def kLt (p q : Int × Str) : Bool := if p.1 = q.1 then decide (p.2.cps.toList < q.2.cps.toList) else decide (p.1 < q.1)
theorem cps_inj {a b : Str} (h : a.cps.toList = b.cps.toList) : a = b := by
  obtain ⟨a⟩ := a
  obtain ⟨b⟩ := b
  simp only at h
  rw [Array.toList_inj.mp h]
theorem lst_asym {a b : List Nat} (h : a < b) : ¬ b < a := fun z => absurd (List.lt_trans h z) (List.lt_irrefl a)
theorem lst_tri (a b : List Nat) : a < b ∨ a = b ∨ b < a := by
  by_cases h : a < b
  · exact .inl h
  · rcases (List.le_iff_lt_or_eq (l₁ := b) (l₂ := a)).mp (List.not_lt.mp h) with e | e
    · exact .inr (.inr e)
    · exact .inr (.inl e.symm)
theorem kLt_iff {p q : Int × Str} : kLt p q = true ↔ p.1 < q.1 ∨ (p.1 = q.1 ∧ p.2.cps.toList < q.2.cps.toList) := by
  unfold kLt
  by_cases h : p.1 = q.1
  · rw [if_pos h]
    simp only [decide_eq_true_eq]
    constructor
    · exact fun z => .inr ⟨h, z⟩
    · rintro (z | z)
      · omega
      · exact z.2
  · rw [if_neg h]
    simp only [decide_eq_true_eq]
    constructor
    · exact fun z => .inl z
    · rintro (z | z)
      · exact z
      · exact absurd z.1 h
theorem kLt_no {p q : Int × Str} : kLt p q = false ↔ q.1 < p.1 ∨ (p.1 = q.1 ∧ ¬ p.2.cps.toList < q.2.cps.toList) := by
  rw [← Bool.not_eq_true, kLt_iff]
  constructor
  · intro h
    by_cases e : p.1 = q.1
    · exact .inr ⟨e, fun z => h (.inr ⟨e, z⟩)⟩
    · refine .inl ?_
      have : ¬ p.1 < q.1 := fun z => h (.inl z)
      omega
  · rintro (z | z) (y | y)
    · omega
    · omega
    · omega
    · exact z.2 y.2
theorem kLt_swo {α : Type} (k : α → Int × Str) : SrtO.Swo (fun v u : α => kLt (k v) (k u)) := by
  refine ⟨fun x y h => ?_, fun x y z h1 h2 => ?_⟩
  · rcases kLt_iff.mp h with a | ⟨a, b⟩
    · exact kLt_no.mpr (.inl a)
    · exact kLt_no.mpr (.inr ⟨a.symm, lst_asym b⟩)
  · rcases kLt_no.mp h1 with a | ⟨a, a'⟩ <;> rcases kLt_no.mp h2 with b | ⟨b, b'⟩
    · exact kLt_no.mpr (.inl (by omega))
    · exact kLt_no.mpr (.inl (by omega))
    · exact kLt_no.mpr (.inl (by omega))
    · refine kLt_no.mpr (.inr ⟨b.trans a, ?_⟩)
      exact List.not_lt.mpr (List.le_trans (List.not_lt.mp a') (List.not_lt.mp b'))
theorem kLt_anti {p q : Int × Str} (h1 : kLt p q = false) (h2 : kLt q p = false) : p = q := by
  rcases kLt_no.mp h1 with a | ⟨a, a'⟩ <;> rcases kLt_no.mp h2 with b | ⟨b, b'⟩
  · omega
  · omega
  · omega
  · rcases lst_tri p.2.cps.toList q.2.cps.toList with e | e | e
    · exact absurd e a'
    · exact Prod.ext a (cps_inj e)
    · exact absurd e b'
/-! ### keys in the machine's heap -/
def IsKey (h : Heap) (v : Value) (p : Int × Str) : Prop := ∃ a o t u n, v = .ref a ∧ h.get? a = some o ∧ o.cls = .type "tuple" ∧ o.data = .seq #[.int p.1 t, .str p.2 u] n
theorem IsKey.uniq {h : Heap} {v : Value} {p q : Int × Str} (x : IsKey h v p) (y : IsKey h v q) : p = q := by
  obtain ⟨a, o, t, u, n, e, ho, _, hd⟩ := x
  obtain ⟨a', o', t', u', n', e', ho', _, hd'⟩ := y
  rw [e] at e'
  cases e'
  rw [ho] at ho'
  cases ho'
  rw [hd] at hd'
  cases p
  cases q
  cases hd'
  rfl
theorem IsKey.keeps {h h' : Heap} {v : Value} {p : Int × Str} (x : IsKey h v p) (k : ∀ b o, h.get? b = some o → o.cls = .type "tuple" → h'.get? b = some o) : IsKey h' v p := by
  obtain ⟨a, o, t, u, n, e, ho, hc, hd⟩ := x
  exact ⟨a, o, t, u, n, e, k _ _ ho hc, hc, hd⟩
section
variable {prog : Program} {w : World} {A : Around} {s : Shared}
theorem key_cmp {ks : List Value} {k : Value → Int × Str} (hp : ∀ v ∈ ks, IsKey s.heap v (k v)) : SrtO.Cmp prog w A s (tuples' true) (fun p => p.1 ∈ ks) (SrtO.lt2 fun v u => kLt (k v) (k u)) := by
  intro p q hm hm'
  have h1 := hp _ hm
  have h2 := hp _ hm'
  show wpAny (model prog w) A (keyLt' (tuples' true) p.1 q.1) (fun r s' => s' = s ∧ r = kLt (k p.1) (k q.1)) (fun _ _ => False) s
  unfold kLt
  generalize k p.1 = x at h1 ⊢
  generalize k q.1 = y at h2 ⊢
  obtain ⟨x, y'⟩ := x
  obtain ⟨x2, y2⟩ := y
  obtain ⟨a, o, t, u, n, e, ho, hc, hd⟩ := h1
  obtain ⟨a', o', t', u', n', e', ho', hc', hd'⟩ := h2
  rw [e, e']
  refine PySem.W.kat_lt ho hd ho' hd' ?_
  show PySem.W.KatLex prog w A true (decide (2 < 2)) _ [(.int x t, .int x2 t'), (.str y' u, .str y2 u')] 0 s
  refine PySem.W.kat_cons (SeqAt.EqAt.int_int x t x2 t' prog w _ _ ?_)
  refine PySem.W.kat_go (fun e1 => ?_) (fun e1 => ?_)
  · have ex : x = x2 := by simpa using e1
    refine PySem.W.kat_yes (PySem.W.kat_cons (SeqAt.EqAt.str_str y' u y2 u' prog w _ _ ?_))
    refine PySem.W.kat_go (fun e2 => ?_) (fun e2 => ?_)
    · have ey : y' = y2 := by simpa using e2
      have e3 : (if x = x2 then decide (y'.cps.toList < y2.cps.toList) else decide (x < x2)) = false := by
        rw [if_pos ex, ey]
        exact decide_eq_false (List.lt_irrefl _)
      exact PySem.W.kat_yes (PySem.W.kat_nil ⟨rfl, e3.symm⟩)
    · have e3 : (if x = x2 then decide (y'.cps.toList < y2.cps.toList) else decide (x < x2)) = decide (y'.cps.toList < y2.cps.toList) := if_pos ex
      refine PySem.W.kat_no (PySem.W.kat_one _ _ (lt_str ?_))
      exact (show s = s ∧ decide (y'.cps.toList < y2.cps.toList) = (if x = x2 then decide (y'.cps.toList < y2.cps.toList) else decide (x < x2)) from ⟨rfl, e3.symm⟩)
  · have ex : ¬ x = x2 := by simpa using e1
    have e3 : (if x = x2 then decide (y'.cps.toList < y2.cps.toList) else decide (x < x2)) = decide (x < x2) := if_neg ex
    exact PySem.W.kat_no (oneLt_int ⟨rfl, e3.symm⟩)
theorem key_firsts {h : Heap} : ∀ {vs : List Value}, (∀ v ∈ vs, ∃ p, IsKey h v p) → ∃ fs : List Value, PySem.W.KatTups h vs fs ∧ fs.length = vs.length ∧ ∀ f ∈ fs, ∃ x t, f = Value.int x t
  | [], _ => ⟨[], PySem.W.KatTups.nil, rfl, fun _ hm => by simp at hm⟩
  | v :: vs, hp => by
    obtain ⟨fs, h1, h2, h3⟩ := key_firsts (vs := vs) fun v' hm => hp v' (List.mem_cons_of_mem _ hm)
    obtain ⟨⟨x, y⟩, a, o, t, u, n, e, ho, hc, hd⟩ := hp v (List.mem_cons_self ..)
    subst e
    refine ⟨.int x t :: fs, PySem.W.KatTups.cons ho hc hd rfl h1, by rw [List.length_cons, List.length_cons, h2], fun f hm => ?_⟩
    rcases List.mem_cons.mp hm with rfl | hm
    · exact ⟨x, t, rfl⟩
    · exact h3 f hm
theorem key_kind {ks : List Value} {Q : SortKind → Shared → Prop} {E : Value → Shared → Prop} (h0 : 0 < ks.length) (hp : ∀ v ∈ ks, ∃ p, IsKey s.heap v p) (hq : Q (tuples' true) s) : wpAny (model prog w) A (keyKind' ks.toArray) Q E s := by
  obtain ⟨fs, h1, h2, h3⟩ := key_firsts hp
  refine PySem.W.kat_kind (T := .type "int") h1 (by omega) (fun f hm => ?_) (by rfl) ?_
  · obtain ⟨x, t, rfl⟩ := h3 f hm
    exact PySem.W.Looks.now
  · have e : (Value.type "int" != Value.type "tuple") = true := by first | decide +kernel | rfl | decide
    rw [e]
    exact hq
end
end DV
end

set_option Elab.async false
set_option linter.all false
set_option maxRecDepth 100000
set_option maxHeartbeats 4000000
/-! DVs: sorted(xs, key=own def) as a rule. -/
noncomputable section
namespace DV
open PySem PySem.Spec PyProof.Rows L2
/-! ### one sorted list -/
theorem srt_uniq {α : Type} {lt : α → α → Bool} : ∀ {l m : List α}, (∀ a ∈ l, ∀ b ∈ l, lt a b = false → lt b a = false → a = b) → l.Perm m → l.Pairwise (fun a b => lt b a = false) → m.Pairwise (fun a b => lt b a = false) → l = m
  | [], m, _, h, _, _ => (List.Perm.eq_nil h.symm).symm
  | x :: l, [], _, h, _, _ => absurd h.length_eq (by simp)
  | x :: l, y :: m, ha, h, h1, h2 => by
    have hy : y ∈ x :: l := h.mem_iff.mpr List.mem_cons_self
    have hx : x ∈ y :: m := h.mem_iff.mp List.mem_cons_self
    have e : x = y := by
      rcases List.mem_cons.mp hy with e | hy'
      · exact e.symm
      · rcases List.mem_cons.mp hx with e | hx'
        · exact e
        · exact ha x List.mem_cons_self y hy ((List.pairwise_cons.mp h2).1 x hx') ((List.pairwise_cons.mp h1).1 y hy')
    subst e
    rw [srt_uniq (fun a h3 b h4 => ha a (List.mem_cons_of_mem _ h3) b (List.mem_cons_of_mem _ h4)) h.cons_inv (List.pairwise_cons.mp h1).2 (List.pairwise_cons.mp h2).2]
/-! ### what it gives -/
def kpar : D → Option (Int × Str)
  | .tuple [.int n, .str z] => some (n, z)
  | _ => none
def kD (p : Int × Str) : D := .tuple [.int p.1, .str p.2]
theorem kpar_some {d : D} {p : Int × Str} (h : kpar d = some p) : d = kD p := by
  unfold kpar at h
  split at h
  · cases h; rfl
  · cases h
def keyO (Ff : List D → Option D) (d : D) : Int × Str := (((Ff [d]).bind kpar).getD (0, Str.empty))
section
local instance (priority := 1000000) cds1 (p : Prop) : Decidable p := Classical.propDecidable p
def sortKF (Ff : List D → Option D) : D → Option D
  | .list ds => if (∀ d ∈ ds, Ff [d] = some (kD (keyO Ff d))) ∧ (∀ a ∈ ds, ∀ b ∈ ds, keyO Ff a = keyO Ff b → a = b) then some (.list (ds.mergeSort fun a b => !kLt (keyO Ff b) (keyO Ff a))) else none
  | _ => none
end
theorem sortKF_some {Ff : List D → Option D} {ds : List D} {out : D} (h : sortKF Ff (.list ds) = some out) : (∀ d ∈ ds, Ff [d] = some (kD (keyO Ff d))) ∧ (∀ a ∈ ds, ∀ b ∈ ds, keyO Ff a = keyO Ff b → a = b) ∧ out = .list (ds.mergeSort fun a b => !kLt (keyO Ff b) (keyO Ff a)) := by
  simp only [sortKF] at h
  split at h
  · rename_i hc
    cases h
    exact ⟨hc.1, hc.2, rfl⟩
  · cases h
theorem sortK_spec {Ff : List D → Option D} {ds l : List D} (hi : ∀ a ∈ ds, ∀ b ∈ ds, keyO Ff a = keyO Ff b → a = b) (hp : l.Perm ds) (hs : l.Pairwise fun a b => kLt (keyO Ff b) (keyO Ff a) = false) : (ds.mergeSort fun a b => !kLt (keyO Ff b) (keyO Ff a)) = l := by
  have O := kLt_swo (keyO Ff)
  have h1 := List.pairwise_mergeSort (le := fun a b => !kLt (keyO Ff b) (keyO Ff a)) (fun a b c x y => by
    simp only [Bool.not_eq_true'] at x y ⊢
    exact O.tr a b c x y) (fun a b => by
    cases e : kLt (keyO Ff b) (keyO Ff a) with
    | false => simp
    | true =>
      have e' : kLt (keyO Ff a) (keyO Ff b) = false := O.asym b a e
      simp [e']) ds
  have h2 := List.mergeSort_perm ds (fun a b => !kLt (keyO Ff b) (keyO Ff a))
  refine (srt_uniq (lt := fun a b => kLt (keyO Ff a) (keyO Ff b)) (fun a ha b hb x y => ?_) (hp.trans h2.symm) hs (h1.imp fun z => by simpa using z)).symm
  exact hi a (hp.mem_iff.mp ha) b (hp.mem_iff.mp hb) (kLt_anti x y)
section
variable {X : Cx} {k : Nat} {f : Addr} {fd : FuncData} {ps : List Str} {Ff : List D → Option D} {pins : List (Addr × Obj)} {σ : L2.St} {G H : Hp} {s : Shared}
/-- the def called from within a built-in -/
theorem call_in {A' : Around} {E : Value → Shared → Prop} {d kd : D} {xv : V} {u : Value} (F : FnOk X.prog X.w X.K X.mg X.base CX0 k f fd ps (spD X.wd ps.length Ff)) (hb : Binds X.K fd ps []) (hl : ∀ ds d, Ff ds = some d → ds.length = ps.length) (hr : Room k A')
    (he : Env0 X.prog X.w X.K X.mg X.base A' X.stack s H) (I : L2.Inv X pins σ H s) (sg : Same G H) (r : Rep X.wd G d xv) (ru : RelV xv u) (hk : Ff [d] = some kd) :
    wpAny (model X.prog X.w) A' (call (.ref f) [u]) (fun u' s' => ∃ kv G' H', L2.Inv X pins σ H' s' ∧ DV.Gw G H G' H' ∧ Rep X.wd G' kd kv ∧ RelV kv u') E s := by
  have hlen : ([u] ++ ([] : List Value)).length = ps.length := by
    have := hl _ _ hk
    simpa using this
  have hlen2 : [xv].length = ps.length := by
    have := hl _ _ hk
    simpa using this
  refine wpAny_call (codeAny_mono (F.run A' X.stack s H ⟨[u], []⟩ ([u] ++ []) [xv] (fun v H' => ∃ G', DV.Gw G H G' H' ∧ Rep X.wd G' kd v) (fun _ _ _ => False) hr he (hb s [u] I.kIn hlen) (.cons ru .nil)
    ⟨hlen2, G, [d], kd, sg, .cons r .nil, hk, fun v G' H' w rz => ⟨G', w, rz⟩⟩) fun r s' hq => ?_)
  cases r with
  | error e => exact hq.elim
  | ok fl =>
    cases fl with
    | ret u' =>
      obtain ⟨v, H', I', rv, G', w, rz⟩ := I.after hq
      exact ⟨v, G', H', I', w, rz, rv⟩
    | next => exact False.elim hq
    | brk => exact False.elim hq
    | cont => exact False.elim hq
theorem keys_of {h : Heap} {W : Wd} {key : D → Int × Str} {P : Program} {w : World} (sg : Same G H) (hok : HOk P w H h) : ∀ {ds : List D} {ks : List V} {kl : List Value}, Reps W G (ds.map fun d => kD (key d)) ks → Vals ks kl → Paired (fun d v => IsKey h v (key d)) ds kl
  | [], _, _, r, rv => by
    cases r
    cases rv
    exact .nil
  | d :: ds, _, _, r, rv => by
    cases r with
    | cons r1 r2 =>
      cases rv with
      | cons v1 v2 =>
        refine .cons ?_ (keys_of sg hok r2 v2)
        cases r1 with
        | tup h1 h2 =>
          cases h2 with
          | cons a1 a2 =>
            cases a1
            cases a2 with
            | cons b1 b2 =>
              cases b1
              cases b2
              cases v1
              obtain ⟨_, its2, r2, o, ho, hc, n, hd⟩ := hok _ _ (sg _ _ h1)
              obtain ⟨u1, u2, rfl, ri, rj⟩ := vals2 r2
              obtain ⟨t1, rfl⟩ := ri
              obtain ⟨t2, rfl⟩ := rj
              exact ⟨_, o, t1, t2, n, rfl, ho, hc, hd⟩
theorem quads {h : Heap} {W : Wd} {key : D → Int × Str} : ∀ {ds : List D} {xs : List V} {its kl : List Value}, Reps W G ds xs → Vals xs its → Paired (fun d v => IsKey h v (key d)) ds kl →
    ∃ L : List (D × V × Value × Value), L.map (·.1) = ds ∧ L.map (fun t => (t.2.2.2, t.2.2.1)) = kl.zip its ∧ ∀ t ∈ L, Rep W G t.1 t.2.1 ∧ RelV t.2.1 t.2.2.1 ∧ IsKey h t.2.2.2 (key t.1)
  | [], _, _, _, r, rv, pk => by
    cases r
    cases rv
    cases pk
    exact ⟨[], rfl, rfl, fun t ht => by cases ht⟩
  | d :: ds, _, _, _, r, rv, pk => by
    cases r with
    | cons r1 r2 =>
      rename_i x xs
      cases rv with
      | cons v1 v2 =>
        rename_i i its
        cases pk with
        | cons p1 p2 =>
          rename_i kv kl
          obtain ⟨L, e1, e2, e3⟩ := quads r2 v2 p2
          refine ⟨(d, x, i, kv) :: L, by rw [List.map_cons, e1], by rw [List.map_cons, e2]; rfl, fun t ht => ?_⟩
          rcases List.mem_cons.mp ht with rfl | ht
          · exact ⟨r1, v1, p1⟩
          · exact e3 t ht
end
end DV
end

set_option Elab.async false
set_option linter.all false
set_option maxRecDepth 100000
set_option maxHeartbeats 4000000
/-! DVt: the run of sorted(xs, key=own def). -/
noncomputable section
namespace DV
open PySem PySem.Spec PyProof.Rows L2
section
variable {X : Cx} {k : Nat} {f : Addr} {fd : FuncData} {ps : List Str} {Ff : List D → Option D} {pins : List (Addr × Obj)} {σ : L2.St} {G H : Hp} {s : Shared}
/-- behind the keys: the order is made, the list is filled -/
theorem end_run {E : Value → Shared → Prop} {P : PySem.Fin → Shared → Prop} {A' : Around} {ds : List D} {xs : List V} {its : List Value} {ks : List V} {kA : Array Value} {e e1 : Nat} {a kS : Addr} {out : D} {Q : VK}
    (I : L2.Inv X (pins ++ [(kS, seqObj "list" kA e), (a, seqObj "list" #[] e1)]) σ H s) (sg : Same G H) (r : Reps X.wd G ds xs) (rv : Vals xs its) (hz : its.length ≤ sizeLine)
    (hka : kS ≠ a) (fk : FpOk X pins H kS) (fa : FpOk X pins H a) (rk : Reps X.wd G (ds.map fun d => kD (keyO Ff d)) ks) (vk : Vals ks kA.toList) (hs : sortKF Ff (.list ds) = some out)
    (q : ∀ z G' H', DV.Gw G H G' H' → Rep X.wd G' out z → Q z H') (hP : ∀ s', EP X pins σ Q (.ref a) s' → P (.done (.ret .none)) s') :
    wpAny (model X.prog X.w) A' (ksk_end a false its.toArray e1 (.ref kS) kA) P E s := by
  have nk := (I.pin (kS, seqObj "list" kA e) (by simp)).1
  have na := (I.pin (a, seqObj "list" #[] e1) (by simp)).1
  have pk := keys_of (key := keyO Ff) sg I.hok rk vk
  obtain ⟨L, l1, l2, l3⟩ := quads r rv pk
  have hkl : kA.toList.length = its.length := by
    have h1 := vk.length
    have h2 := rk.length
    have h3 := r.length
    have h4 := rv.length
    simp at h2
    simp at h1 ⊢
    omega
  have hks : ∀ v ∈ kA.toList, ∃ p, IsKey s.heap v p := fun v hv => by
    obtain ⟨i, hi, e⟩ := List.getElem_of_mem hv
    have : (v, its[i]'(by omega)) ∈ L.map (fun t => (t.2.2.2, t.2.2.1)) := by
      rw [l2]
      have : (kA.toList.zip its)[i]'(by simp; simp at hi hkl; omega) = (v, its[i]'(by omega)) := by
        rw [List.getElem_zip, e]
      rw [← this]
      exact List.getElem_mem _
    obtain ⟨t, ht, et⟩ := List.mem_map.mp this
    obtain ⟨_, _, z⟩ := l3 t ht
    have et1 : t.2.2.2 = v := congrArg Prod.fst et
    rw [et1] at z
    exact ⟨_, z⟩
  haveI : Nonempty (Int × Str) := ⟨(0, Str.empty)⟩
  let kf : Value → Int × Str := fun v => Classical.epsilon fun p => IsKey s.heap v p
  have kf_eq : ∀ {v p}, IsKey s.heap v p → kf v = p := fun {v p} z => IsKey.uniq (Classical.epsilon_spec (p := fun p => IsKey s.heap v p) ⟨p, z⟩) z
  have hks' : ∀ v ∈ kA.toList, IsKey s.heap v (kf v) := fun v hv => by
    obtain ⟨p, z⟩ := hks v hv
    rw [kf_eq z]
    exact z
  have O : SrtO.Swo (SrtO.lt2 fun v u => kLt (kf v) (kf u)) := SrtO.swo2 (kLt_swo kf)
  have hzip : (kA.zip its.toArray).toList = kA.toList.zip its := ksk_zip kA its
  have hsz : kA.size = its.length := by simpa using hkl
  -- the end, whatever the sort's state
  have fin : ∀ st : SortSt, SrtO.Srtd (SrtO.lt2 fun v u => kLt (kf v) (kf u)) (arrOf st).toList → (arrOf st).toList.Perm (kA.zip its.toArray).toList → failedOf st = none →
      wpAny (model X.prog X.w) A' (ksk_tail a false e1 (.ref kS) st) P E s := fun st hs1 hs2 hfl => by
    rw [hzip, ← l2] at hs2
    obtain ⟨L', p1, p2⟩ := perm_lift (fun t : D × V × Value × Value => (t.2.2.2, t.2.2.1)) hs2 L rfl
    have l3' : ∀ t ∈ L', Rep X.wd G t.1 t.2.1 ∧ RelV t.2.1 t.2.2.1 ∧ IsKey s.heap t.2.2.2 (keyO Ff t.1) := fun t ht => l3 t (p1.mem_iff.mp ht)
    have eout : ((arrOf st).map (·.2)).toList = L'.map (·.2.2.1) := by
      rw [Array.toList_map, ← p2, List.map_map]
      rfl
    have elen : L'.length = its.length := by
      have h1 := p1.length_eq
      have h2 := congrArg List.length l1
      have h3 := r.length
      have h4 := rv.length
      simp at h2
      omega
    have rp : ∀ M : List (D × V × Value × Value), (∀ t ∈ M, Rep X.wd G t.1 t.2.1 ∧ RelV t.2.1 t.2.2.1 ∧ IsKey s.heap t.2.2.2 (keyO Ff t.1)) → Reps X.wd G (M.map (·.1)) (M.map (·.2.1)) ∧ Vals (M.map (·.2.1)) (M.map (·.2.2.1)) := by
      intro M
      induction M with
      | nil => exact fun _ => ⟨.nil, .nil⟩
      | cons t M ih =>
        intro h
        obtain ⟨h1, h2⟩ := ih fun t ht => h t (List.mem_cons_of_mem _ ht)
        obtain ⟨g1, g2, _⟩ := h t List.mem_cons_self
        exact ⟨.cons g1 h1, .cons g2 h2⟩
    obtain ⟨rr, rvv⟩ := rp L' l3'
    have eo : out = .list (L'.map (·.1)) := by
      obtain ⟨_, hc2, rfl⟩ := sortKF_some hs
      rw [sortK_spec hc2 (l := L'.map (·.1)) (by rw [← l1]; exact p1.map _) ?_]
      rw [List.pairwise_map]
      rw [← p2] at hs1
      have hs1' := List.pairwise_map.mp hs1
      refine List.Pairwise.imp_of_mem (fun {x y} hx hy z => ?_) hs1'
      have z' : kLt (kf y.2.2.2) (kf x.2.2.2) = false := z
      rw [kf_eq (l3' y hy).2.2, kf_eq (l3' x hx).2.2] at z'
      exact z'
    have s1 := Heap.SameBut.update s.heap kS (Obj.mapSeq fun _ => (#[] : Array Value))
    have na1 : (s.heap.update kS (Obj.mapSeq fun _ => (#[] : Array Value))).get? a = some (seqObj "list" #[] e1) := (s1.2 a hka.symm).trans na
    have s2 := Heap.SameBut.update (s.heap.update kS (Obj.mapSeq fun _ => (#[] : Array Value))) a (Obj.mapSeq fun _ => (arrOf st).map (·.2))
    obtain ⟨c2, hc2⟩ : ∃ c2, ((s.heap.update kS (Obj.mapSeq fun _ => (#[] : Array Value))).update a (Obj.mapSeq fun _ => (arrOf st).map (·.2))).get? a = some (seqObj "list" ((arrOf st).map (·.2)) c2) :=
      ⟨_, get?_update_seq na1 fun _ => (arrOf st).map (·.2)⟩
    have hout : ((arrOf st).map (·.2)).size = its.length := by
      have := congrArg List.length eout
      simp at this
      simp
      omega
    unfold ksk_tail
    try dsimp only
    refine wpAny_bind (listUpdate_at nk rfl ?_ (by rw [hsz]; exact hz) (Nat.zero_le _))
    refine wpAny_bind (wpAny_letGo ?_)
    refine wpAny_bind (seqEpoch_at na1 rfl ?_)
    refine wpAny_bind (listUpdate_at na1 rfl ?_ (Nat.zero_le _) (Nat.le_trans (Nat.le_of_eq hout) (Nat.le_succ_of_le hz)))
    rw [hfl]
    simp only [bne_self_eq_false, Bool.false_eq_true, if_false]
    refine wpAny_pure (hP _ ?_)
    have I1 : L2.Inv X pins σ H s := I.unpinned
    have I2 : L2.Inv X pins σ H { s with heap := s.heap.update kS (Obj.mapSeq fun _ => (#[] : Array Value)) } := I1.turned (t' := s.toks) (it := kS) (fun b o hb ho => (s1.2 b hb).trans ho) fk.1 fk.2.1 fk.2.2.2.1 fk.2.2.2.2.1 fk.2.2.2.2.2
    have I3 := I2.take (t' := s.toks) (it := a) (o := .lst (L'.map (·.2.1))) (fun b ob hb ho => (s2.2 b hb).trans ho) fa ⟨by simpa [elen] using hz, L'.map (·.2.2.1), c2, rvv, by
      rw [← eout]
      exact hc2⟩
    refine ⟨.ref a, _, I3, rfl, ?_⟩
    refine fin_lst sg rr (fun z G' H' w rz => q z G' H' w (by rw [eo]; exact rz)) a fa.1
  unfold ksk_end
  try dsimp only
  simp only [Bool.false_eq_true, if_false]
  by_cases h2 : its.toArray.size < 2
  · rw [if_pos h2, if_pos h2]
    refine wpAny_bind (wpAny_pure ?_)
    rw [StateT.run_pure]
    refine wpAny_bind (wpAny_pure ?_)
    try dsimp only
    refine fin (SortSt.mk' general' (kA.zip its.toArray) #[] 7 none) ?_ (List.Perm.refl _) rfl
    show SrtO.Srtd _ (kA.zip its.toArray).toList
    have : (kA.zip its.toArray).toList.length < 2 := by
      rw [List.size_toArray] at h2
      rw [hzip, List.length_zip]
      omega
    match (kA.zip its.toArray).toList, this with
    | [], _ => exact List.Pairwise.nil
    | [v], _ => exact List.pairwise_singleton _ _
    | _ :: _ :: l, h => exact absurd h (by rw [List.length_cons, List.length_cons]; omega)
  · rw [if_neg h2, if_neg h2]
    rw [List.size_toArray] at h2
    have hk0 : 0 < kA.toList.length := by omega
    have hkk : ∀ (Q : SortKind → Shared → Prop) (E : Value → Shared → Prop), Q (tuples' true) s → wpAny (model X.prog X.w) A' (keyKind' kA) Q E s := fun Q E hq => by
      have := key_kind (prog := X.prog) (w := X.w) (A := A') (E := E) hk0 hks hq
      simpa using this
    refine wpAny_bind (hkk _ _ ?_)
    refine wpAny_bind (wpAny_mono (SrtO.wpS_sortO (st0 := SortSt.mk' (tuples' true) (kA.zip its.toArray) #[] 7 none)
      (Q := fun _ st' => SrtO.Srtd (SrtO.lt2 fun v u => kLt (kf v) (kf u)) (arrOf st').toList ∧ (arrOf st').toList.Perm (kA.zip its.toArray).toList ∧ failedOf st' = none) O (key_cmp hks') rfl (fun p hm => ?_) rfl rfl fun st' a1 a2 a3 => ⟨a1, a2.perm, a3⟩) ?_ fun _ _ e => e)
    · have hm' : p ∈ kA.toList.zip its := by rw [← hzip]; exact hm
      exact (List.of_mem_zip (a := p.1) (b := p.2) hm').1
    · rintro ⟨⟨⟩, st'⟩ s' ⟨rfl, hp1, hp2, hf⟩
      try dsimp only
      exact fin st' hp1 hp2 hf
end
end DV
end

set_option Elab.async false
set_option linter.all false
set_option maxRecDepth 100000
set_option maxHeartbeats 4000000
/-! DVu: sorted(xs, key=own def), the rule. -/
noncomputable section
namespace DV
open PySem PySem.Spec PyProof.Rows L2
section
variable {X : Cx} {k : Nat} {f : Addr} {fd : FuncData} {ps : List Str} {Ff : List D → Option D} {pins : List (Addr × Obj)} {σ : L2.St} {G H : Hp} {s : Shared}
theorem sort_in {A' : Around} {E : Value → Shared → Prop} {P : PySem.Fin → Shared → Prop} {ds : List D} {xs : List V} {its : List Value} {a : Addr} {n : Nat} {out : D} {Q : VK}
    (F : FnOk X.prog X.w X.K X.mg X.base CX0 k f fd ps (spD X.wd ps.length Ff)) (hb : Binds X.K fd ps []) (hl : ∀ ds d, Ff ds = some d → ds.length = ps.length) (hr : Room k A')
    (he : ∀ s' H', Env0 X.prog X.w X.K X.mg X.base X.A X.stack s' H' → Env0 X.prog X.w X.K X.mg X.base A' X.stack s' H')
    (I : L2.Inv X pins σ H s) (sg : Same G H) (r : Reps X.wd G ds xs) (rv : Vals xs its) (hz : its.length ≤ sizeLine) {h1 : Heap} (kp : ∀ b o, s.heap.get? b = some o → h1.get? b = some o) (ha : s.heap.objs.size ≤ a)
    (ho : h1.get? a = some (seqObj "list" its.toArray n)) (hs : sortKF Ff (.list ds) = some out)
    (q : ∀ z G' H', DV.Gw G H G' H' → Rep X.wd G' out z → Q z H') (hP : ∀ s', EP X pins σ Q (.ref a) s' → P (.done (.ret .none)) s') :
    wpAny (model X.prog X.w) A' (Builtin.«list.sort» ⟨[.ref a], [(Str.ofString "key", .ref f)]⟩) P E { s with heap := h1 } := by
  obtain ⟨hc1, hc2, eout⟩ := sortKF_some hs
  rw [ksk_t1]
  have ha1 : a < h1.objs.size := Heap.lt_size ho
  have s1 := Heap.SameBut.update h1 a (Obj.mapSeq fun _ => (#[] : Array Value))
  obtain ⟨e1, ho1⟩ : ∃ e1, (h1.update a (Obj.mapSeq fun _ => (#[] : Array Value))).get? a = some (seqObj "list" #[] e1) := ⟨_, get?_update_seq ho fun _ => #[]⟩
  have hkS : ((h1.update a (Obj.mapSeq fun _ => (#[] : Array Value))).push (seqObj "tuple" its.toArray 0)).objs.size = h1.objs.size + 1 := by rw [size_push', Heap.size_update]
  have hsz1 : s.heap.objs.size ≤ h1.objs.size := Nat.le_trans ha (Nat.le_of_lt ha1)
  unfold ksk_tree
  refine wpAny_bind (listItems_at ho rfl ?_)
  refine wpAny_bind (listUpdate_at ho rfl ?_ (by rw [List.size_toArray]; exact hz) (Nat.zero_le _))
  refine wpAny_bind (seqEpoch_at ho1 rfl ?_)
  refine wpAny_bind (wpAny_newTuple ?_ (by show its.length ≤ _; exact hz))
  refine wpAny_bind (wpAny_newList ?_ (Nat.zero_le _))
  refine wpAny_holding ?_
  -- the heap in which the keys are asked for
  let hB : Heap := ((h1.update a (Obj.mapSeq fun _ => (#[] : Array Value))).push (seqObj "tuple" its.toArray 0)).push (seqObj "list" #[] 0)
  let kS : Addr := ((h1.update a (Obj.mapSeq fun _ => (#[] : Array Value))).push (seqObj "tuple" its.toArray 0)).objs.size
  have kpB : ∀ b o, s.heap.get? b = some o → hB.get? b = some o := fun b o z => by
    have hb : b ≠ a := Nat.ne_of_lt (Nat.lt_of_lt_of_le (Heap.lt_size z) ha)
    exact Heap.get?_push_of_some _ (Heap.get?_push_of_some _ ((s1.2 b hb).trans (kp b o z)))
  have hoB : hB.get? a = some (seqObj "list" #[] e1) := Heap.get?_push_of_some _ (Heap.get?_push_of_some _ ho1)
  have hkB : hB.get? kS = some (seqObj "list" #[] 0) := Heap.get?_push_size _ rfl
  have hkge : s.heap.objs.size ≤ kS := by
    show _ ≤ ((h1.update a (Obj.mapSeq fun _ => (#[] : Array Value))).push (seqObj "tuple" its.toArray 0)).objs.size
    rw [hkS]; omega
  have hka : kS ≠ a := by
    show ((h1.update a (Obj.mapSeq fun _ => (#[] : Array Value))).push (seqObj "tuple" its.toArray 0)).objs.size ≠ a
    rw [hkS]
    exact Nat.ne_of_gt (Nat.lt_succ_of_lt ha1)
  have IB0 : L2.Inv X pins σ H { s with heap := hB } := I.kept (t' := s.toks) kpB
  have nl : ∀ b, s.heap.objs.size ≤ b → H b = none ∧ b ≠ X.env.locals ∧ b ∉ X.fs := fun b hb' => ⟨I.hok.fresh hb', Nat.ne_of_gt (Nat.lt_of_lt_of_le I.lt hb'), I.nofs hb'⟩
  have fk0 : FpOk X pins H kS := I.fpOk hkge (nl kS hkge).1
  have fa0 : FpOk X pins H a := I.fpOk ha (nl a ha).1
  have repin : ∀ {H' : Hp} {s' : Shared} {kA : Array Value} {e : Nat}, L2.Inv X pins σ H' s' → s'.heap.get? kS = some (seqObj "list" kA e) → s'.heap.get? a = some (seqObj "list" #[] e1) → H' kS = none → H' a = none → L2.Inv X (pins ++ [(kS, seqObj "list" kA e), (a, seqObj "list" #[] e1)]) σ H' s' := fun {H' s' kA e} I' g1 g2 n1 n2 => I'.pins_of fun p hp => by
    rcases List.mem_append.mp hp with hp | hp
    · exact I'.pin p (List.mem_append_right _ hp)
    · rcases List.mem_cons.mp hp with rfl | hp
      · exact ⟨g1, n1, (nl kS hkge).2.1, (nl kS hkge).2.2, fun v z => by cases z⟩
      · rw [List.mem_singleton.mp hp]
        exact ⟨g2, n2, (nl a ha).2.1, (nl a ha).2.2, fun v z => by cases z⟩
  have fp' : ∀ {H' : Hp} {b : Addr}, FpOk X pins H b → H' b = none → FpOk X pins H' b := fun {H' b} z n => ⟨n, z.2⟩
  show wpAny (model X.prog X.w) A' (ksk_rest a (.ref f) false its.toArray e1 (.ref kS)) P E { s with heap := hB }
  unfold ksk_rest
  refine wpAny_bind (wpAny_rule ?_)
  first
    | rw [List.forIn_toArray]
    | (rw [← Array.forIn_toList]; simp only [List.toList_toArray])
    | rw [← Array.forIn_toList]
  refine wpAny_bind (ksk_fold (fun i s' => ∃ G' H' kA e ks, L2.Inv X (pins ++ [(kS, seqObj "list" kA e), (a, seqObj "list" #[] e1)]) σ H' s' ∧ DV.Gw G H G' H' ∧ Reps X.wd G' ((ds.take i).map fun d => kD (keyO Ff d)) ks ∧ Vals ks kA.toList) its 0 _
    ⟨G, H, #[], 0, [], repin IB0 hkB hoB (nl kS hkge).1 (nl a ha).1, DV.Gw.refl sg, .nil, .nil⟩ ?step ?done)
  case step =>
    rintro j u s' hu ⟨G', H', kA, e, ks, I', gw, rk, vk⟩
    simp only [Nat.zero_add] at rk ⊢
    have hj : j < its.length := (List.getElem?_eq_some_iff.mp hu).1
    have hjd : j < ds.length := by rw [r.length, rv.length]; exact hj
    obtain ⟨xv, hx, rx⟩ := r.get (List.getElem?_eq_getElem hjd)
    obtain ⟨u', hu', ru⟩ := rv.get hx
    rw [hu] at hu'
    cases hu'
    have hkA : kA.size ≤ j := by
      have h1 := vk.length
      have h2 := rk.length
      simp at h1 h2
      omega
    refine wpAny_bind (wpAny_attempt (wpAny_mono (call_in (E := fun _ _ => False) F hb hl hr (he s' H' I'.env0) I' gw.gh (rx.mono gw.g) ru (hc1 _ (List.getElem_mem hjd))) (fun v s'' hv => ?_) fun _ _ hF => hF.elim))
    obtain ⟨kv, G2, H2, I2, gw2, rk2, rv2⟩ := hv
    try dsimp only
    have nk := I2.pin (kS, seqObj "list" kA e) (by simp)
    have na := I2.pin (a, seqObj "list" #[] e1) (by simp)
    have t1 := Heap.SameBut.update s''.heap kS (Obj.mapSeq (·.push v))
    obtain ⟨c2, hc2'⟩ : ∃ c2, (s''.heap.update kS (Obj.mapSeq (·.push v))).get? kS = some (seqObj "list" (kA.push v) c2) := ⟨_, get?_update_seq nk.1 (·.push v)⟩
    have ea : (kA.push v).toList = kA.toList ++ [v] := by simp
    have ed : (ds.take (j + 1)).map (fun d => kD (keyO Ff d)) = (ds.take j).map (fun d => kD (keyO Ff d)) ++ [kD (keyO Ff ds[j])] := by
      rw [List.take_add_one, List.getElem?_eq_getElem hjd, List.map_append]
      rfl
    refine wpAny_bind (listUpdate_at nk.1 rfl ?_ (by omega) (Nat.le_trans (Nat.le_of_eq (Array.size_push ..)) (by omega)))
    have I3 : L2.Inv X pins σ H2 { s'' with heap := s''.heap.update kS (Obj.mapSeq (·.push v)) } := I2.unpinned.turned (t' := s''.toks) (it := kS) (fun b o hb ho => (t1.2 b hb).trans ho) nk.2.1 fk0.2.1 fk0.2.2.2.1 fk0.2.2.2.2.1 fk0.2.2.2.2.2
    refine wpAny_pure ⟨rfl, G2, H2, kA.push v, c2, ks ++ [kv], repin I3 hc2' ((t1.2 a hka.symm).trans na.1) nk.2.1 na.2.1, gw.trans gw2, ?_, ?_⟩
    · rw [ed]
      exact (rk.mono gw2.g).snoc rk2
    · rw [ea]
      exact vk.append (.cons rv2 .nil)
  case done =>
    rintro s' ⟨G', H', kA, e, ks, I', gw, rk, vk⟩
    rw [List.take_of_length_le (by rw [r.length, rv.length]; omega)] at rk
    have nk := I'.pin (kS, seqObj "list" kA e) (by simp)
    have na := I'.pin (a, seqObj "list" #[] e1) (by simp)
    try dsimp only
    refine wpAny_bind (listItems_at nk.1 rfl ?_)
    exact end_run I' gw.gh (r.mono gw.g) rv hz hka (fp' fk0 nk.2.1) (fp' fa0 na.2.1) rk vk hs (fun z G2 H2 w rz => q z G2 H2 (gw.trans w) rz) hP
end
end DV
end

set_option Elab.async false
set_option linter.all false
set_option maxRecDepth 100000
set_option maxHeartbeats 4000000
/-! DVv: sorted(xs, key=own def) as a rule of data. -/
noncomputable section
namespace DV
open PySem PySem.Spec PyProof.Rows L2
def rSortK (W : Wd) (f : Addr) (Ff : List D → Option D) : List V → List V → Hp → VK → Prop := fun vs zs H Q => ∃ (la : V) (G : Hp) (d out : D), vs = [la] ∧ zs = [V.ref f] ∧ Same G H ∧ Bor W G H d la ∧ sortKF Ff d = some out ∧ ∀ z G' H', DV.Gw G H G' H' → Rep W G' out z → Q z H'
section
variable {X : Cx} {k : Nat} {f : Addr} {fd : FuncData} {ps : List Str} {Ff : List D → Option D}
theorem cr_sortK (F : FnOk X.prog X.w X.K X.mg X.base CX0 k f fd ps (spD X.wd ps.length Ff)) (hb : Binds X.K fd ps []) (hl : ∀ ds d, Ff ds = some d → ds.length = ps.length) (hr : Room (k + 2) X.A) :
    CallRK X (.builtin "sorted") [Str.ofString "key"] (rSortK X.wd f Ff) := by
  intro pins s σ H vs zs us ws Q I rv rz h
  obtain ⟨la, G, d, out, rfl, rfl, sg, b, hs, q⟩ := h
  obtain ⟨ds, rfl⟩ : ∃ ds, d = .list ds := by
    unfold sortKF at hs
    split at hs
    · exact ⟨_, rfl⟩
    · cases hs
  obtain ⟨l, xs, rfl, h1, r1⟩ := b.lst' sg
  obtain rfl := Vals.ref1 rv
  obtain ⟨w1, rfl, e1⟩ := vals1 rz
  obtain rfl : w1 = Value.ref f := e1
  obtain ⟨its, ri, hl', hz⟩ := I.list (SqL.of h1)
  have hz' : its.length ≤ sizeLine := by rw [← ri.length]; exact hz
  show wpAny (model X.prog X.w) X.A (call (.builtin "sorted") [.ref l] [(Str.ofString "key", .ref f)]) (EP X pins σ Q) X.xe s
  refine call_function_entry_kw kind_sorted plain_sorted entry_sorted (PyProof.Rows.ksk_s1 _ _) ?_
  unfold Builtin.«sorted»
  refine wpAny_bind (m := checkCount "sorted" 1 1 _) (wpAny_pure ?_)
  refine wpAny_bind (collect_list hl'.isList ?_ hz')
  refine wpAny_bind (wpAny_newList ?_ hz')
  have hsz : ((s.heap.push (seqObj "list" #[] 0)).update s.heap.objs.size (Obj.mapSeq (· ++ its.toArray))).objs.size = s.heap.objs.size + 1 := by
    rw [Heap.size_update, size_push']
  have hoL : (((s.heap.push (seqObj "list" #[] 0)).update s.heap.objs.size (Obj.mapSeq (· ++ its.toArray))).push (seqObj "list" its.toArray 0)).get? (s.heap.objs.size + 1) = some (seqObj "list" its.toArray 0) := by
    rw [← hsz]; exact Heap.get?_push_size _ rfl
  have keep : ∀ b o, s.heap.get? b = some o → (((s.heap.push (seqObj "list" #[] 0)).update s.heap.objs.size (Obj.mapSeq (· ++ its.toArray))).push (seqObj "list" its.toArray 0)).get? b = some o := fun b o q => by
    have hlt : b < s.heap.objs.size := Heap.lt_size q
    rw [Heap.get?_push_ne _ _ _ (by rw [hsz]; exact Nat.ne_of_lt (Nat.lt_succ_of_lt hlt)), Heap.get?_update_ne _ _ _ _ (Nat.ne_of_lt hlt), Heap.get?_push_ne _ _ _ (Nat.ne_of_lt hlt)]
    exact q
  show wpAny _ _ _ _ _ { s with heap := ((s.heap.push (seqObj "list" #[] 0)).update s.heap.objs.size (Obj.mapSeq (· ++ its.toArray))).push (seqObj "list" its.toArray 0) }
  rw [hsz]
  refine wpAny_bind (wpAny_holding (wpAny_call_entry_kw slot_list_sort ⟨_, hoL, rfl⟩ entry_list_sort ?body (PyProof.Rows.ksk_l1 _ _)))
  case body =>
    show wpAny (model X.prog X.w) X.A.in1.in1 (Builtin.«list.sort» ⟨[.ref (s.heap.objs.size + 1)], [(Str.ofString "key", .ref f)]⟩) _ _ _
    refine sort_in F hb hl hr.in1.in1 (fun s' H' e => e.in1.in1) I sg r1 ri hz' keep (Nat.le_succ _) hoL hs q fun s' hq => ⟨_, rfl, ?_⟩
    exact wpAny_pure ⟨_, rfl, hq⟩
end
section
variable {X : Cx} {k : Nat} {fn x : Str} {p p' pos kpos : Pos} {e : Expr} {es : List Expr} {L : FL} {Ff : List D → Option D}
def sortF (Ff : List D → Option D) : List D → Option D
  | [d] => sortKF Ff d
  | _ => none
theorem f_sortK (F : DefD X.prog X.w X.K X.mg X.base k fn Ff) (hr : Room (k + 2) X.A) (hm : X.mg "sorted" = none) (ha : PAB X [e] L) (hgf : Gl X fn := by rfl) (hd : (fn == ("__debug__" : Str)) = false := by decide)
    (hg : Gl X "sorted" := by rfl) (hv : bootBuiltins "sorted" = some (.builtin "sorted") := by decide +kernel)
    (he : backTo pos (starEach [e] X.env) = (false, eval e X.env) :: backTo pos (starEach [] X.env) := by rfl) (hpl : (backTo pos (starEach [e] X.env)).any (·.1) = false := by rfl)
    (hall : (backToKw pos (keywordEach [⟨some "key", .Name fn p', kpos⟩] X.env)).all (·.1.isSome) = true := by rfl) (hnone : (backToKw pos (keywordEach [⟨some "key", .Name fn p', kpos⟩] X.env)).any (·.1.isNone) = false := by rfl)
    (hks : (backToKw pos (keywordEach [⟨some "key", .Name fn p', kpos⟩] X.env)).filterMap (·.1) = [Str.ofString "key"] := by rfl) :
    PF X (.Call (.Name "sorted" p) [e] [⟨some "key", .Name fn p', kpos⟩] pos) (eCall (sortF Ff) L) := by
  obtain ⟨f, fd, ps, F, hmf, hk, hb, hl⟩ := F.ex
  refine PE.weak (pe_callBK (cr_sortK F hb hl hr) hg hm hv ha (pk_cons (pe_glob (v := V.ref f) hgf hmf rfl hd) pk_nil) (by decide) (by decide) he hpl hall hnone hks) fun σ H Q ⟨B, G, ρ, d, r, q, z⟩ => ?_
  obtain ⟨ds, hd', q⟩ := Option.bind_eq_some_iff.mp q
  refine ⟨B, G, ρ, ds, r, hd', fun vs G1 H1 w1 bs => ?_⟩
  unfold sortF at q
  split at q
  · obtain ⟨v, rfl, b⟩ := bs.one
    exact ⟨v, G1, _, d, rfl, rfl, w1.gh, b, q, fun z' G2 H2 w2 rz => z z' G2 H2 (w1.trans w2) rz⟩
  · cases q
end
end DV
end

set_option Elab.async false
set_option linter.all false
set_option maxRecDepth 100000
/-! DVw: tests by a written tuple of the module. -/
noncomputable section
namespace DV
open PySem PySem.Spec PyProof.Rows L2
section
variable {X : Cx} {pos : Pos}
theorem t_ninG {x : Str} {ks : List Str} {a : Expr} {Fa : FE} {p : Pos} (ha : PB X a Fa) (T : KTup X.K X.mg x ks) (hg : Gl X x) (hd : (x == ("__debug__" : Str)) = false := by decide) (hm : behindInMarks .NotIn (.Name x p) = false := by with_unfolding_all rfl) :
    PTD X (.Compare a [.NotIn] [.Name x p] pos) (toT (o1 (ninC ks) Fa)) := by
  obtain ⟨t, o, its, n, h1, h2, h3, h4, h5, h6⟩ := T.ex
  refine PT.weak (pt_cmpR op_notIn_seq ha (pe_glob (v := V.ref t) hg h1 rfl hd) hm) fun σ H Q ⟨B, G, ρ, c, r, k, q⟩ => ?_
  obtain ⟨d, hd', k⟩ := Option.bind_eq_some_iff.mp k
  obtain ⟨y, hy, hd'⟩ := Option.bind_eq_some_iff.mp hd'
  refine ⟨B, G, ρ, y, r, hy, fun v G1 H1 w1 b1 => ?_⟩
  unfold ninC at hd'
  split at hd'
  · cases hd'
    cases k
    cases b1.str'
    refine ⟨t, ks.map V.str, rfl, .inr (.inr ⟨o, its, n, h2, h3, h4, h5, h6⟩), rfl, ?_, ?_⟩
    · simp [flatV]
    · rw [inV_strs]
      exact ⟨_, rfl, q G1 H1 w1⟩
  · cases hd'
end
end DV
end

set_option Elab.async false
set_option linter.all false
set_option maxRecDepth 100000
/-! DVx: dicts whose keys are nested tuples (kind N): the keys. -/
noncomputable section
namespace DV
open PySem PySem.Spec PyProof.Rows L2
mutual
def nkO : D → Option NestedKey
  | .none => some .none
  | .int i => some (.num i)
  | .str x => some (.text x)
  | .tuple ds => (nkOs ds).map .tup
  | _ => none
def nkOs : List D → Option (List NestedKey)
  | [] => some []
  | d :: ds => (nkO d).bind fun k => (nkOs ds).map fun ks => k :: ks
end
mutual
theorem nkO_some : ∀ (d : D) (k : NestedKey), nkO d = some k → d = nkD k
  | .none, k, h => by cases h; rfl
  | .int i, k, h => by cases h; rfl
  | .str x, k, h => by cases h; rfl
  | .tuple ds, k, h => by
    obtain ⟨ks, hk, rfl⟩ := Option.map_eq_some_iff.mp h
    rw [nkOs_some ds ks hk]
    rfl
  | .bool _, _, h => by cases h
  | .list _, _, h => by cases h
  | .dict _, _, h => by cases h
theorem nkOs_some : ∀ (ds : List D) (ks : List NestedKey), nkOs ds = some ks → ds = nkDs ks
  | [], ks, h => by cases h; rfl
  | d :: ds, ks, h => by
    obtain ⟨k, hk, h⟩ := Option.bind_eq_some_iff.mp h
    obtain ⟨ks', hks, rfl⟩ := Option.map_eq_some_iff.mp h
    rw [nkO_some d k hk, nkOs_some ds ks' hks]
    rfl
end
mutual
theorem keq_nk : ∀ (a b : NestedKey), keq (nkD a) (nkD b) = decide (a = b)
  | .none, b => by cases b <;> simp [nkD, keq]
  | .num i, b => by cases b <;> simp [nkD, keq]
  | .text x, b => by cases b <;> simp [nkD, keq]
  | .tup ks, b => by
    cases b with
    | tup ls =>
      rw [nkD, nkD, keq, keqs_nk ks ls, Bool.eq_iff_iff]
      simp
    | _ => simp [nkD, keq]
theorem keqs_nk : ∀ (a b : List NestedKey), keqs (nkDs a) (nkDs b) = decide (a = b)
  | [], [] => by simp [nkDs, keqs]
  | [], _ :: _ => by simp [nkDs, keqs]
  | _ :: _, [] => by simp [nkDs, keqs]
  | a :: as, b :: bs => by
    rw [nkDs, nkDs, keqs, keq_nk a b, keqs_nk as bs, Bool.eq_iff_iff]
    simp
end
section
variable {W : Wd} {G H : Hp} {P : Program} {w : World} {h : Heap}
mutual
theorem nk_is (sg : Same G H) (hok : HOk P w H h) : ∀ (k : NestedKey) (v : V) (u : Value), Rep W G (nkD k) v → RelV v u → NestedIs h k u
  | .none, v, u, r, rv => by
    cases r
    cases rv
    exact .none
  | .num i, v, u, r, rv => by
    cases r
    obtain ⟨t, rfl⟩ := rv
    exact .int i t
  | .text x, v, u, r, rv => by
    cases r
    obtain ⟨t, rfl⟩ := rv
    exact .text x t
  | .tup ks, v, u, r, rv => by
    cases r with
    | tup h1 h2 =>
      cases rv
      obtain ⟨_, its, r2, o, ho, hc, n, hd⟩ := hok _ _ (sg _ _ h1)
      exact .tup ho hc hd (nks_is sg hok ks _ _ h2 (by simpa using r2))
theorem nks_is (sg : Same G H) (hok : HOk P w H h) : ∀ (ks : List NestedKey) (vs : List V) (us : List Value), Reps W G (nkDs ks) vs → Vals vs us → NestedAll h ks us
  | [], vs, us, r, rv => by
    cases r
    cases rv
    exact .nil
  | k :: ks, vs, us, r, rv => by
    cases r with
    | cons r1 r2 =>
      cases rv with
      | cons v1 v2 => exact .cons (nk_is sg hok k _ _ r1 v1) (nks_is sg hok ks _ _ r2 v2)
end
end
section
local instance (priority := 1000000) cdx1 (p : Prop) : Decidable p := Classical.propDecidable p
def nkey : D → Option NestedKey
  | .tuple ds => (nkO (.tuple ds)).bind fun k => if k.depth ≤ 8 then some k else none
  | _ => none
end
theorem nkey_some {d : D} {k : NestedKey} (e : nkey d = some k) : d = nkD k ∧ k.depth ≤ 8 ∧ ∃ ks, k = .tup ks := by
  unfold nkey at e
  split at e
  · obtain ⟨k', hk, e⟩ := Option.bind_eq_some_iff.mp e
    split at e
    · rename_i hd
      cases e
      refine ⟨nkO_some _ _ hk, hd, ?_⟩
      obtain ⟨ks, _, rfl⟩ := Option.map_eq_some_iff.mp hk
      exact ⟨ks, rfl⟩
    · cases e
  · cases e
end DV
end

set_option Elab.async false
set_option linter.all false
set_option maxRecDepth 100000
/-! DVy: dicts whose keys are nested tuples: what is read. -/
noncomputable section
namespace DV
open PySem PySem.Spec PyProof.Rows L2
def RelN (p : NestedKey × Addr × V) (q : NestedKey × Addr × Value) : Prop := p.1 = q.1 ∧ p.2.1 = q.2.1 ∧ RelV p.2.2 q.2.2
theorem at_rel (k : NestedKey) : ∀ {kv : List (NestedKey × Addr × V)} {vs : List (NestedKey × Addr × Value)}, Paired RelN kv vs →
    (∀ x, valV (kv.map fun p => (p.1, p.2.2)) k = some x → ∃ p, atKey vs k = some p ∧ RelV x p.2) ∧ (valV (kv.map fun p => (p.1, p.2.2)) k = none → atKey vs k = none)
  | [], _, r => by
    cases r
    exact ⟨(fun x h => by cases h), fun _ => rfl⟩
  | p :: kv, _, r => by
    cases r with
    | cons r1 r2 =>
      rename_i q vs
      obtain ⟨h1, h2⟩ := at_rel k r2
      obtain ⟨e1, e2, e3⟩ := r1
      by_cases e : p.1 = k
      · have e' : q.1 = k := e1 ▸ e
        have a : atKey (q :: vs) k = some q.2 := by simp [atKey, e']
        rw [List.map_cons, valV_pos (p := (p.1, p.2.2)) e]
        refine ⟨fun x hx => ⟨q.2, a, ?_⟩, fun h => by cases h⟩
        cases hx
        exact e3
      · have e' : ¬ q.1 = k := fun z => e (e1.trans z)
        have a : atKey (q :: vs) k = atKey vs k := by simp [atKey, e']
        rw [List.map_cons, valV_neg (p := (p.1, p.2.2)) e, a]
        exact ⟨h1, h2⟩
section
variable {X : Cx} {pins : List (Addr × Obj)} {σ : L2.St} {G H : Hp} {s : Shared}
theorem Bor.dn {W : Wd} {G H : Hp} {kvs : List (D × D)} {v : V} (sg : Same G H) (b : Bor W G H (.dict ((.none, .int 2) :: kvs)) v) : ∃ a kv, v = .ref a ∧ H a = some (.ext (rawN W a kv)) ∧ kvs.map (·.1) = kv.map (fun p => nkD p.1) ∧ Reps W G (kvs.map (·.1)) (kv.map fun p => .ref p.2.1) ∧ Reps W G (kvs.map (·.2)) (kv.map (·.2.2)) := by
  rcases b with b | ⟨p, e, t⟩
  · cases b with
    | dcN h1 h2 h3 h4 => exact ⟨_, _, rfl, sg _ _ h1, h2, h3, h4⟩
  · cases t with
    | dcN h1 h2 h3 h4 => exact ⟨_, _, e, h1, h2, h3, h4⟩
theorem keys_is {h : Heap} (sg : Same G H) (hok : HOk X.prog X.w H h) : ∀ {kvs : List (D × D)} {kv : List (NestedKey × Addr × V)} {vs : List (NestedKey × Addr × Value)}, (∀ p ∈ kvs, (nkey p.1).isSome = true) → kvs.map (·.1) = kv.map (fun p => nkD p.1) → Reps X.wd G (kvs.map (·.1)) (kv.map fun p => .ref p.2.1) → Paired RelN kv vs →
    ∀ x ∈ vs, (nestedKind X.prog X.w).is h x.1 x.2.1
  | [], kv, vs, _, e, _, r => by
    cases kv with
    | nil => cases r; exact fun x hx => by cases hx
    | cons _ _ => cases e
  | q :: kvs, kv, vs, hk, e, rk, r => by
    cases kv with
    | nil => cases e
    | cons p kv =>
      cases r with
      | cons r1 r2 =>
        rename_i w vs
        rw [List.map_cons, List.map_cons] at e rk
        injection e with e1 e2
        cases rk with
        | cons k1 k2 =>
          intro x hx
          rcases List.mem_cons.mp hx with rfl | hx
          · obtain ⟨k, hkk⟩ := Option.isSome_iff_exists.mp (hk q List.mem_cons_self)
            obtain ⟨g1, g2, _⟩ := nkey_some hkk
            have ek : k = p.1 := by
              have h1 : keq (nkD k) (nkD p.1) = true := by rw [← g1, ← e1, g1, keq_nk, decide_eq_true rfl]
              rw [keq_nk] at h1
              exact of_decide_eq_true h1
            rw [e1] at k1
            refine ⟨?_, ?_⟩
            · have := nk_is sg hok p.1 _ (.ref x.2.1) k1 (by rw [← r1.2.1]; rfl)
              rw [r1.1] at this
              exact this
            · rw [← r1.1, ← ek]
              exact g2
          · exact keys_is sg hok (fun y hy => hk y (List.mem_cons_of_mem _ hy)) e2 k2 r2 x hx
theorem rel_keys : ∀ {kv : List (NestedKey × Addr × V)} {vs : List (NestedKey × Addr × Value)}, Paired RelN kv vs → vs.map (·.1) = kv.map (·.1)
  | [], _, r => by cases r; rfl
  | p :: kv, _, r => by
    cases r with
    | cons r1 r2 => rw [List.map_cons, List.map_cons, rel_keys r2, r1.1]
theorem dn_read {kvs : List (D × D)} {v : V} (I : L2.Inv X pins σ H s) (sg : Same G H) (b : Bor X.wd G H (.dict ((.none, .int 2) :: kvs)) v) (hk : ∀ p ∈ kvs, (nkey p.1).isSome = true) :
    ∃ a kv vs, v = .ref a ∧ H a = some (.ext (rawN X.wd a kv)) ∧ kvs.map (·.1) = kv.map (fun p => nkD p.1) ∧ Reps X.wd G (kvs.map (·.1)) (kv.map fun p => .ref p.2.1) ∧ Reps X.wd G (kvs.map (·.2)) (kv.map (·.2.2)) ∧ (a == sysModules) = false ∧ s.heap.DictOfH (nestedKind X.prog X.w) a vs ∧ Paired RelN kv vs ∧ kv.length ≤ sizeLine := by
  obtain ⟨a, kv, rfl, h1, h2, h3, h4⟩ := b.dn sg
  obtain ⟨⟨vs, o, es, ep, r, ho, he, hd, hes, hsy, hn, hz⟩, _⟩ := I.hok a _ h1
  have r' : Paired RelN kv vs := r
  have en := rel_keys r'
  exact ⟨a, kv, vs, rfl, h1, h2, h3, h4, hsy, ⟨o, es, ep, ho, he, hd, hes, keys_is sg I.hok hk h2 h3 r', by rw [en]; exact hn⟩, r', hz⟩
/-! ### in, not in, d[k] -/
end
section
local instance (priority := 1000000) cdy1 (p : Prop) : Decidable p := Classical.propDecidable p
def onN (kvs : List (D × D)) (x : Option D) : Option D := if ∀ p ∈ kvs, (nkey p.1).isSome = true then x else none
theorem onN_some {kvs : List (D × D)} {x : Option D} {d : D} (h : onN kvs x = some d) : (∀ p ∈ kvs, (nkey p.1).isSome = true) ∧ x = some d := by
  unfold onN at h
  split at h
  · rename_i hk
    exact ⟨hk, h⟩
  · cases h
theorem onN_of {kvs : List (D × D)} {x : Option D} (h : ∀ p ∈ kvs, (nkey p.1).isSome = true) : onN kvs x = x := if_pos h
end
def ninND : D → D → Option D
  | x, .dict ((.none, .int 2) :: kvs) => onN kvs ((nkey x).map fun _ => .bool (!(dget kvs x).isSome))
  | _, _ => none
def ixND : D → D → Option D
  | .dict ((.none, .int 2) :: kvs), x => onN kvs ((nkey x).bind fun _ => dget kvs x)
  | _, _ => none
section
variable {X : Cx}
theorem key_ref {W : Wd} {G H : Hp} {x : D} {k : NestedKey} {v : V} {u : Value} {P : Program} {w : World} {h : Heap} (hk : nkey x = some k) (sg : Same G H) (hok : HOk P w H h) (b : Bor W G H x v) (ru : RelV v u) : ∃ a, u = .ref a ∧ (nestedKind P w).is h k a := by
  obtain ⟨e, hd, ks, rfl⟩ := nkey_some hk
  subst e
  have r : Rep W H (nkD (.tup ks)) v := by
    rcases b with b | ⟨p, e, t⟩
    · exact b.mono sg
    · cases t
  have i := nk_is (Same.refl H) hok _ _ _ r ru
  cases i with
  | tup h1 h2 h3 h4 => exact ⟨_, rfl, .tup h1 h2 h3 h4, hd⟩
def rNinN (W : Wd) : R2 := fun x y H Q => ∃ G d e c, Same G H ∧ Bor W G H d x ∧ Bor W G H e y ∧ ninND d e = some (.bool c) ∧ Q (.bl c) H
theorem op_ninN (hu : X.A.units + 64 < cLine) : OpR X (compareOp .NotIn) (rNinN X.wd) := by
  intro pins s σ H x y v u Q I rx ry h
  obtain ⟨G, d, e, c, sg, bd, be, hc, q⟩ := h
  unfold ninND at hc
  split at hc
  · rename_i kvs
    · obtain ⟨hk, hc⟩ := onN_some hc
      obtain ⟨k, hkk, hc⟩ := Option.map_eq_some_iff.mp hc
      cases hc
      obtain ⟨a, kv, vs, rfl, h1, h2, h3, h4, h5, h6, h7, _⟩ := dn_read I sg be hk
      cases ry
      obtain ⟨b, rfl, hb⟩ := key_ref hkk sg I.hok bd rx
      obtain ⟨e1, _, ks, _⟩ := nkey_some hkk
      have g := get_rel (W := X.wd) (G := G) (enc := nkD) keq_nk k (kv := kv.map fun p => (p.1, p.2.2)) (by rw [h2, List.map_map]; rfl) (by rw [List.map_map]; exact h4)
      obtain ⟨a1, a2⟩ := at_rel k h7
      refine notIn_keyed (knd := nestedKind X.prog X.w) (k := k) (kvs := pairsH vs) (show X.A.units + 1 + 8 < cLine by omega) hb h5 ⟨vs, h6, rfl⟩ ⟨.bl _, H, I.tok _, ?_, q⟩
      show Value.bool _ = Value.bool _
      congr 2
      rw [valueAt_pairsH, Option.isSome_map, e1, RepO.isSome g]
      cases hv : valV (kv.map fun p => (p.1, p.2.2)) k with
      | none => rw [a2 hv]; rfl
      | some x => obtain ⟨p, hp, _⟩ := a1 x hv; rw [hp]; rfl
  · cases hc
theorem c_ninN (hu : X.A.units + 64 < cLine) : CmpR X .NotIn ninND := ⟨_, op_ninN hu, fun x y d v u G H Q k bx bY sg q => by
  obtain ⟨c, rfl⟩ : ∃ c, d = .bool c := by
    unfold ninND at k
    split at k
    · obtain ⟨_, k⟩ := onN_some k
      obtain ⟨_, _, k⟩ := Option.map_eq_some_iff.mp k
      exact ⟨_, k.symm⟩
    · cases k
  exact ⟨G, x, y, c, sg, bx, bY, k, q _ G H (Gw.refl sg) (.bl _)⟩⟩
end
end DV
end

set_option Elab.async false
set_option linter.all false
set_option maxRecDepth 100000
/-! DVz: dicts whose keys are nested tuples: d[k]. -/
noncomputable section
namespace DV
open PySem PySem.Spec PyProof.Rows L2
section
variable {X : Cx}
def rIxN (W : Wd) : R2 := fun x y H Q => ∃ G d e z, Same G H ∧ Bor W G H d x ∧ Bor W G H e y ∧ ixND d e = some z ∧ ∀ v, Rep W G z v → Q v H
theorem ix_N (hu : X.A.units + 64 < cLine) : IxR X (rIxN X.wd) := by
  intro value slice pins s σ H x y v u Q I rx ry h hs
  obtain ⟨G, d, e, z, sg, bd, be, hc, q⟩ := h
  unfold ixND at hc
  split at hc
  · rename_i kvs
    obtain ⟨hk, hc⟩ := onN_some hc
    obtain ⟨k, hkk, hc⟩ := Option.bind_eq_some_iff.mp hc
    obtain ⟨a, kv, vs, rfl, h1, h2, h3, h4, h5, h6, h7, _⟩ := dn_read I sg bd hk
    cases rx
    obtain ⟨b, rfl, hb⟩ := key_ref hkk sg I.hok be ry
    obtain ⟨e1, _, ks, _⟩ := nkey_some hkk
    have g := get_rel (W := X.wd) (G := G) (enc := nkD) keq_nk k (kv := kv.map fun p => (p.1, p.2.2)) (by rw [h2, List.map_map]; rfl) (by rw [List.map_map]; exact h4)
    rw [← e1, hc] at g
    obtain ⟨w, ew, rw'⟩ := g.some
    obtain ⟨p, hp, rp⟩ := (at_rel k h7).1 w ew
    refine tail_any h6.typeIs PySem.F.slot_dict_getitem.lookup ?_ hs
    exact wpAny_getItem_heap (knd := nestedKind X.prog X.w) (k := k) (show X.A.units + 1 + 8 < cLine by omega) hb h6 hp ⟨w, H, I.tok _, rp, q w rw'⟩
  · cases hc
theorem f_ixN {a b : Expr} {pos : Pos} {Fa Fb : FE} (hu : X.A.units + 64 < cLine) (ha : PB X a Fa) (hb : PB X b Fb) (hs : PlainIx b := by exact fun _ _ => rfl) : PF X (.Subscript a b pos) (o2 ixND Fa Fb) :=
  PE.weak (pe_ix (ix_N hu) ha hb hs) fun _ _ _ h => two (a := a) (b := b) (fun x y d v u G H Q k bx bY sg q => ⟨G, x, y, d, sg, bx, bY, k, fun w rw' => q w G H (Gw.refl sg) rw'⟩) h
end
end DV
end

set_option Elab.async false
set_option linter.all false
set_option maxRecDepth 100000
/-! DVz2: dicts whose keys are nested tuples: d[k] = v. -/
noncomputable section
namespace DV
open PySem PySem.Spec PyProof.Rows L2
def putNV (kv : List (NestedKey × Addr × V)) (k : NestedKey) (b : Addr) (v : V) : List (NestedKey × Addr × V) :=
  if (kv.any fun p => decide (p.1 = k)) = true then kv.map (fun p => if p.1 = k then (p.1, p.2.1, v) else p) else kv ++ [(k, b, v)]
theorem rel_any (k : NestedKey) : ∀ {kv : List (NestedKey × Addr × V)} {vs : List (NestedKey × Addr × Value)}, Paired RelN kv vs → (atKey vs k).isSome = kv.any fun p => decide (p.1 = k)
  | [], _, r => by cases r; rfl
  | p :: kv, _, r => by
    cases r with
    | cons r1 r2 =>
      rename_i q vs
      rw [List.any_cons, ← rel_any k r2]
      by_cases e : p.1 = k
      · have e' : q.1 = k := r1.1 ▸ e
        have a : atKey (q :: vs) k = some q.2 := by simp [atKey, e']
        rw [a, decide_eq_true e]
        rfl
      · have e' : ¬ q.1 = k := fun z => e (r1.1.trans z)
        have a : atKey (q :: vs) k = atKey vs k := by simp [atKey, e']
        rw [a, decide_eq_false e, Bool.false_or]
theorem rel_map {k : NestedKey} {v : V} {u : Value} (rv : RelV v u) : ∀ {kv : List (NestedKey × Addr × V)} {vs : List (NestedKey × Addr × Value)}, Paired RelN kv vs → Paired RelN (kv.map fun p => if p.1 = k then (p.1, p.2.1, v) else p) (vs.map (putAt k u))
  | [], _, r => by cases r; exact .nil
  | p :: kv, _, r => by
    cases r with
    | cons r1 r2 =>
      rename_i q vs
      refine .cons ?_ (rel_map rv r2)
      unfold putAt
      show RelN (if p.1 = k then (p.1, p.2.1, v) else p) (if q.1 = k then (q.1, q.2.1, u) else q)
      by_cases e : p.1 = k
      · have e' : q.1 = k := r1.1 ▸ e
        rw [if_pos e, if_pos e']
        exact ⟨r1.1, r1.2.1, rv⟩
      · have e' : ¬ q.1 = k := fun z => e (r1.1.trans z)
        rw [if_neg e, if_neg e']
        exact r1
theorem rel_snoc {p : NestedKey × Addr × V} {q : NestedKey × Addr × Value} (h : RelN p q) : ∀ {kv : List (NestedKey × Addr × V)} {vs : List (NestedKey × Addr × Value)}, Paired RelN kv vs → Paired RelN (kv ++ [p]) (vs ++ [q])
  | [], _, r => by cases r; exact .cons h .nil
  | _ :: kv, _, r => by
    cases r with
    | cons r1 r2 => exact .cons r1 (rel_snoc h r2)
theorem rel_put {k : NestedKey} {b : Addr} {v : V} {u : Value} (rv : RelV v u) {kv : List (NestedKey × Addr × V)} {vs : List (NestedKey × Addr × Value)} (r : Paired RelN kv vs) : Paired RelN (putNV kv k b v) (storedH vs k b u) := by
  unfold putNV storedH
  rw [rel_any k r]
  split
  · exact rel_map rv r
  · exact rel_snoc ⟨rfl, rfl, rv⟩ r
theorem putNV_len (kv : List (NestedKey × Addr × V)) (k : NestedKey) (b : Addr) (v : V) : (putNV kv k b v).length ≤ kv.length + 1 := by
  unfold putNV
  split <;> simp
theorem putNV_pairs (kv : List (NestedKey × Addr × V)) (k : NestedKey) (b : Addr) (v : V) : (putNV kv k b v).map (fun p => (p.1, p.2.2)) = putK (kv.map fun p => (p.1, p.2.2)) k v := by
  unfold putNV putK
  have e : ((kv.map fun p => (p.1, p.2.2)).any fun kv => decide (kv.1 = k)) = kv.any fun p => decide (p.1 = k) := by
    rw [List.any_map]
    rfl
  rw [e]
  split
  · rw [List.map_map, List.map_map]
    refine List.map_congr_left fun p _ => ?_
    simp only [Function.comp_def]
    split <;> rfl
  · simp
theorem rawN_of {W : Wd} {h : Heap} {a : Addr} {kv : List (NestedKey × Addr × V)} {vs : List (NestedKey × Addr × Value)} (r : Paired RelN kv vs) (hs : (a == sysModules) = false) (dd : h.DictOfH (nestedKind W.P W.w) a vs) (hz : kv.length ≤ sizeLine) : rawN W a kv h := by
  obtain ⟨o, es, ep, ho, he, hd, hes, _, hn⟩ := dd
  exact ⟨vs, o, es, ep, r, ho, he, hd, hes, hs, by rw [← rel_keys r]; exact hn, hz⟩
theorem rawN_at {W : Wd} {h1 h2 : Heap} {a : Addr} {kv : List (NestedKey × Addr × V)} (r : rawN W a kv h1) (k : ∀ o, h1.get? a = some o → h2.get? a = some o) : rawN W a kv h2 := by
  obtain ⟨vs, o, es, ep, r1, ho, r2⟩ := r
  exact ⟨vs, o, es, ep, r1, k _ ho, r2⟩
end DV
end

set_option Elab.async false
set_option linter.all false
set_option maxRecDepth 100000
/-! DVz3: d[k] = v, d owned, of kind N. -/
noncomputable section
namespace DV
open PySem PySem.Spec PyProof.Rows L2
section
variable {X : Cx}
def rSetN (W : Wd) : V → V → V → Hp → (Hp → Prop) → Prop := fun o i v H Q => ∃ (a b : Addr) (kv : List (NestedKey × Addr × V)) (kvs : List (D × D)) (G : Hp) (kd : D) (k : NestedKey), o = .ref a ∧ i = .ref b ∧ H a = some (.ext (rawN W a kv)) ∧ nkey kd = some k ∧ Same G H ∧ Rep W G kd (.ref b) ∧
  kvs.map (·.1) = kv.map (fun p => nkD p.1) ∧ Reps W G (kvs.map (·.1)) (kv.map fun p => .ref p.2.1) ∧ (∀ p ∈ kvs, (nkey p.1).isSome = true) ∧ kv.length < sizeLine ∧ Q (upd H a (.ext (rawN W a (putNV kv k b v))))
theorem set_N (hu : X.A.units + 64 < cLine) : PSet X (rSetN X.wd) := by
  intro pins s σ H o i v ov iv u Q I ro ri rv h
  obtain ⟨a, b, kv, kvs, G, kd, k, rfl, rfl, ha, hk, sg, rk, h2, h3, hks, hz, q⟩ := h
  cases ro
  cases ri
  obtain ⟨⟨vs, ob, es, ep, r, ho, he, hd, hes, hsy, hn, hz2⟩, _⟩ := I.hok a _ ha
  have r' : Paired RelN kv vs := r
  have en := rel_keys r'
  have dd : s.heap.DictOfH (nestedKind X.prog X.w) a vs := ⟨ob, es, ep, ho, he, hd, hes, keys_is sg I.hok hks h2 h3 r', by rw [en]; exact hn⟩
  obtain ⟨b', eb, hb⟩ := key_ref (u := .ref b) hk sg I.hok (.inl rk) rfl
  cases eb
  have hl : vs.length ≤ sizeLine := by
    have := congrArg List.length en
    simp at this
    omega
  refine wpAny_setItem_heap (knd := nestedKind X.prog X.w) (k := k) (hsz := hl) (show X.A.units + 1 + 8 < cLine by omega) hb dd fun h' dd' hs => ⟨_, ?_, q⟩
  obtain ⟨q', es', ep', hq, _⟩ := id dd'
  have hl2 : (putNV kv k b v).length ≤ sizeLine := by
    have := putNV_len kv k b v
    omega
  exact d_write I (by rw [ha]; exact True.intro) hs ⟨q', hq⟩ ⟨rawN_of (W := X.wd) (rel_put rv r') hsy dd' hl2, ⟨q', hq⟩, fun h1 h2 z kp => rawN_at z kp⟩
end
end DV
end

set_option Elab.async false
set_option linter.all false
set_option maxRecDepth 100000
/-! DVz4: d[k] = v, d owned, of kind N, as a statement of data. -/
noncomputable section
namespace DV
open PySem PySem.Spec PyProof.Rows L2
section
local instance (priority := 1000000) cdz1 (p : Prop) : Decidable p := Classical.propDecidable p
def putNKv (kvs : List (D × D)) (k v : D) : Option D := if kvs.length < sizeLine then some (.dict ((.none, .int 2) :: dput kvs k v)) else none
theorem putNKv_some {kvs : List (D × D)} {k v d : D} (h : putNKv kvs k v = some d) : kvs.length < sizeLine ∧ d = .dict ((.none, .int 2) :: dput kvs k v) := by
  unfold putNKv at h
  split at h
  · rename_i hz
    cases h
    exact ⟨hz, rfl⟩
  · cases h
end
def putNO (d k v : D) : Option D := match d with
  | .dict ((.none, .int 2) :: kvs) => onN kvs ((nkey k).bind fun _ => putNKv kvs k v)
  | _ => none
def sPutN (i : Nat) (Fk Fv : FE) : FS := fun ρ => (Fv ρ).bind fun v => (Fk ρ).bind fun k => match ρ[i]? with
  | some (some (.own d)) => (putNO d k v).map fun d' => .nx (ρ.set i (some (.own d')))
  | _ => none
theorem keysN_rel {W : Wd} {G : Hp} {k : NestedKey} {b : Addr} {v : V} {d : D} {kvs : List (D × D)} {kv : List (NestedKey × Addr × V)} (rk : Rep W G (nkD k) (.ref b)) (h : kvs.map (·.1) = kv.map (fun p => nkD p.1)) (r : Reps W G (kvs.map (·.1)) (kv.map fun p => .ref p.2.1)) :
    Reps W G ((dput kvs (nkD k) d).map (·.1)) ((putNV kv k b v).map fun p => .ref p.2.1) := by
  have ea : (kvs.any fun p => keq p.1 (nkD k)) = kv.any fun q => decide (q.1 = k) := by
    have := any_rel (enc := nkD) keq_nk k (kvs := kvs) (kv := kv.map fun p => (p.1, p.2.2)) (by rw [h, List.map_map]; rfl)
    rw [this, List.any_map]
    rfl
  unfold dput putNV
  rw [ea]
  split
  · have e1 : (kvs.map fun p => if keq p.1 (nkD k) = true then (p.1, d) else p).map (·.1) = kvs.map (·.1) := by
      rw [List.map_map]
      refine List.map_congr_left fun p _ => ?_
      simp only [Function.comp_def]
      split <;> rfl
    have e2 : (kv.map fun p => if p.1 = k then (p.1, p.2.1, v) else p).map (fun p => V.ref p.2.1) = kv.map fun p => V.ref p.2.1 := by
      rw [List.map_map]
      refine List.map_congr_left fun p _ => ?_
      simp only [Function.comp_def]
      split <;> rfl
    rw [e1, e2]
    exact r
  · rw [List.map_append, List.map_append]
    exact r.append (.cons rk .nil)
section
variable {X : Cx}
theorem s_putN (i : Nat) {x : Str} {k e : Expr} {Fk Fe : FE} {npos tpos pos : Pos} (hu : X.A.units + 64 < cLine) (he : PF X e Fe) (hk : PF X k Fk) (hN : X.N[i]? = some x := by rfl) (hv : Vis X.env.scope x := by first | exact Or.inl rfl | exact Or.inr (Or.inl rfl) | exact Or.inr (Or.inr rfl)) (hd : (x == ("__debug__" : Str)) = false := by decide)
    (hcd : (x == ("__classdict__" : Str)) = false := by decide)
    (ha : ∀ v, assign (.Subscript (.Name x npos) k tpos) X.env v = (do
      let ov ← holding [v] (eval (.Name x npos) X.env)
      let iv ← holding [v, ov] (eval k X.env)
      standAt tpos
      holding [v, ov, iv] (setItem ov iv v)
      release [v, ov, iv] []) := by intro _; rfl)
    (hs : swapsWithSole [.Subscript (.Name x npos) k tpos] e pos.line X.env = pure false := by rfl) (hw : swappedStores [.Subscript (.Name x npos) k tpos] e X.env = pure none := by rfl)
    (h1 : (assignEach [.Subscript (.Name x npos) k tpos] X.env).map (·.2) = [assign (.Subscript (.Name x npos) k tpos) X.env] := by rfl) :
    PSD X (.Assign [.Subscript (.Name x npos) k tpos] e pos) (sPutN i Fk Fe) :=
  PS.weak (ps_asg he (pg_sub (pe_var (i := i) hN hv hd hcd) hk (set_N hu) ha) hs hw h1) fun E σ H ⟨B, G, ρ, o, r, q, a⟩ => by
    obtain ⟨v, hv, q⟩ := Option.bind_eq_some_iff.mp q
    obtain ⟨kd, hk, q⟩ := Option.bind_eq_some_iff.mp q
    refine ⟨B, G, ρ, v, r, hv, fun vv G1 H1 w1 rv => ?_⟩
    split at q
    · rename_i d hi
      obtain ⟨d', hp, q⟩ := Option.map_eq_some_iff.mp q
      subst q
      obtain ⟨l, h1, h2, h3, h4⟩ := r.own i _ hi
      refine ⟨_, h1, B, G1, ρ, kd, r.step w1, hk, fun kv G2 H2 w2 rk => ?_⟩
      have w := w1.trans w2
      have h4' := h4.same w.g w.h
      unfold putNO at hp
      split at hp
      · rename_i kvs
        obtain ⟨hks, hp⟩ := onN_some hp
        obtain ⟨key, hkey, hp⟩ := Option.bind_eq_some_iff.mp hp
        obtain ⟨hz, rfl⟩ := putNKv_some hp
        obtain ⟨e1, _, ks, eks⟩ := nkey_some hkey
        subst e1
        cases h4' with
        | @dcN _ kn _ e t1 t2 t3 =>
          obtain ⟨b, rfl⟩ : ∃ b, kv = .ref b := by
            rw [eks] at rk
            cases rk
            exact ⟨_, rfl⟩
          have hz2 : kn.length < sizeLine := by
            have := congrArg List.length t1
            simp at this
            omega
          refine ⟨l, b, kn, kvs, G2, nkD key, key, rfl, rfl, e, hkey, w2.gh, rk, t1, t2, hks, hz2, ?_⟩
          obtain ⟨p1, p2⟩ := put_rel (W := X.wd) (G := G2) (enc := nkD) keq_nk (k := key) (d := v) (v := vv) (rv.mono w2.g) (kvs := kvs) (kv := kn.map fun p => (p.1, p.2.2)) (by rw [t1, List.map_map]; rfl) (by rw [List.map_map]; exact t3)
          rw [← putNV_pairs kn key b vv, List.map_map] at p1 p2
          have sm : Same G2 G2 := Same.refl _
          exact a σ G2 _ (w.gs r.bh) ((r.step w).upd_own hi h1 (.dcN upd_same p1 (keysN_rel rk t1 t2) p2))
      · cases hp
    · cases q
end
end DV
end

set_option Elab.async false
set_option linter.all false
set_option maxRecDepth 100000
/-! DVz5: a new dict of kind N. -/
noncomputable section
namespace DV
open PySem PySem.Spec PyProof.Rows L2
section
variable {X : Cx} {pos : Pos}
def tDNewN (W : Wd) : TE := fun _ H Q => ∀ p, H p = none → Q (.ref p) (upd H p (.ext (rawN W p [])))
theorem rawN_empty {W : Wd} {h : Heap} (hb : sysModules < h.objs.size) : rawN W h.objs.size [] (h.push { cls := .type "dict", data := .dict #[] }) := by
  obtain ⟨o, es, ep, ho, he, hd, hes, hk, hn⟩ := Heap.DictOfH.new (knd := nestedKind W.P W.w) h
  exact ⟨[], o, es, ep, .nil, ho, he, hd, hes, beq_eq_false_iff_ne.mpr (Nat.ne_of_gt hb), .nil, Nat.zero_le _⟩
theorem pe_dnewN : PE X (.Dict [] [] pos) (tDNewN X.wd) := ⟨fun pins s σ H Q I h =>
  wpAny_Dict_empty ⟨.ref s.heap.objs.size, _, I.laid (a := s.heap.objs.size) (o := .ext (rawN X.wd s.heap.objs.size [])) (t' := s.toks) (fun _ _ q => Heap.get?_push_of_some _ q) (Nat.le_refl _)
    ⟨rawN_empty I.big, ⟨_, Heap.get?_push_size _ rfl⟩, fun h1 h2 z k => rawN_at z k⟩, rfl, h _ (I.hok.fresh (Nat.le_refl _))⟩⟩
theorem n_dN : PN X (.Dict [] [] pos) (eC (.dict [(.none, .int 2)])) := PE.weak pe_dnewN fun σ H Q ⟨B, G, ρ, d, r, k, q⟩ => by
  cases k
  intro p hp
  obtain ⟨w2, f⟩ := Frs.new (W := X.wd) (o := .ext (rawN X.wd p [])) (d := .dict [(.none, .int 2)]) (Gw.refl r.gh) hp (.dcN upd_same rfl .nil .nil)
  exact q _ _ _ w2 f
end
end DV
end

set_option Elab.async false
set_option linter.all false
set_option maxRecDepth 100000
/-! DVaa: ~n. -/
noncomputable section
namespace DV
open PySem PySem.Spec PyProof.Rows L2
section
variable {X : Cx} {pos : Pos} {a : Expr} {Fa : FE}
def invD : D → Option D
  | .int i => some (.int (Builtin.bitNot i))
  | _ => none
theorem f_inv (ha : PB X a Fa) : PF X (.UnaryOp .Invert a pos) (o1 invD Fa) := PE.weak (pe_un un_inv ha) fun σ H Q ⟨B, G, ρ, d, r, k, q⟩ => by
  obtain ⟨x, hx, k⟩ := Option.bind_eq_some_iff.mp k
  refine ⟨B, G, ρ, x, r, hx, fun v G1 H1 w1 b1 => ?_⟩
  unfold invD at k
  split at k
  · cases k
    cases b1.int'
    exact ⟨_, rfl, q _ G1 H1 w1 (.int _)⟩
  · cases k
end
end DV
end

set_option Elab.async false
set_option linter.all false
set_option maxRecDepth 100000
/-! DVbb: sorted(xs) of ints, of fewer than 64 texts. -/
noncomputable section
namespace DV
open PySem PySem.Spec PyProof.Rows L2
def leS (a b : Str) : Bool := !decide (b.cps.toList < a.cps.toList)
def leI (a b : Int) : Bool := decide (a ≤ b)
def sortedF : List D → Option D
  | [.list ds] => match intsOf ds with
    | some ns => some (.list ((ns.mergeSort leI).map .int))
    | none => (strsOf ds).bind fun xs => if xs.length < 64 then some (.list ((xs.mergeSort leS).map .str)) else none
  | _ => none
theorem leS_no {a b : Str} : leS a b = true ↔ ¬ b.cps.toList < a.cps.toList := by simp [leS]
theorem rising_pair : ∀ (r : List Str) (p : Str), risingS p r = true → (p :: r).Pairwise fun a b => leS a b = true
  | [], p, _ => by simp
  | x :: r, p, h => by
    have h : (!ltCps x.cps.toList p.cps.toList && risingS x r) = true := h
    rw [Bool.and_eq_true] at h
    have h1 : leS p x = true := by
      rw [leS_no]
      have := h.1
      rw [ltCps_eq] at this
      simpa using this
    have h2 := rising_pair r x h.2
    refine List.pairwise_cons.mpr ⟨fun y hy => ?_, h2⟩
    rcases List.mem_cons.mp hy with rfl | hy
    · exact h1
    · have h3 := (List.pairwise_cons.mp h2).1 y hy
      rw [leS_no] at h1 h3 ⊢
      exact List.not_lt.mpr (List.le_trans (List.not_lt.mp h1) (List.not_lt.mp h3))
theorem sortedS_pair : ∀ {l : List Str}, sortedS l = true → l.Pairwise fun a b => leS a b = true
  | [], _ => .nil
  | x :: r, h => rising_pair r x h
theorem sortS_spec {l xs : List Str} (hp : l.Perm xs) (hs : l.Pairwise fun a b => leS a b = true) : xs.mergeSort leS = l := by
  have h1 := List.pairwise_mergeSort (le := leS) (fun a b c x y => by
    rw [leS_no] at x y ⊢
    exact List.not_lt.mpr (List.le_trans (List.not_lt.mp x) (List.not_lt.mp y))) (fun a b => by
    rw [Bool.or_eq_true, leS_no, leS_no]
    rcases lst_tri a.cps.toList b.cps.toList with z | z | z
    · exact .inl (lst_asym z)
    · left; rw [z]; exact List.lt_irrefl _
    · exact .inr (lst_asym z)) xs
  have h2 := List.mergeSort_perm xs leS
  refine (srt_uniq (lt := fun a b => !leS b a) (fun a ha b hb x y => ?_) (hp.trans h2.symm) (hs.imp fun z => by simpa using z) (h1.imp fun z => by simpa using z)).symm
  simp only [Bool.not_eq_false', leS_no] at x y
  rcases lst_tri a.cps.toList b.cps.toList with z | z | z
  · exact absurd z x
  · exact cps_inj z
  · exact absurd z y
theorem sortI_spec {l xs : List Int} (hp : l.Perm xs) (hs : l.Pairwise fun a b => a ≤ b) : xs.mergeSort leI = l := by
  have h1 := List.pairwise_mergeSort (le := leI) (fun a b c x y => by
    simp only [leI, decide_eq_true_eq] at x y ⊢
    omega) (fun a b => by
    simp only [leI, Bool.or_eq_true, decide_eq_true_eq]
    omega) xs
  have h2 := List.mergeSort_perm xs leI
  refine (srt_uniq (lt := fun a b => !leI b a) (fun a ha b hb x y => ?_) (hp.trans h2.symm) (hs.imp fun z => by simpa [leI] using z) (h1.imp fun z => by simpa using z)).symm
  simp only [Bool.not_eq_false', leI, decide_eq_true_eq] at x y
  omega
section
variable {X : Cx} {p pos : Pos} {e : Expr} {L : FL}
theorem f_sorted (hm : X.mg "sorted" = none) (ha : PAB X [e] L) (hg : Gl X "sorted" := by rfl)
    (he : starEach [e] X.env = (false, eval e X.env) :: starEach [] X.env := by rfl) (hpl : (backTo pos (starEach [] X.env)).any (·.1) = false := by rfl) : PF X (.Call (.Name "sorted" p) [e] [] pos) (eCall sortedF L) :=
  f_bc (CallR.or cr_sortedI cr_sortedS) (fun ds d vs G H Q k bs sg q => by
    unfold sortedF at k
    split at k
    · rename_i xs
      obtain ⟨v, rfl, b⟩ := bs.one
      obtain ⟨a, ys, rfl, h1, r1⟩ := b.lst' sg
      split at k
      · rename_i ns hn
        cases k
        rw [intsOf_some hn] at r1
        cases r1.ints
        refine .inl ⟨a, ns, rfl, SqL.of h1, fun ns' p hp hs hf => ?_⟩
        rw [sortI_spec hp hs] at q
        have hr : ∀ (l : List Int), Reps X.wd G (l.map PyData.int) (l.map V.int) := fun l => by
          induction l with
          | nil => exact .nil
          | cons x l ih => exact .cons (.int x) ih
        exact fin_lst sg (hr ns') q p hf
      · rename_i hn
        obtain ⟨ns, hs', k⟩ := Option.bind_eq_some_iff.mp k
        split at k
        · rename_i h64
          cases k
          rw [strsOf_some hs'] at r1
          cases r1.strs
          refine .inr ⟨a, ns, rfl, SqL.of h1, h64, fun ns' p hp hs hf => ?_⟩
          rw [sortS_spec hp (sortedS_pair hs)] at q
          have hr : ∀ (l : List Str), Reps X.wd G (l.map PyData.str) (l.map V.str) := fun l => by
            induction l with
            | nil => exact .nil
            | cons x l ih => exact .cons (.str x) ih
          exact fin_lst sg (hr ns') q p hf
        · cases k
    · cases k) hm ha (by decide +kernel) hg (by decide) (by decide) he hpl
end
end DV
end

set_option Elab.async false
set_option linter.all false
set_option maxRecDepth 100000
/-! DVcc: list(range(n)), tuple(range(n)). -/
noncomputable section
namespace DV
open PySem PySem.Spec PyProof.Rows L2
section
local instance (priority := 1000000) cdcc1 (p : Prop) : Decidable p := Classical.propDecidable p
def lrgF : List D → Option D
  | [.int n] => if 0 ≤ n ∧ n ≤ 16777216 then some (.list (rngL 0 n.toNat)) else none
  | _ => none
def trgF : List D → Option D
  | [.int n] => if 0 ≤ n ∧ n ≤ 16777216 then some (.tuple (rngL 0 n.toNat)) else none
  | _ => none
end
theorem rng_reps {W : Wd} {G : Hp} (n : Int) : Reps W G (rngL 0 n.toNat) (rgV 0 n) := by
  unfold rngL rgV
  rw [show n - 0 = n by omega]
  generalize List.range n.toNat = l
  induction l with
  | nil => exact .nil
  | cons i l ih => exact .cons (.int _) ih
section
variable {X : Cx} {a : Expr} {Fa : FE} {p p2 pos pos2 : Pos}
theorem f_lrg (hc : X.calm = true) (hm : X.mg "list" = none) (hr : X.mg "range" = none) (ha : PF X a Fa) (hg : Gl X "list" := by rfl) (hg2 : Gl X "range" := by rfl)
    (na : starEach [a] X.env = (false, eval a X.env) :: starEach [] X.env := by rfl) (ne : starEach [.Call (.Name "range" p2) [a] [] pos2] X.env = (false, eval (.Call (.Name "range" p2) [a] [] pos2) X.env) :: starEach [] X.env := by rfl) :
    PF X (.Call (.Name "list" p) [.Call (.Name "range" p2) [a] [] pos2] [] pos) (eCall lrgF (lC Fa lN)) :=
  PE.weak (pe_listRg hc hg hm (prg_1 hg2 hr ha na) ne) fun σ H Q ⟨B, G, ρ, d, r, k, q⟩ => by
    obtain ⟨ds, hd, k⟩ := Option.bind_eq_some_iff.mp k
    obtain ⟨x, hx, hd⟩ := Option.bind_eq_some_iff.mp hd
    cases hd
    refine ⟨B, G, ρ, x, r, hx, fun v G1 H1 w1 b1 => ?_⟩
    unfold lrgF at k
    split at k
    · rename_i n e
      cases e
      split at k
      · rename_i h
        cases k
        cases b1
        exact ⟨n, rfl, RgOk.of_le (by omega) h.2 (by omega) h.1, fun p hp => fin_lst w1.gh (rng_reps n) (fun z G' H' w2 rz => q z G' H' (w1.trans w2) rz) p hp⟩
      · cases k
    · cases k
theorem f_trg (hc : X.calm = true) (hm : X.mg "tuple" = none) (hr : X.mg "range" = none) (ha : PF X a Fa) (hg : Gl X "tuple" := by rfl) (hg2 : Gl X "range" := by rfl)
    (na : starEach [a] X.env = (false, eval a X.env) :: starEach [] X.env := by rfl) (ne : starEach [.Call (.Name "range" p2) [a] [] pos2] X.env = (false, eval (.Call (.Name "range" p2) [a] [] pos2) X.env) :: starEach [] X.env := by rfl) :
    PF X (.Call (.Name "tuple" p) [.Call (.Name "range" p2) [a] [] pos2] [] pos) (eCall trgF (lC Fa lN)) :=
  PE.weak (pe_tupRg hc hg hm (prg_1 hg2 hr ha na) ne) fun σ H Q ⟨B, G, ρ, d, r, k, q⟩ => by
    obtain ⟨ds, hd, k⟩ := Option.bind_eq_some_iff.mp k
    obtain ⟨x, hx, hd⟩ := Option.bind_eq_some_iff.mp hd
    cases hd
    refine ⟨B, G, ρ, x, r, hx, fun v G1 H1 w1 b1 => ?_⟩
    unfold trgF at k
    split at k
    · rename_i n e
      cases e
      split at k
      · rename_i h
        cases k
        cases b1
        exact ⟨n, rfl, RgOk.of_le (by omega) h.2 (by omega) h.1, fun p hp => fin_tup w1.gh (rng_reps n) (fun z G' H' w2 rz => q z G' H' (w1.trans w2) rz) p hp⟩
      · cases k
    · cases k
end
end DV
end

set_option Elab.async false
set_option linter.all false
set_option maxRecDepth 100000
set_option maxHeartbeats 4000000
/-! DVdd: list(d.values()), len(set(xs)) of ints. -/
noncomputable section
namespace DV
open PySem PySem.Spec PyProof.Rows L2
section
variable {X : Cx} {e : Expr} {F : FE} {p p2 q pos apos cpos : Pos}
theorem vals_snd : ∀ {kv : List (Key × V)} {vs : List (Key × Value)}, KV kv vs → Vals (kv.map (·.2)) (vs.map (·.2))
  | [], _, r => by cases r; exact .nil
  | _ :: _, _, r => by
    cases r with
    | cons h t => exact .cons h.2 (vals_snd t)
def valsD : D → Option D
  | .dict ((.none, .int 0) :: kvs) => some (.list (kvs.map (·.2)))
  | _ => none
theorem f_lvals (hc : X.calm = true) (hm : X.mg "list" = none) (he : PB X e F) (hg : Gl X "list" := by rfl) (hbase : attributeBase e "values" X.env (eval e X.env) = eval e X.env := by rfl) (hline : (apos.endLine == cpos.line) = true := by rfl)
    (hs : starEach [.Call (.Attribute e "values" apos) [] [] cpos] X.env = (false, eval (.Call (.Attribute e "values" apos) [] [] cpos) X.env) :: starEach [] X.env := by rfl) :
    PF X (.Call (.Name "list" p) [.Call (.Attribute e "values" apos) [] [] cpos] [] pos) (o1 valsD F) := by
  refine ⟨fun pins s σ H Q I hq => ?_⟩
  obtain ⟨B, G, ρ, d, r, k, q⟩ := hq
  obtain ⟨x, hx, k⟩ := Option.bind_eq_some_iff.mp k
  unfold valsD at k
  split at k
  · rename_i kvs
    cases k
    refine wpAny_Call_Name_kw (ld_blt I hg hm PyProof.Rows.boot_list ?_)
    refine PyProof.Rows.callWith_type1 ?_ hs rfl
    rw [hs]
    show wpAny _ _ (spliced ((false, eval (.Call (.Attribute e "values" apos) [] [] cpos) X.env) :: backTo pos (starEach [] X.env))) _ _ s
    refine Calls.spliced_cons ?_
    refine wpAny_Call_method (T := "dict") (id := "dict.values") hbase rfl hline PySem.F.plainAttrs_dict PySem.F.slot_dict_values PySem.F.type_dict_values (thn (he.run pins s σ H (fun v H' => ∃ G', DV.Gw G H G' H' ∧ Bor X.wd G' H' (.dict ((.none, .int 0) :: kvs)) v) I ⟨B, G, ρ, _, r, hx, fun v G' H' w b => ⟨G', w, b⟩⟩) fun u s1 ⟨v, H1, I1, rx, G1, w1, b1⟩ => ?_)
    obtain ⟨d, kv, rfl, hd, h2, h3⟩ := b1.dk w1.gh
    obtain rfl : u = Value.ref d := rx
    obtain ⟨hz, hs0, vs, rel, hdo⟩ := dk_rd I1.hok hd
    obtain ⟨ep, hat⟩ := hdo.dictAt
    have lk : kv.length = vs.length := Paired.length rel
    have I2 : L2.Inv X pins σ H1 { s1 with heap := s1.heap.push { cls := .type "dict_values", data := .fields #[.ref d] } } := I1.kept (t' := s1.toks) fun b ob q => Heap.get?_push_of_some _ q
    refine ⟨hdo.typeIs, hdo.mapOf.noDict, ?_⟩
    show wpAny _ _ (callWith cpos (.builtin "dict.values") [.ref d] [] []) _ X.xe s1
    refine method_meetsIn PySem.F.slot_dict_values PySem.F.entry_dict_values rfl (PySem.evalArgs_none ⟨rfl, hdo.typeIs, PySem.F.args_dict_values_1 _, _, meets_dict_values (mixKind X.prog X.w) d hs0, ⟨vs, hdo⟩, ?_⟩)
    refine Calls.spliced_nil ?_
    refine PySem.W.kdl_call (PySem.W.kdl_values (knd := mixKind X.prog X.w) (kvs := vs) (ep := ep)) (I1.ok.hd hc) ⟨⟨_, Heap.get?_push_size _ rfl, rfl, rfl⟩, hat.push _⟩ (by rw [← lk]; exact hz) fun h' tk acc c hk hS hacc => ?_
    have ea : acc.toList = vs.map (·.2) := PySem.W.kdl_vals_eq acc.toList (by rw [Array.length_toList]; exact hacc.1) fun j v ej => hacc.2 j v (by rw [← Array.getElem?_toList]; exact ej)
    have hL := I2.laid (t' := tk) (o := .lst (kv.map (·.2))) hk (Nat.le_refl _) (show ObjOk X.prog X.w _ _ _ (.lst (kv.map (·.2))) from ⟨by rw [List.length_map]; exact hz, acc.toList, c, by rw [ea]; exact vals_snd rel, by rw [Array.toArray_toList]; exact hS⟩)
    exact ⟨.ref _, _, hL, rfl, fin_lst w1.gh h3 (fun z G' H' w' rz => q z G' H' (w1.trans w') rz) _ (I2.hok.fresh (Nat.le_refl _))⟩
  · cases k
section
local instance (priority := 1000000) cddd1 (p : Prop) : Decidable p := Classical.propDecidable p
def lsetD : D → Option D
  | .list ds => (intsOf ds).bind fun ns => if ns.length < 4000 then some (.int (firstMet (fun i => ns.getD i 0) ns.length).length) else none
  | _ => none
end
theorem f_lset (hc : X.calm = true) (hm : X.mg "len" = none) (hm2 : X.mg "set" = none) (ha : PB X e F) (hg : Gl X "len" := by rfl) (hg2 : Gl X "set" := by rfl)
    (na : starEach [e] X.env = (false, eval e X.env) :: starEach [] X.env := by rfl) : PF X (.Call (.Name "len" p) [.Call (.Name "set" p2) [e] [] q] [] pos) (o1 lsetD F) := by
  refine ⟨fun pins s σ H Q I hq => ?_⟩
  obtain ⟨B, G, ρ, d, r, k, q⟩ := hq
  obtain ⟨x, hx, k⟩ := Option.bind_eq_some_iff.mp k
  unfold lsetD at k
  split at k
  · rename_i ds
    obtain ⟨ns, hn, k⟩ := Option.bind_eq_some_iff.mp k
    split at k
    · rename_i hz4
      cases k
      refine Call_ (ld_blt I hg hm PySem.boot_len ?_)
      refine PyProof.Rows.callWith_builtin1 (PyProof.Rows.args_cons ?_ rfl) rfl rfl
      refine Call_ (ld_blt I hg2 hm2 PyProof.Rows.boot_set ?_)
      refine PyProof.Rows.callWith_type1 (PyProof.Rows.args_cons (thn (ha.run pins s σ H (fun v H' => ∃ G', DV.Gw G H G' H' ∧ Bor X.wd G' H' (.list ds) v) I ⟨B, G, ρ, _, r, hx, fun v G' H' w b => ⟨G', w, b⟩⟩) fun v s1 ⟨x, H1, I1, r1, G1, w1, b1⟩ => PyProof.Rows.args_nil ?_) na) na rfl
      obtain ⟨l, xs, rfl, h1, r2⟩ := b1.lst' w1.gh
      rw [intsOf_some hn] at r2
      cases r2.ints
      cases r1
      obtain ⟨its, ri, pl, hz⟩ := I1.list (SqL.of h1)
      have hl : its.toArray.size = ns.length := by rw [List.size_toArray, ← ri.length, List.length_map]
      refine call_set_list (I1.ok.hd hc) pl.isList (ns := ns) (by simpa using ri.ints) (by unfold scanBound; omega) fun h' tk hS hk => ?_
      rw [hl] at hS
      refine PyProof.Rows.args_nil ?_
      obtain ⟨o, es, ep, t, ho, hex, hd, _, _, _, hf, hn'⟩ := hS
      have hle := firstMet_length_le (fun i => ns.getD i 0) ns.length
      have I2 : L2.Inv X pins σ H1 { s1 with heap := h', toks := tk } := I1.kept fun b o e => hk b o (Heap.lt_size e) e
      exact call_len_set ho hex hd hf (by rw [hn']; omega) ⟨.int (firstMet (fun i => ns.getD i 0) ns.length).length, H1, I2.tok _, ⟨_, by rw [hn']⟩, q _ G1 H1 w1 (.int _)⟩
    · cases k
  · cases k
end
theorem mem_firstMet (ns : List Int) : ∀ i, i ≤ ns.length → (firstMet (fun i => ns.getD i 0) i).Nodup ∧ ∀ x, x ∈ firstMet (fun i => ns.getD i 0) i ↔ x ∈ ns.take i
  | 0, _ => ⟨by rw [firstMet_zero]; exact .nil, fun x => by rw [firstMet_zero]; simp⟩
  | i + 1, h => by
    obtain ⟨h1, h2⟩ := mem_firstMet ns i (by omega)
    have hi : i < ns.length := by omega
    have ed : ns.getD i 0 = ns[i] := by rw [List.getD_eq_getElem?_getD, List.getElem?_eq_getElem hi]; rfl
    have et : ns.take (i + 1) = ns.take i ++ [ns[i]] := by rw [List.take_succ, List.getElem?_eq_getElem hi]; rfl
    rw [firstMet_succ, ed]
    unfold step_dedup
    by_cases hm : ns[i] ∈ firstMet (fun i => ns.getD i 0) i
    · rw [if_pos (by rw [List.any_eq_true]; exact ⟨_, hm, by simp⟩)]
      refine ⟨h1, fun x => ?_⟩
      rw [h2, et, List.mem_append, List.mem_singleton]
      constructor
      · exact .inl
      · rintro (z | z)
        · exact z
        · rw [z]; exact (h2 _).mp hm
    · rw [if_neg (by
        rw [List.any_eq_true]
        rintro ⟨y, hy, e⟩
        have : y = ns[i] := by simpa using e
        exact hm (this ▸ hy))]
      refine ⟨?_, fun x => ?_⟩
      · rw [List.nodup_append]
        exact ⟨h1, by simp, fun a ha b hb => by
          rw [List.mem_singleton.mp hb]
          exact fun z => hm (z ▸ ha)⟩
      · rw [et, List.mem_append, List.mem_append, h2]
end DV
end

set_option Elab.async false
set_option linter.all false
set_option maxRecDepth 100000
set_option maxHeartbeats 4000000
/-! DVee: len of dicts with tuples as keys. -/
noncomputable section
namespace DV
open PySem PySem.Spec PyProof.Rows L2
def lenTD : D → Option D
  | .dict ((.none, .int 1) :: kvs) => some (.int kvs.length)
  | _ => none
def lenND : D → Option D
  | .dict ((.none, .int 2) :: kvs) => onN kvs (some (.int kvs.length))
  | _ => none
section
variable {X : Cx} {e : Expr} {F : FE} {p pos : Pos}
def rLenX (W : Wd) : List V → Hp → VK → Prop := fun xs H Q => ∃ (v : V) (d z : D) (G : Hp), xs = [v] ∧ Same G H ∧ Bor W G H d v ∧ (lenTD d = some z ∨ lenND d = some z) ∧ ∀ u, Rep W G z u → Q u H
theorem call_lenX : CallR X (.builtin "len") (rLenX X.wd) := by
  intro pins s σ H xs us Q I r h
  obtain ⟨v, d, z, G, rfl, sg, b, hz, q⟩ := h
  obtain ⟨u, rfl, rx⟩ := vals1 r
  rcases hz with hz | hz
  · unfold lenTD at hz
    split at hz
    · cases hz
      obtain ⟨a, kv, rfl, h1, h2, h3⟩ := b.dt sg
      obtain rfl : u = .ref a := rx
      obtain ⟨z, hd, ys, rel, dd⟩ := dt_rd I.hok h1
      have hl : kv.length = ys.length := Paired.length rel
      refine call_len_dictH hd dd (by rw [← hl]; rw [sizeLine_eq] at z; omega) ?_
      rw [← hl]
      have e := congrArg List.length h2
      rw [List.length_map, List.length_map] at e
      rw [← e]
      exact ⟨.int _, H, I.tok _, ⟨_, rfl⟩, q _ (.int _)⟩
    · cases hz
  · unfold lenND at hz
    split at hz
    · obtain ⟨hk, hz⟩ := onN_some hz
      cases hz
      obtain ⟨a, kv, vs, rfl, h1, h2, h3, h4, h5, h6, h7, h8⟩ := dn_read I sg b hk
      obtain rfl : u = .ref a := rx
      have hl := congrArg List.length (rel_keys h7)
      rw [List.length_map, List.length_map] at hl
      refine call_len_dictH h5 h6 (by rw [hl]; rw [sizeLine_eq] at h8; omega) ?_
      rw [hl]
      have e := congrArg List.length h2
      rw [List.length_map, List.length_map] at e
      rw [← e]
      exact ⟨.int _, H, I.tok _, ⟨_, rfl⟩, q _ (.int _)⟩
    · cases hz
theorem f_lenX (f : D → Option D) (hf : ∀ d z, f d = some z → lenTD d = some z ∨ lenND d = some z) (hm : X.mg "len" = none) (ha : PB X e F) (hg : Gl X "len" := by rfl)
    (he : starEach [e] X.env = (false, eval e X.env) :: starEach [] X.env := by rfl) (hpl : (backTo pos (starEach [] X.env)).any (·.1) = false := by rfl) : PF X (.Call (.Name "len" p) [e] [] pos) (o1 f F) :=
  PE.weak (pe_callB call_lenX hg hm PySem.boot_len (ab_cons ha ab_nil he) (by decide) (by decide) he hpl) fun σ H Q ⟨B, G, ρ, d, r, k, q⟩ => by
    obtain ⟨x, hx, k⟩ := Option.bind_eq_some_iff.mp k
    refine ⟨B, G, ρ, [x], r, by simp only [lC, lN, hx]; rfl, fun vs G1 H1 w1 bs => ?_⟩
    obtain ⟨v, rfl, b⟩ := bs.one
    exact ⟨v, x, d, G1, rfl, w1.gh, b, hf x d k, fun u ru => q u G1 H1 w1 ru⟩
theorem f_lenT (hm : X.mg "len" = none) (ha : PB X e F) (hg : Gl X "len" := by rfl)
    (he : starEach [e] X.env = (false, eval e X.env) :: starEach [] X.env := by rfl) (hpl : (backTo pos (starEach [] X.env)).any (·.1) = false := by rfl) : PF X (.Call (.Name "len" p) [e] [] pos) (o1 lenTD F) := f_lenX lenTD (fun _ _ h => .inl h) hm ha hg he hpl
theorem f_lenN (hm : X.mg "len" = none) (ha : PB X e F) (hg : Gl X "len" := by rfl)
    (he : starEach [e] X.env = (false, eval e X.env) :: starEach [] X.env := by rfl) (hpl : (backTo pos (starEach [] X.env)).any (·.1) = false := by rfl) : PF X (.Call (.Name "len" p) [e] [] pos) (o1 lenND F) := f_lenX lenND (fun _ _ h => .inr h) hm ha hg he hpl
end
end DV
end

set_option Elab.async false
set_option linter.all false
set_option maxRecDepth 100000
set_option maxHeartbeats 4000000
/-! DVff: {k: v} with a flat tuple as key. -/
noncomputable section
namespace DV
open PySem PySem.Spec PyProof.Rows L2
section
variable {X : Cx} {pos : Pos}
def tDispT (tk tv : TE) : TE := fun σ H Q => ∀ p, H p = none → tPairs [(tk, tv)] σ (upd H p (.dT [])) fun ps H2 => H2 p = some (.dT []) ∧ ∃ (k : List Key) (b : Addr) (y : V), ps = [(.ref b, y)] ∧ H2 b = some (.tup (k.map kV)) ∧ Q (.ref p) (upd H2 p (.dT [(k, y)]))
theorem pe_dispT {k v : Expr} {tk tv : TE} (hu : X.A.units + 64 < cLine) (hk : PE X k tk) (hv : PE X v tv) : PE X (.Dict [some k] [v] pos) (tDispT tk tv) := by
  refine ⟨fun pins s σ H Q I q => ?_⟩
  have hn := I.hok.fresh (Nat.le_refl s.heap.objs.size)
  have I1 := I.laid (a := s.heap.objs.size) (o := .dT []) (h' := s.heap.push { cls := .type "dict", data := .dict #[] }) (t' := s.toks) (fun _ _ q => Heap.get?_push_of_some _ q) (Nat.le_refl _) (dt_empty s.heap I.big)
  have hl : (pairTrees [some k] [v] X.env pos).length = 1 := pairTrees_length [some k] [v] X.env pos rfl rfl
  have run := (pps_cons (pos := pos) hk hv pps_nil).run pins _ σ _ _ I1 (q _ hn)
  rw [arm_eval_Dict, zip_pairTrees [some k] [v] X.env pos rfl rfl, dictDisplay_pairs _ (fun z => by rw [z] at hl; cases hl) (by rw [hl]; decide)]
  refine wpAny_bind (wpAny_standAt (wpAny_bind (wpAny_subDictH (knd := tupleKind (mixKind X.prog X.w)) (show X.A.units < cLine by omega) (by rw [hl]; decide) (thn run fun ws s2 ⟨ps, H2, I2, rel, e, kk, b, y, ep, hb, q2⟩ => ?_))))
  subst ep
  cases rel with
  | @cons _ w _ _ r1 r2 =>
    cases r2
    obtain ⟨w1, w2⟩ := w
    obtain ⟨g1, g2⟩ := r1
    obtain rfl : w1 = Value.ref b := g1
    obtain ⟨z, hd, xs, r0, dd⟩ := dt_of I2.hok e
    cases r0
    refine ⟨[(kk, b, w2)], ⟨rfl, rfl, key_of I2.hok hb, trivial⟩, dd, fun h' tk dd' hs => wpAny_pure ?_⟩
    have dd2 : h'.DictOfH (tupleKind (mixKind X.prog X.w)) s.heap.objs.size [(kk, b, w2)] := dd'
    obtain ⟨ob, es, epp, hq, h2, h3, h4, _, h5⟩ := dd2
    refine ⟨.ref s.heap.objs.size, _, d_write I2 (ob := .dT [(kk, y)]) (by rw [e]; exact True.intro) hs ⟨ob, hq⟩ ⟨by show 1 ≤ _; rw [sizeLine_eq]; decide, hd, [(kk, b, w2)], .cons ⟨rfl, ?_, g2⟩ .nil, ob, es, epp, hq, h2, h3, h4, h5⟩, rfl, q2⟩
    show upd H2 s.heap.objs.size _ b = _
    rw [upd_ne (ne_of hb e (fun z => nomatch z))]
    exact hb
def eD1T (a b : FE) : FE := fun ρ => (a ρ).bind fun x => (b ρ).bind fun y => (tkeyOf x).map fun _ => .dict [(.none, .int 1), (x, y)]
theorem n_d1T {k v : Expr} {Fk Fv : FE} (hu : X.A.units + 64 < cLine) (hk : PF X k Fk) (hv : PF X v Fv) : PN X (.Dict [some k] [v] pos) (eD1T Fk Fv) :=
  PE.weak (pe_dispT hu hk hv) fun σ H Q ⟨B, G, ρ, d, r, k, q⟩ => by
    obtain ⟨x, hx, k⟩ := Option.bind_eq_some_iff.mp k
    obtain ⟨y, hy, k⟩ := Option.bind_eq_some_iff.mp k
    obtain ⟨kk, hkk, k⟩ := Option.map_eq_some_iff.mp k
    subst k
    intro p hp
    have w0 : DV.Gw G H G (upd H p (.dT [])) := ⟨Same.refl _, same_upd hp, r.gh.trans (same_upd hp), fun _ _ e => .inl e⟩
    refine ⟨B, G, ρ, x, r.step w0, hx, fun u1 G1 H1 w1 r1 => ⟨B, G1, ρ, y, (r.step w0).step w1, hy, fun u2 G2 H2 w2 r2 => ?_⟩⟩
    have w := w1.trans w2
    have hd : H2 p = some (.dT []) := w.h _ _ upd_same
    have hg : G2 p = none := by
      cases e : G2 p with
      | none => rfl
      | some o =>
        rcases w.new p o e with z | z
        · rw [r.gh.free hp] at z; cases z
        · rcases z with z | ⟨xs, z⟩ <;> (rw [upd_same] at z; cases z)
    cases tkeyOf_some hkk
    have r1' := r1
    cases r1 with
    | @tup b xs _ h1 h2 =>
      rw [h2.keys] at h1
      have hb2 : G2 b = some (.tup (kk.map kV)) := w2.g _ _ h1
      refine ⟨hd, kk, b, u2, rfl, w2.gh _ _ hb2, ?_⟩
      refine q _ G2 _ ⟨w.g, (fun b o e => ?_), (fun b o e => ?_), (fun b o e => ?_)⟩ ⟨p, rfl, hp, hg, .dcT upd_same rfl (.cons r2 .nil)⟩
      · rw [upd_ne (ne_of_none e hp)]
        exact w.h b o (by rw [upd_ne (ne_of_none e hp)]; exact e)
      · rw [upd_ne (ne_of_none e hg)]
        exact w.gh b o e
      · rcases w.new b o e with z | z
        · exact .inl z
        · by_cases hb : b = p
          · subst hb; exact .inr (.inl hp)
          · unfold Nw at z; rw [upd_ne hb] at z; exact .inr z
end
end DV
end

set_option Elab.async false
set_option linter.all false
set_option maxRecDepth 100000
set_option maxHeartbeats 4000000
/-! DVgg: dict comprehensions whose keys are flat tuples, with one clause or two. -/
noncomputable section
namespace DV
open PySem PySem.Spec PyProof.Rows L2
/-! ### the block's steps -/
section
variable {prog : Program} {w : World} {A : Around} {R : Result → Shared → Prop} {s : Shared} {kx vx t0 i0 t1 i1 : Expr} {ifs0 ifs1 : List Expr} {scope : Scope} {pos : Pos} {it : Value} {D : Addr} {env : PySem.Env}
theorem dturn_out (acc : Value) :
    compTurn (.DictComp kx vx [⟨t0, i0, ifs0, 0⟩, ⟨t1, i1, ifs1, 0⟩] scope pos) 0 it acc env = (do
      standAt i0.pos
      match ← pyNext it with
      | none => pure (.done .next)
      | some v =>
        letOwnedTupleGo t0 it v
        assign t0 env v
        let mut ok := true
        for c in ifs0 do
          if ok then ok ← isTrue c env (eval c env)
        if ok then
          let x ← eval i1 env
          standAt i1.pos
          let x ← foldedSetIterable i1 env x
          let _ ← runOwn (.compStart (.DictComp kx vx [⟨t0, i0, ifs0, 0⟩, ⟨t1, i1, ifs1, 0⟩] scope pos) 1 (← holding [x] (pyIter x)) acc env) env
        again (.compLoop (.DictComp kx vx [⟨t0, i0, ifs0, 0⟩, ⟨t1, i1, ifs1, 0⟩] scope pos) 0 it acc env)) := by rfl
theorem dturn_in :
    compTurn (.DictComp kx vx [⟨t0, i0, ifs0, 0⟩, ⟨t1, i1, ifs1, 0⟩] scope pos) 1 it (.ref D) env = (do
      standAt i1.pos
      match ← pyNext it with
      | none => pure (.done .next)
      | some v =>
        letOwnedTupleGo t1 it v
        assign t1 env v
        let mut ok := true
        for c in ifs1 do
          if ok then ok ← isTrue c env (eval c env)
        if ok then
          (do
            let kv ← eval kx env
            let vv ← holding [kv] (eval vx env)
            standAt { kx.pos with endLine := vx.pos.endLine, endCol := vx.pos.endCol }
            holding [kv, vv] (dictSet D kv vv))
        again (.compLoop (.DictComp kx vx [⟨t0, i0, ifs0, 0⟩, ⟨t1, i1, ifs1, 0⟩] scope pos) 1 it (.ref D) env)) := by rfl
theorem dloop_out {acc : Value} (hs : ∀ x, foldedSetIterable i1 env x = pure x) (I : Nat → Shared → Prop)
    (turn : ∀ n s, I n s → wpAny (model prog w) A (pyNext it) (fun r s₁ => match r with
      | none => R (.ok .next) s₁
      | some v => wpAny (model prog w) A (letOwnedTupleGo t0 it v) (fun _ s₁' => wpAny (model prog w) A (assign t0 env v) (fun _ s₂ =>
          wpAny (model prog w) A (forIn ifs0 true fun c r => if r = true then do let ok ← isTrue c env (eval c env); pure (ForInStep.yield ok) else pure (ForInStep.yield r)) (fun ok s₃ =>
            if ok = true then wpAny (model prog w) A (eval i1 env) (fun x s₄ => wpAny (model prog w) A (pyIter x) (fun it1 s₅ =>
              codeAny (model prog w) A (.compStart (.DictComp kx vx [⟨t0, i0, ifs0, 0⟩, ⟨t1, i1, ifs1, 0⟩] scope pos) 1 it1 acc env) (fun r s' => match r with
                | .ok _ => ∃ m, m < n ∧ I m s'
                | .error _ => False) s₅) (notedBy (model prog w) A env fun e s' => R (.error e) s') s₄) (notedBy (model prog w) A env fun e s' => R (.error e) s') s₃
            else ∃ m, m < n ∧ I m s₃) (notedBy (model prog w) A env fun e s' => R (.error e) s') s₂) (notedBy (model prog w) A env fun e s' => R (.error e) s') s₁') (notedBy (model prog w) A env fun e s' => R (.error e) s') s₁) (notedBy (model prog w) A env fun e s' => R (.error e) s') s)
    (n : Nat) (h : I n s) :
    codeAny (model prog w) A (.compLoop (.DictComp kx vx [⟨t0, i0, ifs0, 0⟩, ⟨t1, i1, ifs1, 0⟩] scope pos) 0 it acc env) R s := by
  refine codeAny_loop rfl I (fun n s hI => ?_) n h
  show wpAny _ A ((compTurn (.DictComp kx vx [⟨t0, i0, ifs0, 0⟩, ⟨t1, i1, ifs1, 0⟩] scope pos) 0 it acc env).onRaise (fun x => do noteFrame x env; theTreesLotGoes x)) _ _ s
  refine wpAny_noted ?_
  rw [dturn_out]
  refine wpAny_bind (wpAny_standAt (wpAny_bind (wpAny_mono (turn n s hI) (fun r s₁ h₁ => ?_) fun _ _ h' => h')))
  cases r with
  | none => exact wpAny_pure h₁
  | some v =>
    refine wpAny_bind (wpAny_mono h₁ (fun _ s₁' h₁' => ?_) fun _ _ h' => h')
    refine wpAny_bind (wpAny_mono h₁' (fun _ s₂ h₂ => wpAny_bind (wpAny_mono h₂ (fun ok s₃ h₃ => ?_) fun _ _ h' => h')) fun _ _ h' => h')
    cases ok with
    | false => exact wpAny_pure ⟨rfl, h₃⟩
    | true =>
      refine wpAny_bind (wpAny_mono h₃ (fun x s₄ h₄ => ?_) fun _ _ h' => h')
      refine wpAny_bind (wpAny_standAt (wpAny_bind (wpAny_of_eq (hs x) (wpAny_bind (wpAny_holding (wpAny_mono h₄ (fun it1 s₅ h₅ => ?_) fun _ _ h' => h'))))))
      refine wpAny_bind (wpAny_runOwn ?_)
      rw [Around.mark_none]
      refine codeAny_mono h₅ fun r s' hr => ?_
      cases r with
      | ok f =>
        first
          | exact wpAny_pure ⟨rfl, hr⟩
          | exact wpAny_bind (wpAny_pure (wpAny_pure ⟨rfl, hr⟩))
      | error e => exact hr.elim
theorem dloop_in (I : Nat → Shared → Prop)
    (turn : ∀ n s, I n s → wpAny (model prog w) A (pyNext it) (fun r s₁ => match r with
      | none => R (.ok .next) s₁
      | some v => wpAny (model prog w) A (letOwnedTupleGo t1 it v) (fun _ s₁' => wpAny (model prog w) A (assign t1 env v) (fun _ s₂ =>
          wpAny (model prog w) A (forIn ifs1 true fun c r => if r = true then do let ok ← isTrue c env (eval c env); pure (ForInStep.yield ok) else pure (ForInStep.yield r)) (fun ok s₃ =>
            if ok = true then wpAny (model prog w) A (eval kx env) (fun kv s₄ => wpAny (model prog w) A (eval vx env) (fun vv s₅ =>
              wpAny (model prog w) A (dictSet D kv vv) (fun _ s₆ => ∃ m, m < n ∧ I m s₆) (notedBy (model prog w) A env fun e s' => R (.error e) s') s₅) (notedBy (model prog w) A env fun e s' => R (.error e) s') s₄) (notedBy (model prog w) A env fun e s' => R (.error e) s') s₃
            else ∃ m, m < n ∧ I m s₃) (notedBy (model prog w) A env fun e s' => R (.error e) s') s₂) (notedBy (model prog w) A env fun e s' => R (.error e) s') s₁') (notedBy (model prog w) A env fun e s' => R (.error e) s') s₁) (notedBy (model prog w) A env fun e s' => R (.error e) s') s)
    (n : Nat) (h : I n s) :
    codeAny (model prog w) A (.compLoop (.DictComp kx vx [⟨t0, i0, ifs0, 0⟩, ⟨t1, i1, ifs1, 0⟩] scope pos) 1 it (.ref D) env) R s := by
  refine codeAny_loop rfl I (fun n s hI => ?_) n h
  show wpAny _ A ((compTurn (.DictComp kx vx [⟨t0, i0, ifs0, 0⟩, ⟨t1, i1, ifs1, 0⟩] scope pos) 1 it (.ref D) env).onRaise (fun x => do noteFrame x env; theTreesLotGoes x)) _ _ s
  refine wpAny_noted ?_
  rw [dturn_in]
  refine wpAny_bind (wpAny_standAt (wpAny_bind (wpAny_mono (turn n s hI) (fun r s₁ h₁ => ?_) fun _ _ h' => h')))
  cases r with
  | none => exact wpAny_pure h₁
  | some v =>
    refine wpAny_bind (wpAny_mono h₁ (fun _ s₁' h₁' => ?_) fun _ _ h' => h')
    refine wpAny_bind (wpAny_mono h₁' (fun _ s₂ h₂ => wpAny_bind (wpAny_mono h₂ (fun ok s₃ h₃ => ?_) fun _ _ h' => h')) fun _ _ h' => h')
    cases ok with
    | false => exact wpAny_pure ⟨rfl, h₃⟩
    | true =>
      exact wpAny_bind (wpAny_bind (wpAny_mono h₃ (fun kv s₄ h₄ => wpAny_bind (wpAny_holding (wpAny_mono h₄ (fun vv s₅ h₅ => wpAny_bind (wpAny_standAt (wpAny_holding (wpAny_mono h₅ (fun _ s₆ h₆ => wpAny_pure ⟨rfl, h₆⟩) fun _ _ h' => h')))) fun _ _ h' => h'))) fun _ _ h' => h'))
theorem dstart1 {acc : Value} (h0 : codeAny (model prog w) A (.compLoop (.DictComp kx vx [⟨t0, i0, ifs0, 0⟩, ⟨t1, i1, ifs1, 0⟩] scope pos) 1 it acc env) R s)
    (h : wpAny (model prog w) A (pyIter it) (fun it' s' => codeAny (model prog w) A (.compLoop (.DictComp kx vx [⟨t0, i0, ifs0, 0⟩, ⟨t1, i1, ifs1, 0⟩] scope pos) 1 it' acc env) R s')
      (notedBy (model prog w) A env fun x s' => R (.error x) s') s) :
    codeAny (model prog w) A (.compStart (.DictComp kx vx [⟨t0, i0, ifs0, 0⟩, ⟨t1, i1, ifs1, 0⟩] scope pos) 1 it acc env) R s := by
  refine codeAny_of_tree ?_
  show wpAny _ _ ((compStart (.DictComp kx vx [⟨t0, i0, ifs0, 0⟩, ⟨t1, i1, ifs1, 0⟩] scope pos) 1 it acc env).onRaise (fun x => do noteFrame x env; standAt theWindowsPlace)) _ _ s
  refine wpAny_notedAt ?_
  unfold compStart
  show wpAny _ _ (ask >>= _) _ _ s
  refine wpAny_bind (wpAny_askSetting (wpAny_ite ?_))
  split
  · first
      | exact wpAny_bind (wpAny_pure (wpAny_pure (And.intro rfl h0)))
      | exact wpAny_pure (And.intro rfl h0)
  · first
      | exact wpAny_bind (wpAny_rule (wpAny_bind (wpAny_standAt (wpAny_bind (wpAny_mono h (fun it' s' h' => wpAny_pure (And.intro rfl h')) fun _ _ x => x)))))
      | (refine wpAny_bind (wpAny_rule ?_); show wpAny _ _ (standAt i1.pos >>= _) _ _ s; exact wpAny_bind (wpAny_standAt (wpAny_bind (wpAny_mono h (fun it' s' h' => wpAny_pure (And.intro rfl h')) fun _ _ x => x))))
end
/-! ### the store -/
theorem dsetT {X : Cx} {pins : List (Addr × Obj)} {σ : St} {H : Hp} {s : Shared} {E : Value → Shared → Prop} {D b : Addr} {kvs : List (List Key × V)} {k : List Key} {v : V} {r : Value} {Q : Unit → Shared → Prop} (hu : X.A.units + 64 < cLine) (I : Inv X pins σ H s) (hD : H D = some (.dT kvs)) (hz : kvs.length < sizeLine)
    (hb : H b = some (.tup (k.map kV))) (rv : RelV v r) (h : ∀ s', Inv X pins σ (upd H D (.dT (putK kvs k v))) s' → Q () s') : wpAny (model X.prog X.w) X.A (dictSet D (.ref b) r) Q E s := by
  obtain ⟨z, hd, xs, rel, dd⟩ := dt_of I.hok hD
  have hzv : xs.length ≤ sizeLine := by rw [← Paired.length rel]; exact z
  have hl : (putK kvs k v).length ≤ sizeLine := by have := length_putK kvs k v; omega
  refine wpAny_dictSet_heap (hsz := hzv) (show X.A.units < cLine by omega) (key_of I.hok hb) dd fun h' dd' hs => h _ ?_
  obtain ⟨q, es, ep, hq, h2, h3, h4, _, h5⟩ := dd'
  refine d_write I (by rw [hD]; exact True.intro) hs ⟨q, hq⟩ ⟨hl, hd, _, (rel.put k hb rv).keeps fun c ys ec => ?_, q, es, ep, hq, h2, h3, h4, h5⟩
  rw [upd_ne (ne_of ec hD (fun z => nomatch z))]
  exact ec
section
variable {X : Cx}
/-- what is asked of a pair: the store of it leads to N -/
def tPut (tk tv : TE) (D : Addr) (σ : St) (H : Hp) (N : Hp → Prop) : Prop := tk σ H fun y H4 => tv σ H4 fun z H5 => ∃ kvs k b, y = .ref b ∧ H5 b = some (.tup (k.map kV)) ∧ H5 D = some (.dT kvs) ∧ kvs.length < sizeLine ∧ N (upd H5 D (.dT (putK kvs k z)))
def tDcT (wi : TI) (g : TG) (tt : TT) (tk tv : TE) (vs : List Nat) : TE := fun σ H Q => wi σ H fun J H1 => ∀ D, H1 D = none → ∃ W : Nat → Nat → Hp → Prop, (∃ m, W 0 m (upd H1 D (.dT []))) ∧ ∀ i m H, W i m H →
  (J.stop i H ∧ Q (.ref D) H) ∨ (J.go i H ∧ ∃ Nx : Hp → Prop, (∀ H', Nx H' → ∃ m', m' < m ∧ W (i + 1) m' H') ∧ ∀ x H', J.yld i H x H' → g x (wipe σ vs) H' fun σ2 H2 => wipe σ2 vs = wipe σ vs ∧ tt σ2 H2 fun b H3 =>
    if b = true then tPut tk tv D σ2 H3 Nx else Nx H3)
def tDc2T (wi : TI) (g : TG) (tt : TT) (wi1 : TI) (g1 : TG) (tt1 : TT) (tk tv : TE) (vs vs1 : List Nat) : TE := fun σ H Q => wi σ H fun J H1 => ∀ D, H1 D = none → ∃ W : Nat → Nat → Hp → Prop, (∃ m, W 0 m (upd H1 D (.dT []))) ∧ ∀ i m H, W i m H →
  (J.stop i H ∧ Q (.ref D) H) ∨ (J.go i H ∧ ∃ Nx : Hp → Prop, (∀ H', Nx H' → ∃ m', m' < m ∧ W (i + 1) m' H') ∧ ∀ x H', J.yld i H x H' → g x (wipe σ vs) H' fun σ2 H2 => wipe σ2 vs = wipe σ vs ∧ tt σ2 H2 fun b H3 =>
    if b = true then wi1 σ2 H3 fun J1 H4 => ∃ W1 : Nat → Nat → Hp → Prop, (∃ m, W1 0 m H4) ∧ ∀ j k H, W1 j k H →
      (J1.stop j H ∧ Nx H) ∨ (J1.go j H ∧ ∃ Nx1 : Hp → Prop, (∀ H', Nx1 H' → ∃ k', k' < k ∧ W1 (j + 1) k' H') ∧ ∀ x H', J1.yld j H x H' → g1 x (wipe σ2 vs1) H' fun σ3 H5 => wipe σ3 vs1 = wipe σ2 vs1 ∧ tt1 σ3 H5 fun b H6 =>
        if b = true then tPut tk tv D σ3 H6 Nx1 else Nx1 H6)
    else Nx H3)
/-- the block of a dict comprehension is set up, its loop stands before us -/
theorem dcT_setup {pins : List (Addr × Obj)} {s : Shared} {σ : St} {H : Hp} {kx vx tg iter : Expr} {ifs : List Expr} {rest : List Comprehension} {scope : Scope} {own : List (Str × Nat)} {pos pos' : Pos} {wi : TI} {use : Option (Value → Sem Unit)} {Qf : Value → Shared → Prop} {Lp : It → Hp → Addr → Prop} {Q : VK}
    (hc : X.calm = true) (hN : X.N.Nodup) (I : Inv X pins σ H s) (hi : PI X tg iter wi) (ok : BlkOk X.N X.env.scope scope own) (hs : ∀ x, foldedSetIterable iter X.env x = pure x)
    (h : wi σ H fun J H1 => ∀ D, H1 D = none → Lp J H1 D)
    (loop : ∀ (s3 : Shared) (H3 : Hp) (C : Addr) (cl : List (Str × Addr)) (fp : List Addr) (it D : Addr) (tn : Nat → Heap → Prop) (J : It) (H1 : Hp) (s4 : Shared) (R : Result → Shared → Prop), Lp J H1 D → H3 = upd H1 D (.dT []) →
      Inv (X.blk s3 H3 scope (compEnvC scope cl C X.env) fp) [] (wipe σ (own.map (·.2))) H3 s4 → Turn X.prog X.w X.K tg J fp it tn → tn 0 s4.heap → (∀ b ∈ fp, H3 b = none) →
      (∀ {σ' : St} {H' : Hp} {s' : Shared}, Inv (X.blk s3 H3 scope (compEnvC scope cl C X.env) fp) [] σ' H' s' → (∀ b ∈ fp, H' b = none) → ∀ b ∈ fp, FpOk (X.blk s3 H3 scope (compEnvC scope cl C X.env) fp) [] H' b) →
      (∀ s6 σ6 H5, Inv (X.blk s3 H3 scope (compEnvC scope cl C X.env) fp) [] σ6 H5 s6 → Q (.ref D) H5 → R (.ok .next) s6) →
      codeAny (model X.prog X.w) X.A (.compLoop (.DictComp kx vx (⟨tg, iter, ifs, 0⟩ :: rest) scope pos) 0 (.ref it) (.ref D) (compEnvC scope cl C X.env)) R s4)
    (hRR : ∀ D C s' m H', Inv X pins σ H' s' → Q (.ref D) H' → s'.heap.Ns C m → FpOk X pins H' C → compPost (model X.prog X.w) X.A X.xe use Qf (.ref D) C (.ok .next) s') :
    wpAny (model X.prog X.w) X.A (comprehension (.DictComp kx vx (⟨tg, iter, ifs, 0⟩ :: rest) scope pos) scope X.env pos' newDict false (eval iter X.env) use) Qf X.xe s := by
  have hfree : ∀ y ∈ scope.names, y.2 = .free → ∃ c, X.env.cells.lookup y.1 = some c := fun y hy e => by
    rcases ok.free y hy e with k | k
    · exact I.ok.has _ (.inl k)
    · exact I.ok.has _ (.inr k)
  refine wpAny_comprehension_free (use := use) rfl hs (closure_ok hfree) ok.kind (fun y hy e => by rw [ok.uniq y hy, e])
    (thn (hi.run pins s σ H _ I h) fun xv s1 hx => thn hx fun itv s2 h2 => ?_)
  obtain ⟨it, fp, tn, J, H2, e, I2, T, st2, f2, q⟩ := h2
  subst e
  refine wpAny_newObj_type (newEnv_comp ?_)
  generalize hD : s2.heap.objs.size = D
  have hDn : H2 D = none := I2.hok.fresh (Nat.le_of_eq hD)
  have lp := q D hDn
  generalize hs3 : ({ s2 with heap := s2.heap.push { cls := .type "dict", data := .dict #[] } } : Shared) = s3
  have I3 : Inv X pins σ (upd H2 D (.dT [])) s3 := by
    rw [← hs3]
    refine I2.laid (t' := s2.toks) (fun b o e => Heap.get?_push_of_some _ e) (Nat.le_of_eq hD) ?_
    rw [← hD]
    exact dt_empty s2.heap I2.big
  have h3 : s3.heap = s2.heap.push { cls := .type "dict", data := .dict #[] } := by rw [← hs3]
  have sz : ∀ b ∈ fp, b < s2.heap.objs.size := fun b hb => by
    obtain ⟨o, e, _⟩ := T.obj _ _ st2 b hb
    exact Heap.lt_size e
  have f3 : ∀ b ∈ fp, FpOk X pins (upd H2 D (.dT [])) b ∧ b < s3.heap.objs.size := fun b hb => by
    have hlt := sz b hb
    refine ⟨⟨?_, (f2 b hb).2⟩, by rw [h3, Heap.size_push]; exact Nat.lt_succ_of_lt hlt⟩
    rw [upd_ne (by rw [← hD]; exact Nat.ne_of_lt hlt)]
    exact (f2 b hb).1
  have st3 : tn 0 s3.heap := T.keep _ _ _ st2 fun b _ o e => by rw [h3]; exact Heap.get?_push_of_some _ e
  have I4 := block_start I3 ok hN f3
  have lq := loop s3 (upd H2 D (.dT [])) s3.heap.objs.size (cellsFrom (s3.heap.objs.size + 1) scope.names (cloFrom X.env.cells scope.names [])) fp
  show codeAny _ _ (.compStart (.DictComp kx vx (⟨tg, iter, ifs, 0⟩ :: rest) scope pos) 0 (.ref it) (.ref D) (compEnvC scope (cellsFrom (s3.heap.objs.size + 1) scope.names (cloFrom X.env.cells scope.names [])) s3.heap.objs.size X.env)) (compPost (model X.prog X.w) X.A X.xe use Qf (.ref D) s3.heap.objs.size) { s3 with heap := pushCells (s3.heap.push { cls := .type "dict", data := .dict #[] }) scope.names }
  have nfp : ∀ b ∈ fp, (upd H2 D (.dT [])) b = none := fun b hb => (f3 b hb).1.1
  generalize hce : compEnvC scope (cellsFrom (s3.heap.objs.size + 1) scope.names (cloFrom X.env.cells scope.names [])) s3.heap.objs.size X.env = ce at I4 lq ⊢
  have cL : ce.locals = s3.heap.objs.size := by subst hce; rfl
  generalize hH3 : upd H2 D (.dT []) = H3 at I3 I4 lq nfp f3
  generalize hs4 : ({ s3 with heap := pushCells (s3.heap.push { cls := .type "dict", data := .dict #[] }) scope.names } : Shared) = s4 at I4 ⊢
  have st4 : tn 0 s4.heap := T.keep _ _ _ st3 fun b _ o e => by rw [← hs4]; exact pushCells_keeps _ _ _ _ (Heap.get?_push_of_some _ e)
  have stat : ∀ {σ' : St} {H' : Hp} {s' : Shared}, Inv (X.blk s3 H3 scope ce fp) [] σ' H' s' → (∀ b ∈ fp, H' b = none) → ∀ b ∈ fp, FpOk (X.blk s3 H3 scope ce fp) [] H' b := fun {σ' H' s'} I' hn b hb =>
    ⟨hn b hb, (I'.ok.exf b hb).1, I'.ok.exfs b hb, .inl hb, fun x c e => (I'.ok.exf b hb).2 x c e, fun p hp => absurd (show p ∈ ([] : List (Addr × Obj)) ++ [] from hp) (by simp)⟩
  have loop : codeAny (model X.prog X.w) X.A (.compLoop (.DictComp kx vx (⟨tg, iter, ifs, 0⟩ :: rest) scope pos) 0 (.ref it) (.ref D) ce) (compPost (model X.prog X.w) X.A X.xe use Qf (.ref D) s3.heap.objs.size) s4 := by
    refine lq it D tn J H2 s4 _ lp hH3.symm I4 T st4 nfp stat fun s6 σ6 H5 I6 qq => ?_
    have I7 : Inv X pins σ H5 s6 := I3.call' (ch := fp) I6.os I6.base I6.hok I6.bare fun b hb => ⟨(f3 b hb).1.2.2.2.1, (f3 b hb).1.2.1, (f3 b hb).1.2.2.2.2.1, (f3 b hb).1.2.2.2.2.2⟩
    have nC : H5 s3.heap.objs.size = none := by
      have z : H5 ce.locals = none := I6.free
      rw [cL] at z
      exact z
    obtain ⟨m, hn, _⟩ := I6.loc
    have hn : s6.heap.Ns ce.locals m := hn
    rw [cL] at hn
    exact hRR D s3.heap.objs.size s6 m H5 I7 qq hn (I3.fpOk (Nat.le_refl _) nC)
  exact codeAny_compStart_dict loop (T.self X.A 0 _ _ _ st4 loop)
end
end DV
end

set_option Elab.async false
set_option linter.all false
set_option maxRecDepth 100000
set_option maxHeartbeats 4000000
/-! DVhh: the loops of dict comprehensions whose keys are flat tuples. -/
noncomputable section
namespace DV
open PySem PySem.Spec PyProof.Rows L2
section
variable {X : Cx}
theorem dcT_core {pins : List (Addr × Obj)} {s : Shared} {σ : St} {H : Hp} {Q : VK} {kx vx tg iter : Expr} {ifs : List Expr} {scope : Scope} {own : List (Str × Nat)} {pos pos' : Pos} {wi : TI} {g : TG} {tt : TT} {tk tv : TE} {use : Option (Value → Sem Unit)} {Qf : Value → Shared → Prop}
    (hu : X.A.units + 64 < cLine) (hc : X.calm = true) (hN : X.N.Nodup) (I : Inv X pins σ H s) (hi : PI X tg iter wi) (ok : BlkOk X.N X.env.scope scope own)
    (hg : ∀ (s : Shared) (H : Hp) (C : Addr) (cl : List (Str × Addr)) (fp : List Addr), PG (X.blk s H scope (compEnvC scope cl C X.env) fp) tg g) (ht : ∀ (s : Shared) (H : Hp) (C : Addr) (cl : List (Str × Addr)) (fp : List Addr), PTs (X.blk s H scope (compEnvC scope cl C X.env) fp) ifs tt)
    (hk : ∀ (s : Shared) (H : Hp) (C : Addr) (cl : List (Str × Addr)) (fp : List Addr), PE (X.blk s H scope (compEnvC scope cl C X.env) fp) kx tk)
    (he : ∀ (s : Shared) (H : Hp) (C : Addr) (cl : List (Str × Addr)) (fp : List Addr), PE (X.blk s H scope (compEnvC scope cl C X.env) fp) vx tv) (hs : ∀ x, foldedSetIterable iter X.env x = pure x)
    (h : tDcT wi g tt tk tv (own.map (·.2)) σ H Q)
    (hRR : ∀ D C s' m H', Inv X pins σ H' s' → Q (.ref D) H' → s'.heap.Ns C m → FpOk X pins H' C → compPost (model X.prog X.w) X.A X.xe use Qf (.ref D) C (.ok .next) s') :
    wpAny (model X.prog X.w) X.A (comprehension (.DictComp kx vx [⟨tg, iter, ifs, 0⟩] scope pos) scope X.env pos' newDict false (eval iter X.env) use) Qf X.xe s := by
  refine dcT_setup (Q := Q) hc hN I hi ok hs h (fun s3 H3 C cl fp it D tn J H1 s4 R lp hH I4 T st4 n4 stat fin => ?_) hRR
  obtain ⟨W, ⟨m0, w0⟩, turn⟩ := lp
  rw [← hH] at w0
  have pg := hg s3 H3 C cl fp
  have pt := ht s3 H3 C cl fp
  have pk := hk s3 H3 C cl fp
  have pe := he s3 H3 C cl fp
  generalize compEnvC scope cl C X.env = ce at *
  refine compLoop_anyD (fun n s' => ∃ i H', Inv (X.blk s3 H3 scope ce fp) [] (wipe σ (own.map (·.2))) H' s' ∧ tn i s'.heap ∧ (∀ b ∈ fp, H' b = none) ∧ W i n H') ?_ m0 ⟨0, H3, I4, st4, n4, w0⟩
  rintro n s5 ⟨i, H5, I5, st5, n5, w5⟩
  rcases turn i n H5 w5 with ⟨stop, qq⟩ | ⟨go, Nx, hNx, step⟩
  · have td := T.done (X.blk s3 H3 scope ce fp) rfl rfl rfl hc i [] s5 _ H5 (fun _ _ => False) I5 (stat I5 n5) st5 stop
    refine thnF td fun r s6 ⟨hr, I6⟩ => ?_
    subst hr
    exact fin s6 _ H5 I6 qq
  · have ti := T.item (X.blk s3 H3 scope ce fp) rfl rfl rfl hc i [] s5 _ H5 (fun _ _ => False) I5 (stat I5 n5) st5 go
    refine thnF ti fun r s6 ⟨u, hr, h6⟩ => ?_
    subst hr
    refine thnF h6 fun _ s7 ⟨x, H7, I7, r7, y7, st7, n7⟩ => ?_
    have I7' := I7.pinned (stat I7 n7) (T.obj _ _ st7)
    refine thnF (pg.run _ s7 _ H7 x u _ I7' r7 (step x H7 y7)) fun _ s8 ⟨σ8, H8, I8, hw8, q8⟩ => ?_
    refine thnF (pt.run _ s8 σ8 H8 _ I8 q8) fun b s9 ⟨H9, I9, q9⟩ => ?_
    have fin : ∀ {s' : Shared} {H' : Hp}, Inv (X.blk s3 H3 scope ce fp) ([] ++ pinsAt fp s7.heap) σ8 H' s' → Nx H' → ∃ m, m < n ∧ ∃ i H', Inv (X.blk s3 H3 scope ce fp) [] (wipe σ (own.map (·.2))) H' s' ∧ tn i s'.heap ∧ (∀ b ∈ fp, H' b = none) ∧ W i m H' := fun {s' H'} I' nx => by
      obtain ⟨m', hm, w'⟩ := hNx H' nx
      have pin' : ∀ b ∈ fp, ∀ o, s7.heap.get? b = some o → s'.heap.get? b = some o ∧ H' b = none := fun b hb o e =>
        let z := I'.pin (b, o) (List.mem_append_right _ (List.mem_append_right _ (mem_pinsAt hb e)))
        ⟨z.1, z.2.1⟩
      have hl : (wipe σ (own.map (·.2))).length = σ8.length := by rw [← hw8, wipe_length]
      refine ⟨m', hm, i + 1, H', (I'.unpinned (pins := [])).weak hl (fun j v e => ?_), T.keep _ _ _ st7 fun b hb o e => (pin' b hb o e).1, fun b hb => ?_, w'⟩
      · rw [← hw8] at e
        exact (wipe_some e).1
      · obtain ⟨o, e, _⟩ := T.obj _ _ st7 b hb
        exact (pin' b hb o e).2
    cases b with
    | false =>
      simp only [Bool.false_eq_true, if_false] at q9 ⊢
      exact fin I9 q9
    | true =>
      simp only [if_true] at q9 ⊢
      refine thnF (pk.run _ s9 σ8 H9 _ I9 q9) fun z s10 ⟨yk, H10, I10, r10, q10⟩ => ?_
      refine thnF (pe.run _ s10 σ8 H10 _ I10 q10) fun z2 s11 ⟨yv, H11, I11, r11, kvs, k, b, ek, hb11, hD11, hz11, nx⟩ => ?_
      subst ek
      obtain rfl : z = Value.ref b := r10
      exact dsetT (X := X.blk s3 H3 scope ce fp) hu I11 hD11 hz11 hb11 r11 fun s12 I12 => fin I12 nx
theorem dc2T_core {pins : List (Addr × Obj)} {s : Shared} {σ : St} {H : Hp} {Q : VK} {kx vx tg iter tg1 iter1 : Expr} {ifs ifs1 : List Expr} {scope : Scope} {own : List (Str × Nat)} {vs1 : List Nat} {pos pos' : Pos} {wi wi1 : TI} {g g1 : TG} {tt tt1 : TT} {tk tv : TE} {use : Option (Value → Sem Unit)} {Qf : Value → Shared → Prop}
    (hu : X.A.units + 64 < cLine) (hc : X.calm = true) (hN : X.N.Nodup) (I : Inv X pins σ H s) (hi : PI X tg iter wi) (ok : BlkOk X.N X.env.scope scope own) (hv : ∀ i ∈ vs1, i ∈ own.map (·.2))
    (hg : ∀ (s : Shared) (H : Hp) (C : Addr) (cl : List (Str × Addr)) (fp : List Addr), PG (X.blk s H scope (compEnvC scope cl C X.env) fp) tg g) (ht : ∀ (s : Shared) (H : Hp) (C : Addr) (cl : List (Str × Addr)) (fp : List Addr), PTs (X.blk s H scope (compEnvC scope cl C X.env) fp) ifs tt)
    (hi1 : ∀ (s : Shared) (H : Hp) (C : Addr) (cl : List (Str × Addr)) (fp : List Addr), PI (X.blk s H scope (compEnvC scope cl C X.env) fp) tg1 iter1 wi1)
    (hg1 : ∀ (s : Shared) (H : Hp) (C : Addr) (cl : List (Str × Addr)) (fp : List Addr), PG (X.blk s H scope (compEnvC scope cl C X.env) fp) tg1 g1)
    (ht1 : ∀ (s : Shared) (H : Hp) (C : Addr) (cl : List (Str × Addr)) (fp : List Addr), PTs (X.blk s H scope (compEnvC scope cl C X.env) fp) ifs1 tt1)
    (hk : ∀ (s : Shared) (H : Hp) (C : Addr) (cl : List (Str × Addr)) (fp : List Addr), PE (X.blk s H scope (compEnvC scope cl C X.env) fp) kx tk)
    (he : ∀ (s : Shared) (H : Hp) (C : Addr) (cl : List (Str × Addr)) (fp : List Addr), PE (X.blk s H scope (compEnvC scope cl C X.env) fp) vx tv) (hs : ∀ x, foldedSetIterable iter X.env x = pure x) (hs1 : ∀ env x, foldedSetIterable iter1 env x = pure x)
    (h : tDc2T wi g tt wi1 g1 tt1 tk tv (own.map (·.2)) vs1 σ H Q)
    (hRR : ∀ D C s' m H', Inv X pins σ H' s' → Q (.ref D) H' → s'.heap.Ns C m → FpOk X pins H' C → compPost (model X.prog X.w) X.A X.xe use Qf (.ref D) C (.ok .next) s') :
    wpAny (model X.prog X.w) X.A (comprehension (.DictComp kx vx [⟨tg, iter, ifs, 0⟩, ⟨tg1, iter1, ifs1, 0⟩] scope pos) scope X.env pos' newDict false (eval iter X.env) use) Qf X.xe s := by
  refine dcT_setup (Q := Q) hc hN I hi ok hs h (fun s3 H3 C cl fp it D tn J H1 s4 R lp hH I4 T st4 n4 stat fin => ?_) hRR
  obtain ⟨W, ⟨m0, w0⟩, turn⟩ := lp
  rw [← hH] at w0
  have pg := hg s3 H3 C cl fp
  have pt := ht s3 H3 C cl fp
  have pi1 := hi1 s3 H3 C cl fp
  have pg1 := hg1 s3 H3 C cl fp
  have pt1 := ht1 s3 H3 C cl fp
  have pk := hk s3 H3 C cl fp
  have pe := he s3 H3 C cl fp
  generalize compEnvC scope cl C X.env = ce at *
  refine dloop_out (hs1 ce) (fun n s' => ∃ i H', Inv (X.blk s3 H3 scope ce fp) [] (wipe σ (own.map (·.2))) H' s' ∧ tn i s'.heap ∧ (∀ b ∈ fp, H' b = none) ∧ W i n H') ?_ m0 ⟨0, H3, I4, st4, n4, w0⟩
  rintro n s5 ⟨i, H5, I5, st5, n5, w5⟩
  rcases turn i n H5 w5 with ⟨stop, qq⟩ | ⟨go, Nx, hNx, step⟩
  · have td := T.done (X.blk s3 H3 scope ce fp) rfl rfl rfl hc i [] s5 _ H5 (fun _ _ => False) I5 (stat I5 n5) st5 stop
    refine thnF td fun r s6 ⟨hr, I6⟩ => ?_
    subst hr
    exact fin s6 _ H5 I6 qq
  · have ti := T.item (X.blk s3 H3 scope ce fp) rfl rfl rfl hc i [] s5 _ H5 (fun _ _ => False) I5 (stat I5 n5) st5 go
    refine thnF ti fun r s6 ⟨u, hr, h6⟩ => ?_
    subst hr
    refine thnF h6 fun _ s7 ⟨x, H7, I7, r7, y7, st7, n7⟩ => ?_
    have I7' := I7.pinned (stat I7 n7) (T.obj _ _ st7)
    refine thnF (pg.run _ s7 _ H7 x u _ I7' r7 (step x H7 y7)) fun _ s8 ⟨σ8, H8, I8, hw8, q8⟩ => ?_
    refine thnF (pt.run _ s8 σ8 H8 _ I8 q8) fun b s9 ⟨H9, I9, q9⟩ => ?_
    have fin : ∀ {σ9 : St} {s' : Shared} {H' : Hp}, Inv (X.blk s3 H3 scope ce fp) ([] ++ pinsAt fp s7.heap) σ9 H' s' → (wipe σ (own.map (·.2))).length = σ9.length → (∀ (j : Nat) v, (wipe σ (own.map (·.2)))[j]? = some (some v) → σ9[j]? = some (some v)) → Nx H' →
        ∃ m, m < n ∧ ∃ i H', Inv (X.blk s3 H3 scope ce fp) [] (wipe σ (own.map (·.2))) H' s' ∧ tn i s'.heap ∧ (∀ b ∈ fp, H' b = none) ∧ W i m H' := fun {σ9 s' H'} I' hl hk nx => by
      obtain ⟨m', hm, w'⟩ := hNx H' nx
      have pin' : ∀ b ∈ fp, ∀ o, s7.heap.get? b = some o → s'.heap.get? b = some o ∧ H' b = none := fun b hb o e =>
        let z := I'.pin (b, o) (List.mem_append_right _ (List.mem_append_right _ (mem_pinsAt hb e)))
        ⟨z.1, z.2.1⟩
      refine ⟨m', hm, i + 1, H', (I'.unpinned (pins := [])).weak hl hk, T.keep _ _ _ st7 fun b hb o e => (pin' b hb o e).1, fun b hb => ?_, w'⟩
      obtain ⟨o, e, _⟩ := T.obj _ _ st7 b hb
      exact (pin' b hb o e).2
    have hl8 : (wipe σ (own.map (·.2))).length = σ8.length := by rw [← hw8, wipe_length]
    have hk8 : ∀ (j : Nat) v, (wipe σ (own.map (·.2)))[j]? = some (some v) → σ8[j]? = some (some v) := fun j v e => by
      rw [← hw8] at e
      exact (wipe_some e).1
    have hk9 : ∀ (j : Nat) v, (wipe σ (own.map (·.2)))[j]? = some (some v) → (wipe σ8 vs1)[j]? = some (some v) := fun j v e => by
      rw [← hw8] at e
      obtain ⟨e1, e2⟩ := wipe_some e
      rw [wipe_out fun z => e2 (hv j z)]
      exact e1
    cases b with
    | false =>
      simp only [Bool.false_eq_true, if_false] at q9 ⊢
      exact fin I9 hl8 hk8 q9
    | true =>
      simp only [if_true] at q9 ⊢
      refine thnF (pi1.run _ s9 σ8 H9 _ I9 q9) fun xv s10 hx => thnF hx fun itv s11 h11 => ?_
      obtain ⟨it1, fp1, tn1, J1, H11, e1, I11, T1, st11, f11, W1, ⟨m1, w1⟩, turn1⟩ := h11
      subst e1
      have stat1 : ∀ {H' : Hp}, (∀ b ∈ fp1, H' b = none) → ∀ b ∈ fp1, FpOk (X.blk s3 H3 scope ce fp) ([] ++ pinsAt fp s7.heap) H' b := fun hn b hb => ⟨hn b hb, (f11 b hb).2⟩
      have loop1 : codeAny (model X.prog X.w) X.A (.compLoop (.DictComp kx vx [⟨tg, iter, ifs, 0⟩, ⟨tg1, iter1, ifs1, 0⟩] scope pos) 1 (.ref it1) (.ref D) ce)
          (fun r s' => match r with
            | .ok _ => ∃ m, m < n ∧ ∃ i H', Inv (X.blk s3 H3 scope ce fp) [] (wipe σ (own.map (·.2))) H' s' ∧ tn i s'.heap ∧ (∀ b ∈ fp, H' b = none) ∧ W i m H'
            | .error _ => False) s11 := by
        refine dloop_in (fun k s' => ∃ j H', Inv (X.blk s3 H3 scope ce fp) ([] ++ pinsAt fp s7.heap) (wipe σ8 vs1) H' s' ∧ tn1 j s'.heap ∧ (∀ b ∈ fp1, H' b = none) ∧ W1 j k H') ?_ m1 ⟨0, H11, I11.weak (wipe_length _ _) (fun j v e => (wipe_some e).1), st11, fun b hb => (f11 b hb).1, w1⟩
        rintro k s12 ⟨j, H12, I12, st12, n12, w12⟩
        rcases turn1 j k H12 w12 with ⟨stop1, nx1⟩ | ⟨go1, Nx1, hNx1, step1⟩
        · refine thnF (T1.done (X.blk s3 H3 scope ce fp) rfl rfl rfl hc j _ s12 (wipe σ8 vs1) H12 (fun _ _ => False) I12 (stat1 n12) st12 stop1) fun r s13 ⟨hr, I13⟩ => ?_
          subst hr
          exact fin I13 (hl8.trans (wipe_length σ8 vs1).symm) hk9 nx1
        · refine thnF (T1.item (X.blk s3 H3 scope ce fp) rfl rfl rfl hc j _ s12 (wipe σ8 vs1) H12 (fun _ _ => False) I12 (stat1 n12) st12 go1) fun r s13 ⟨u1, hr, h13⟩ => ?_
          subst hr
          refine thnF h13 fun _ s14 ⟨x1, H14, I14, r14, y14, st14, n14⟩ => ?_
          have I14' := I14.pinned (stat1 n14) (T1.obj _ _ st14)
          refine thnF (pg1.run _ s14 (wipe σ8 vs1) H14 x1 u1 _ I14' r14 (step1 x1 H14 y14)) fun _ s15 ⟨σ15, H15, I15, hw15, q15⟩ => ?_
          refine thnF (pt1.run _ s15 σ15 H15 _ I15 q15) fun b1 s16 ⟨H16, I16, q16⟩ => ?_
          have fin1 : ∀ {s' : Shared} {H' : Hp}, Inv (X.blk s3 H3 scope ce fp) (([] ++ pinsAt fp s7.heap) ++ pinsAt fp1 s14.heap) σ15 H' s' → Nx1 H' → ∃ m, m < k ∧ ∃ j H', Inv (X.blk s3 H3 scope ce fp) ([] ++ pinsAt fp s7.heap) (wipe σ8 vs1) H' s' ∧ tn1 j s'.heap ∧ (∀ b ∈ fp1, H' b = none) ∧ W1 j m H' := fun {s' H'} I' nx => by
            obtain ⟨m', hm, w'⟩ := hNx1 H' nx
            have pin' : ∀ b ∈ fp1, ∀ o, s14.heap.get? b = some o → s'.heap.get? b = some o ∧ H' b = none := fun b hb o e =>
              let z := I'.pin (b, o) (List.mem_append_right _ (List.mem_append_right _ (mem_pinsAt hb e)))
              ⟨z.1, z.2.1⟩
            refine ⟨m', hm, j + 1, H', I'.unpinned.weak (by rw [← hw15, wipe_length]) (fun j v e => by rw [← hw15] at e; exact (wipe_some e).1), T1.keep _ _ _ st14 fun b hb o e => (pin' b hb o e).1, fun b hb => ?_, w'⟩
            obtain ⟨o, e, _⟩ := T1.obj _ _ st14 b hb
            exact (pin' b hb o e).2
          cases b1 with
          | false =>
            simp only [Bool.false_eq_true, if_false] at q16 ⊢
            exact fin1 I16 q16
          | true =>
            simp only [if_true] at q16 ⊢
            refine thnF (pk.run _ s16 σ15 H16 _ I16 q16) fun z s17 ⟨yk, H17, I17, r17, q17⟩ => ?_
            refine thnF (pe.run _ s17 σ15 H17 _ I17 q17) fun z2 s18 ⟨yv, H18, I18, r18, kvs, kk, b, ek, hb18, hD18, hz18, nx⟩ => ?_
            subst ek
            obtain rfl : z = Value.ref b := r17
            exact dsetT (X := X.blk s3 H3 scope ce fp) hu I18 hD18 hz18 hb18 r18 fun s19 I19 => fin1 I19 nx
      exact dstart1 loop1 (T1.self X.A 0 _ _ _ st11 loop1)
theorem pe_dcT {kx vx tg iter : Expr} {ifs : List Expr} {scope : Scope} {own : List (Str × Nat)} {pos : Pos} {wi : TI} {g : TG} {tt : TT} {tk tv : TE} (hu : X.A.units + 64 < cLine) (hc : X.calm = true) (hN : X.N.Nodup) (hi : PI X tg iter wi) (ok : BlkOk X.N X.env.scope scope own)
    (hg : ∀ (s : Shared) (H : Hp) (C : Addr) (cl : List (Str × Addr)) (fp : List Addr), PG (X.blk s H scope (compEnvC scope cl C X.env) fp) tg g) (ht : ∀ (s : Shared) (H : Hp) (C : Addr) (cl : List (Str × Addr)) (fp : List Addr), PTs (X.blk s H scope (compEnvC scope cl C X.env) fp) ifs tt)
    (hk : ∀ (s : Shared) (H : Hp) (C : Addr) (cl : List (Str × Addr)) (fp : List Addr), PE (X.blk s H scope (compEnvC scope cl C X.env) fp) kx tk)
    (he : ∀ (s : Shared) (H : Hp) (C : Addr) (cl : List (Str × Addr)) (fp : List Addr), PE (X.blk s H scope (compEnvC scope cl C X.env) fp) vx tv) (hs : ∀ x, foldedSetIterable iter X.env x = pure x := by intro _; rfl) :
    PE X (.DictComp kx vx [⟨tg, iter, ifs, 0⟩] scope pos) (tDcT wi g tt tk tv (own.map (·.2))) := by
  refine ⟨fun pins s σ H Q I h => ?_⟩
  rw [arm_eval_DictComp]
  refine dcT_core hu hc hN I hi ok hg ht hk he hs h fun D C s' m H' I' q hn f => ⟨m, hn, fun h'' sb => ?_⟩
  obtain ⟨f0, f1, f2, f3, f4, f5⟩ := f
  exact ⟨.ref D, H', I'.turned (t' := s'.toks) (fun b o hb e => (sb.2 b hb).trans e) f0 f1 f3 f4 f5, rfl, q⟩
theorem pe_dc2T {kx vx tg iter tg1 iter1 : Expr} {ifs ifs1 : List Expr} {scope : Scope} {own : List (Str × Nat)} {vs1 : List Nat} {pos : Pos} {wi wi1 : TI} {g g1 : TG} {tt tt1 : TT} {tk tv : TE} (hu : X.A.units + 64 < cLine) (hc : X.calm = true) (hN : X.N.Nodup) (hi : PI X tg iter wi) (ok : BlkOk X.N X.env.scope scope own) (hv : ∀ i ∈ vs1, i ∈ own.map (·.2))
    (hg : ∀ (s : Shared) (H : Hp) (C : Addr) (cl : List (Str × Addr)) (fp : List Addr), PG (X.blk s H scope (compEnvC scope cl C X.env) fp) tg g) (ht : ∀ (s : Shared) (H : Hp) (C : Addr) (cl : List (Str × Addr)) (fp : List Addr), PTs (X.blk s H scope (compEnvC scope cl C X.env) fp) ifs tt)
    (hi1 : ∀ (s : Shared) (H : Hp) (C : Addr) (cl : List (Str × Addr)) (fp : List Addr), PI (X.blk s H scope (compEnvC scope cl C X.env) fp) tg1 iter1 wi1)
    (hg1 : ∀ (s : Shared) (H : Hp) (C : Addr) (cl : List (Str × Addr)) (fp : List Addr), PG (X.blk s H scope (compEnvC scope cl C X.env) fp) tg1 g1)
    (ht1 : ∀ (s : Shared) (H : Hp) (C : Addr) (cl : List (Str × Addr)) (fp : List Addr), PTs (X.blk s H scope (compEnvC scope cl C X.env) fp) ifs1 tt1)
    (hk : ∀ (s : Shared) (H : Hp) (C : Addr) (cl : List (Str × Addr)) (fp : List Addr), PE (X.blk s H scope (compEnvC scope cl C X.env) fp) kx tk)
    (he : ∀ (s : Shared) (H : Hp) (C : Addr) (cl : List (Str × Addr)) (fp : List Addr), PE (X.blk s H scope (compEnvC scope cl C X.env) fp) vx tv) (hs : ∀ x, foldedSetIterable iter X.env x = pure x := by intro _; rfl) (hs1 : ∀ env x, foldedSetIterable iter1 env x = pure x := by intro _ _; rfl) :
    PE X (.DictComp kx vx [⟨tg, iter, ifs, 0⟩, ⟨tg1, iter1, ifs1, 0⟩] scope pos) (tDc2T wi g tt wi1 g1 tt1 tk tv (own.map (·.2)) vs1) := by
  refine ⟨fun pins s σ H Q I h => ?_⟩
  rw [arm_eval_DictComp]
  refine dc2T_core hu hc hN I hi ok hv hg ht hi1 hg1 ht1 hk he hs hs1 h fun D C s' m H' I' q hn f => ⟨m, hn, fun h'' sb => ?_⟩
  obtain ⟨f0, f1, f2, f3, f4, f5⟩ := f
  exact ⟨.ref D, H', I'.turned (t' := s'.toks) (fun b o hb e => (sb.2 b hb).trans e) f0 f1 f3 f4 f5, rfl, q⟩
end
end DV
end

set_option Elab.async false
set_option linter.all false
set_option maxRecDepth 100000
set_option maxHeartbeats 4000000
/-! DVii: dict comprehensions whose keys are flat tuples, read over data. -/
noncomputable section
namespace DV
open PySem PySem.Spec PyProof.Rows L2
section
local instance (priority := 1000000) cdii1 (p : Prop) : Decidable p := Classical.propDecidable p
def putT (acc : List (D × D)) (k v : D) : Option (List (D × D)) := (tkeyOf k).bind fun _ => if acc.length < sizeLine then some (dput acc k v) else none
theorem putT_i {acc acc' : List (D × D)} {k v : D} (h : putT acc k v = some acc') : ∃ kk : List Key, k = .tuple (kk.map keyD) ∧ acc.length < sizeLine ∧ acc' = dput acc k v := by
  obtain ⟨kk, h1, h⟩ := Option.bind_eq_some_iff.mp h
  split at h
  · cases h; exact ⟨kk, tkeyOf_some h1, by assumption, rfl⟩
  · cases h
theorem putT_s {acc : List (D × D)} {k v : D} {kk : List Key} (hk : tkeyOf k = some kk) (hz : acc.length < sizeLine) : putT acc k v = some (dput acc k v) := by
  unfold putT
  rw [hk]
  exact if_pos hz
end
def dcLT (g : FG) (t : FT) (fk fv : FE) (ρ : Env) : List D → List (D × D) → Option (List (D × D))
  | [], acc => some acc
  | d :: ds, acc => (g d ρ).bind fun ρ1 => (t ρ1).bind fun b => if b = true then (fk ρ1).bind fun k => (fv ρ1).bind fun v => (putT acc k v).bind fun acc' => dcLT g t fk fv ρ ds acc' else dcLT g t fk fv ρ ds acc
def dcL2 (i : Nat) (t : FT) (l1 : FI) (vs1 : List Nat) (g1 : FG) (t1 : FT) (fk fv : FE) (ρ : Env) : List D → List (D × D) → Option (List (D × D))
  | [], acc => some acc
  | d :: ds, acc => (t (ρ.set i (some (.shr d)))).bind fun b => if b = true then (l1 (ρ.set i (some (.shr d)))).bind fun ds1 => (dcLT g1 t1 fk fv (wipeE (ρ.set i (some (.shr d))) vs1) ds1 acc).bind fun acc' => dcL2 i t l1 vs1 g1 t1 fk fv ρ ds acc' else dcL2 i t l1 vs1 g1 t1 fk fv ρ ds acc
def eDcT (vs : List Nat) (l : FI) (g : FG) (t : FT) (fk fv : FE) : FE := fun ρ => (l ρ).bind fun ds => (dcLT g t fk fv (wipeE ρ vs) ds []).map fun kvs => .dict ((.none, .int 1) :: kvs)
def eDc2T (vs : List Nat) (l : FI) (i : Nat) (t : FT) (l1 : FI) (vs1 : List Nat) (g1 : FG) (t1 : FT) (fk fv : FE) : FE := fun ρ => (l ρ).bind fun ds => (dcL2 i t l1 vs1 g1 t1 fk fv (wipeE ρ vs) ds []).map fun kvs => .dict ((.none, .int 1) :: kvs)
/-- the dict that is being made -/
def AccT (W : Wd) (G1 H1 : Hp) (L : Addr) (G H : Hp) (acc : List (D × D)) : Prop := ∃ kv, Gw G1 H1 G H ∧ H L = some (.dT kv) ∧ G L = none ∧ acc.map (·.1) = kv.map (fun p => .tuple (p.1.map keyD)) ∧ Reps W G (acc.map (·.2)) (kv.map (·.2))
theorem AccT.free {W : Wd} {G1 H1 : Hp} {L : Addr} {G H G' H' : Hp} {acc : List (D × D)} (a : AccT W G1 H1 L G H acc) (w : Gw G H G' H') : G' L = none := by
  obtain ⟨kv, w0, hL, gL, _⟩ := a
  cases z : G' L with
  | none => rfl
  | some o =>
    rcases w.new L o z with z | z | ⟨xs, z⟩
    · rw [gL] at z; cases z
    · rw [hL] at z; cases z
    · rw [hL] at z; cases z
theorem AccT.step {W : Wd} {G1 H1 : Hp} {L : Addr} {G H G' H' : Hp} {acc : List (D × D)} (a : AccT W G1 H1 L G H acc) (w : Gw G H G' H') : AccT W G1 H1 L G' H' acc := by
  have f := a.free w
  obtain ⟨kv, w0, hL, gL, ka, ra⟩ := a
  exact ⟨kv, w0.trans w, w.h _ _ hL, f, ka, ra.mono w.g⟩
theorem tPut_of' {W : Wd} {G1 H1 B : Hp} {L : Addr} (h1L : H1 L = none) {G H : Hp} {acc acc' : List (D × D)} {ρ : Env} {σ : St} {fk fv : FE} {k v : D} {N : Hp → Prop} (a : AccT W G1 H1 L G H acc) (r : Rp W B G H ρ σ) (hk : fk ρ = some k) (hv : fv ρ = some v) (hp : putT acc k v = some acc')
    (q : ∀ G' H', Same G G' → AccT W G1 H1 L G' H' acc' → N H') : tPut (tF W fk) (tF W fv) L σ H N := by
  obtain ⟨kk, rfl, hz, rfl⟩ := putT_i hp
  refine ⟨B, G, ρ, _, r, hk, fun u1 G2 H2 w2 r1 => ⟨B, G2, ρ, v, r.step w2, hv, fun u2 G3 H3 w3 r2 => ?_⟩⟩
  have a3 := a.step (w2.trans w3)
  obtain ⟨kv, w0, hL, gL, ka, ra⟩ := a3
  have la := congrArg List.length ka
  rw [List.length_map, List.length_map] at la
  cases r1 with
  | @tup b xs _ e1 e2 =>
    rw [e2.keys] at e1
    have hb : G3 b = some (.tup (kk.map kV)) := w3.g _ _ e1
    obtain ⟨p1, p2⟩ := put_rel (enc := fun k => .tuple (k.map keyD)) keq_tkey (k := kk) r2 ka ra
    exact ⟨kv, kk, b, rfl, w3.gh _ _ hb, hL, by omega, q G3 _ (w2.trans w3).g ⟨putK kv kk u2, w0.atD h1L gL, upd_same, gL, p1, p2⟩⟩
theorem tPut_of {W : Wd} {G1 H1 B : Hp} {L : Addr} (h1L : H1 L = none) {G H : Hp} {acc acc' : List (D × D)} {ρ : Env} {σ : St} {fk fv : FE} {k v : D} {N : Hp → Prop} (a : AccT W G1 H1 L G H acc) (r : Rp W B G H ρ σ) (hk : fk ρ = some k) (hv : fv ρ = some v) (hp : putT acc k v = some acc')
    (q : ∀ G' H', AccT W G1 H1 L G' H' acc' → N H') : tPut (tF W fk) (tF W fv) L σ H N := tPut_of' h1L a r hk hv hp fun G' H' _ a => q G' H' a
theorem dcT_read {W : Wd} {l : FI} {g : FG} {t : FT} {fk fv : FE} {vs : List Nat} {σ : L2.St} {H : Hp} {Q : VK} (h : tN W (eDcT vs l g t fk fv) σ H Q) : tDcT (tIH W l) (tGc W vs g) (tT W t) (tF W fk) (tF W fv) vs σ H Q := by
  obtain ⟨B, G, ρ, d, r, k, q⟩ := h
  obtain ⟨ds, hd, k⟩ := Option.bind_eq_some_iff.mp k
  obtain ⟨ys, hy, k⟩ := Option.map_eq_some_iff.mp k
  subst k
  refine ⟨B, G, ρ, ds, r, hd, fun J G1 H1 w1 it L hL => ?_⟩
  have gL : G1 L = none := w1.gh.free hL
  refine ⟨fun i m H => m = ds.length - i ∧ i ≤ ds.length ∧ ∃ G2 acc, AccT W G1 H1 L G2 H acc ∧ dcLT g t fk fv (wipeE ρ vs) (ds.drop i) acc = some ys,
    ⟨_, rfl, Nat.zero_le _, G1, [], ⟨[], (Gw.refl w1.gh).atD hL gL, upd_same, gL, rfl, .nil⟩, hy⟩, ?_⟩
  rintro i m H2 ⟨rfl, hi, G2, acc, a2, hzs⟩
  have a2' := a2
  obtain ⟨kv, w2, hL2, gL2, ka, ra⟩ := a2'
  obtain ⟨hstop, hgo⟩ := it G2 H2 w2 i
  by_cases hlt : i < ds.length
  · have e : ds.drop i = ds[i] :: ds.drop (i + 1) := List.drop_eq_getElem_cons hlt
    rw [e] at hzs
    obtain ⟨ρ1, h1, hzs⟩ := Option.bind_eq_some_iff.mp hzs
    obtain ⟨b, h2, hzs⟩ := Option.bind_eq_some_iff.mp hzs
    obtain ⟨go, yld⟩ := hgo ds[i] (List.getElem?_eq_getElem hlt)
    refine .inr ⟨go, fun H => ∃ G2 acc, AccT W G1 H1 L G2 H acc ∧ dcLT g t fk fv (wipeE ρ vs) (ds.drop (i + 1)) acc = some ys, fun H' z => ⟨_, by omega, rfl, hlt, z⟩, fun x H' y => ?_⟩
    obtain ⟨G3, w3, rx⟩ := yld x H' y
    refine ⟨B, G3, wipeE ρ vs, ds[i], ρ1, ((r.step w1).step (w2.trans w3)).wipe vs, rx, h1, fun σ4 r4 e4 => ⟨e4.trans wipe_wipe, B, G3, ρ1, b, r4, h2, fun G5 H5 w5 => ?_⟩⟩
    by_cases eb : b = true
    · rw [if_pos eb] at hzs ⊢
      obtain ⟨k1, hk1, hzs⟩ := Option.bind_eq_some_iff.mp hzs
      obtain ⟨v1, hv1, hzs⟩ := Option.bind_eq_some_iff.mp hzs
      obtain ⟨acc', hp, hzs⟩ := Option.bind_eq_some_iff.mp hzs
      exact tPut_of hL (a2.step (w3.trans w5)) (r4.step w5) hk1 hv1 hp fun G' H' a' => ⟨G', acc', a', hzs⟩
    · rw [if_neg eb] at hzs ⊢
      exact ⟨G5, acc, a2.step (w3.trans w5), hzs⟩
  · have e : i = ds.length := by omega
    subst e
    rw [List.drop_length] at hzs
    cases hzs
    exact .inl ⟨hstop (Nat.le_refl _), q _ G2 H2 (w1.trans w2) ⟨L, rfl, w1.h.free hL, gL2, .dcT hL2 ka ra⟩⟩
theorem dc2T_read {W : Wd} {l l1 : FI} {g1 : FG} {i : Nat} {t t1 : FT} {fk fv : FE} {vs vs1 : List Nat} (hi : i ∈ vs) {σ : L2.St} {H : Hp} {Q : VK} (h : tN W (eDc2T vs l i t l1 vs1 g1 t1 fk fv) σ H Q) : tDc2T (tIH W l) (gName i) (tT W t) (tI W l1) (tGc W vs1 g1) (tT W t1) (tF W fk) (tF W fv) vs vs1 σ H Q := by
  obtain ⟨B, G, ρ, d, r, k, q⟩ := h
  obtain ⟨ds, hd, k⟩ := Option.bind_eq_some_iff.mp k
  obtain ⟨ys, hy, k⟩ := Option.map_eq_some_iff.mp k
  subst k
  refine ⟨B, G, ρ, ds, r, hd, fun J G1 H1 w1 it L hL => ?_⟩
  have gL : G1 L = none := w1.gh.free hL
  refine ⟨fun n m H => m = ds.length - n ∧ n ≤ ds.length ∧ ∃ G2 acc, AccT W G1 H1 L G2 H acc ∧ dcL2 i t l1 vs1 g1 t1 fk fv (wipeE ρ vs) (ds.drop n) acc = some ys,
    ⟨_, rfl, Nat.zero_le _, G1, [], ⟨[], (Gw.refl w1.gh).atD hL gL, upd_same, gL, rfl, .nil⟩, hy⟩, ?_⟩
  rintro n m H2 ⟨rfl, hn, G2, acc, a2, hzs⟩
  have a2' := a2
  obtain ⟨kv, w2, hL2, gL2, ka, ra⟩ := a2'
  obtain ⟨hstop, hgo⟩ := it G2 H2 w2 n
  by_cases hlt : n < ds.length
  · have e : ds.drop n = ds[n] :: ds.drop (n + 1) := List.drop_eq_getElem_cons hlt
    rw [e] at hzs
    obtain ⟨b, h2, hzs⟩ := Option.bind_eq_some_iff.mp hzs
    obtain ⟨go, yld⟩ := hgo ds[n] (List.getElem?_eq_getElem hlt)
    refine .inr ⟨go, fun H => ∃ G2 acc, AccT W G1 H1 L G2 H acc ∧ dcL2 i t l1 vs1 g1 t1 fk fv (wipeE ρ vs) (ds.drop (n + 1)) acc = some ys, fun H' z => ⟨_, by omega, rfl, hlt, z⟩, fun x H' y => ?_⟩
    obtain ⟨G3, w3, rx⟩ := yld x H' y
    have rr : ∀ {G' H'}, Gw G1 H1 G' H' → Rep W G' ds[n] x → Rp W B G' H' ((wipeE ρ vs).set i (some (.shr ds[n]))) ((L2.wipe σ vs).set i (some x)) := fun w rx => (((r.step w1).step w).wipe vs).set_shr rx
    refine ⟨(wipe_set hi).trans wipe_wipe, B, G3, _, b, rr (w2.trans w3) rx, h2, fun G5 H5 w5 => ?_⟩
    by_cases eb : b = true
    · rw [if_pos eb] at hzs ⊢
      obtain ⟨ds1, hl1, hzs⟩ := Option.bind_eq_some_iff.mp hzs
      obtain ⟨acc1, hin, hzs⟩ := Option.bind_eq_some_iff.mp hzs
      have a5 := a2.step (w3.trans w5)
      have rx5 := rx.mono w5.g
      refine ⟨B, G5, _, ds1, rr ((w2.trans w3).trans w5) rx5, hl1, fun J1 G6 H6 w6 it1 => ?_⟩
      have a6 := a5.step w6
      have rx6 := rx5.mono w6.g
      refine ⟨fun j m H => m = ds1.length - j ∧ j ≤ ds1.length ∧ ∃ G7 acc7, Same G6 G7 ∧ AccT W G1 H1 L G7 H acc7 ∧ dcLT g1 t1 fk fv (wipeE ((wipeE ρ vs).set i (some (.shr ds[n]))) vs1) (ds1.drop j) acc7 = some acc1, ⟨_, rfl, Nat.zero_le _, G6, acc, Same.refl _, a6, hin⟩, ?_⟩
      rintro j m H7 ⟨rfl, hj, G7, acc7, sg7, a7, hzs7⟩
      have a7' := a7
      obtain ⟨kv7, w7, hL7, gL7, ka7, ra7⟩ := a7'
      obtain ⟨hstop1, hgo1⟩ := it1 G7 H7 sg7 w7.gh j
      by_cases hlt1 : j < ds1.length
      · have e : ds1.drop j = ds1[j] :: ds1.drop (j + 1) := List.drop_eq_getElem_cons hlt1
        rw [e] at hzs7
        obtain ⟨ρ8, h8, hzs7⟩ := Option.bind_eq_some_iff.mp hzs7
        obtain ⟨b8, h9, hzs7⟩ := Option.bind_eq_some_iff.mp hzs7
        obtain ⟨go1, yld1⟩ := hgo1 ds1[j] (List.getElem?_eq_getElem hlt1)
        refine .inr ⟨go1, fun H => ∃ G7 acc7, Same G6 G7 ∧ AccT W G1 H1 L G7 H acc7 ∧ dcLT g1 t1 fk fv (wipeE ((wipeE ρ vs).set i (some (.shr ds[n]))) vs1) (ds1.drop (j + 1)) acc7 = some acc1, fun H' z => ⟨_, by omega, rfl, hlt1, z⟩, fun x1 H' y => ?_⟩
        obtain ⟨G8, w8, rx8⟩ := yld1 x1 H' y
        refine ⟨B, G8, _, ds1[j], ρ8, (rr (w7.trans w8) (rx6.mono (sg7.trans w8.g))).wipe vs1, rx8, h8, fun σ9 r9 e9 => ⟨e9.trans wipe_wipe, B, G8, ρ8, b8, r9, h9, fun G10 H10 w10 => ?_⟩⟩
        by_cases eb8 : b8 = true
        · rw [if_pos eb8] at hzs7 ⊢
          obtain ⟨k1, hk1, hzs7⟩ := Option.bind_eq_some_iff.mp hzs7
          obtain ⟨v1, hv1, hzs7⟩ := Option.bind_eq_some_iff.mp hzs7
          obtain ⟨acc', hp, hzs7⟩ := Option.bind_eq_some_iff.mp hzs7
          exact tPut_of' hL (a7.step (w8.trans w10)) (r9.step w10) hk1 hv1 hp fun G' H' s' a' => ⟨G', acc', (sg7.trans (w8.trans w10).g).trans s', a', hzs7⟩
        · rw [if_neg eb8] at hzs7 ⊢
          exact ⟨G10, acc7, sg7.trans (w8.trans w10).g, a7.step (w8.trans w10), hzs7⟩
      · have e : j = ds1.length := by omega
        subst e
        rw [List.drop_length] at hzs7
        cases hzs7
        exact .inl ⟨hstop1 (Nat.le_refl _), G7, acc1, a7, hzs⟩
    · rw [if_neg eb] at hzs ⊢
      exact ⟨G5, acc, a2.step (w3.trans w5), hzs⟩
  · have e : n = ds.length := by omega
    subst e
    rw [List.drop_length] at hzs
    cases hzs
    exact .inl ⟨hstop (Nat.le_refl _), q _ G2 H2 (w1.trans w2) ⟨L, rfl, w1.h.free hL, gL2, .dcT hL2 ka ra⟩⟩
section
variable {X : Cx} {kx vx tg iter iter1 tg1 : Expr} {ifs ifs1 : List Expr} {scope : Scope} {pos : Pos} {l l1 : FI} {g g1 : FG} {t t1 : FT} {fk fv : FE}
theorem n_dcT (hu : X.A.units + 64 < cLine) (own : List (Str × Nat)) (hc : X.calm = true) (hN : X.N.Nodup) (hi : PIH X tg iter l) (ok : blkC X.N X.env.scope scope own = true)
    (hg : ∀ (s : Shared) (H : Hp) (C : Addr) (cl : List (Str × Addr)) (fp : List Addr), PGC (X.blk s H scope (compEnvC scope cl C X.env) fp) (own.map (·.2)) tg g) (ht : ∀ (s : Shared) (H : Hp) (C : Addr) (cl : List (Str × Addr)) (fp : List Addr), PTsD (X.blk s H scope (compEnvC scope cl C X.env) fp) ifs t)
    (hk : ∀ (s : Shared) (H : Hp) (C : Addr) (cl : List (Str × Addr)) (fp : List Addr), PF (X.blk s H scope (compEnvC scope cl C X.env) fp) kx fk)
    (he : ∀ (s : Shared) (H : Hp) (C : Addr) (cl : List (Str × Addr)) (fp : List Addr), PF (X.blk s H scope (compEnvC scope cl C X.env) fp) vx fv) (hs : ∀ x, foldedSetIterable iter X.env x = pure x := by intro _; rfl) :
    PN X (.DictComp kx vx [⟨tg, iter, ifs, 0⟩] scope pos) (eDcT (own.map (·.2)) l g t fk fv) :=
  PE.weak (pe_dcT hu hc hN hi (blkOk_by ok) hg ht hk he hs) fun _ _ _ h => dcT_read h
theorem n_dc2T (hu : X.A.units + 64 < cLine) (own : List (Str × Nat)) (i : Nat) (vs1 : List Nat) (hc : X.calm = true) (hN : X.N.Nodup) (hi : PIH X tg iter l) (ok : blkC X.N X.env.scope scope own = true)
    (hg : ∀ (s : Shared) (H : Hp) (C : Addr) (cl : List (Str × Addr)) (fp : List Addr), PG (X.blk s H scope (compEnvC scope cl C X.env) fp) tg (gName i)) (ht : ∀ (s : Shared) (H : Hp) (C : Addr) (cl : List (Str × Addr)) (fp : List Addr), PTsD (X.blk s H scope (compEnvC scope cl C X.env) fp) ifs t)
    (hi1 : ∀ (s : Shared) (H : Hp) (C : Addr) (cl : List (Str × Addr)) (fp : List Addr), PID (X.blk s H scope (compEnvC scope cl C X.env) fp) tg1 iter1 l1)
    (hg1 : ∀ (s : Shared) (H : Hp) (C : Addr) (cl : List (Str × Addr)) (fp : List Addr), PGC (X.blk s H scope (compEnvC scope cl C X.env) fp) vs1 tg1 g1) (ht1 : ∀ (s : Shared) (H : Hp) (C : Addr) (cl : List (Str × Addr)) (fp : List Addr), PTsD (X.blk s H scope (compEnvC scope cl C X.env) fp) ifs1 t1)
    (hk : ∀ (s : Shared) (H : Hp) (C : Addr) (cl : List (Str × Addr)) (fp : List Addr), PF (X.blk s H scope (compEnvC scope cl C X.env) fp) kx fk)
    (he : ∀ (s : Shared) (H : Hp) (C : Addr) (cl : List (Str × Addr)) (fp : List Addr), PF (X.blk s H scope (compEnvC scope cl C X.env) fp) vx fv) (hm : i ∈ own.map (·.2) := by decide) (hv : ∀ j ∈ vs1, j ∈ own.map (·.2) := by decide)
    (hs : ∀ x, foldedSetIterable iter X.env x = pure x := by intro _; rfl) (hs1 : ∀ env x, foldedSetIterable iter1 env x = pure x := by intro _ _; rfl) :
    PN X (.DictComp kx vx [⟨tg, iter, ifs, 0⟩, ⟨tg1, iter1, ifs1, 0⟩] scope pos) (eDc2T (own.map (·.2)) l i t l1 vs1 g1 t1 fk fv) :=
  PE.weak (pe_dc2T hu hc hN hi (blkOk_by ok) hv hg ht hi1 hg1 ht1 hk he hs hs1) fun _ _ _ h => dc2T_read hm h
/-- name = {..} on one line -/
theorem s_dcT (i : Nat) (hu : X.A.units + 64 < cLine) (own : List (Str × Nat)) {y : Str} {py spos : Pos} (hc : X.calm = true) (hN : X.N.Nodup) (hi : PIH X tg iter l) (ok : blkC X.N X.env.scope scope own = true)
    (hg : ∀ (s : Shared) (H : Hp) (C : Addr) (cl : List (Str × Addr)) (fp : List Addr), PGC (X.blk s H scope (compEnvC scope cl C X.env) fp) (own.map (·.2)) tg g) (ht : ∀ (s : Shared) (H : Hp) (C : Addr) (cl : List (Str × Addr)) (fp : List Addr), PTsD (X.blk s H scope (compEnvC scope cl C X.env) fp) ifs t)
    (hk : ∀ (s : Shared) (H : Hp) (C : Addr) (cl : List (Str × Addr)) (fp : List Addr), PF (X.blk s H scope (compEnvC scope cl C X.env) fp) kx fk)
    (he : ∀ (s : Shared) (H : Hp) (C : Addr) (cl : List (Str × Addr)) (fp : List Addr), PF (X.blk s H scope (compEnvC scope cl C X.env) fp) vx fv)
    (hsw : swapsWith (.DictComp kx vx [⟨tg, iter, ifs, 0⟩] scope pos) (some (.Name y py)) spos.line X.env = pure true := by exact sw_trueD rfl rfl rfl (by decide +kernel))
    (hy : X.N[i]? = some y := by rfl) (hyl : X.env.scope.names.lookup y = some .local := by rfl) (hs : ∀ x, foldedSetIterable iter X.env x = pure x := by intro _; rfl) :
    PSD X (.Assign [.Name y py] (.DictComp kx vx [⟨tg, iter, ifs, 0⟩] scope pos) spos) (sOwn i (eDcT (own.map (·.2)) l g t fk fv)) := by
  refine ⟨fun pins s σ H E I ⟨B, G, ρ, o, r, k, a⟩ => ?_⟩
  obtain ⟨d, hd, k⟩ := Option.map_eq_some_iff.mp k
  subst k
  rw [exec_Assign_Name_used _ _ _ _ hsw]
  refine wpAny_bind (wpAny_standAt (wpAny_bind ?_))
  have rd := dcT_read (W := X.wd) (vs := own.map (·.2)) (l := l) (g := g) (t := t) (fk := fk) (fv := fv) (σ := σ) (H := H) (Q := fun v H' => E.nx (σ.set i (some v)) H') ⟨B, G, ρ, d, r, hd, fun v G' H' w ⟨p, ev, hp, hg, t⟩ => by
    subst ev
    refine a _ G' H' (w.gs r.bh) ((r.step w).set_own (r.bh.free hp) hg t fun j e' hj hσ => ?_)
    obtain ⟨b, h1, h2, h3, h4⟩ := r.own j e' hj
    rw [hσ] at h1
    cases h1
    obtain ⟨o, ho⟩ := h4.at
    rw [hp] at ho
    cases ho⟩
  show wpAny _ X.A (do let _ ← comprehension (.DictComp kx vx [⟨tg, iter, ifs, 0⟩] scope pos) scope X.env (firstIterPos [⟨tg, iter, ifs, 0⟩] pos) newDict false (eval iter X.env) (some (assign (.Name y py) X.env))) _ _ s
  refine wpAny_bind (thn (dcT_core (use := some (assign (.Name y py) X.env)) (Qf := fun _ st => SP X pins E .next st) hu hc hN I hi (blkOk_by ok) hg ht hk he hs rd fun A1 C1 s5 m5 H5 I5 q5 hn5 ⟨f0, f1, f2, f3, f4, f5⟩ => ?_) fun _ _ z => wpAny_pure (wpAny_pure z))
  refine wpAny_assign_Name (store_ok2 (v := V.ref A1) I5 hN hy (.inl hyl) rfl (fun s6 I6 ⟨b6, sb6, hb6⟩ => ?_) (.inr hyl))
  have ne : C1 ≠ b6 := hb6.elim (fun z => z ▸ f1) fun z q => f4 y b6 z q.symm
  exact ⟨m5, hn5.sameBut sb6 ne, fun h7 sb7 => ⟨_, H5, I6.turned (t' := s6.toks) (fun b o hb z => (sb7.2 b hb).trans z) f0 f1 f3 f4 f5, q5⟩⟩
end
end DV
end

set_option Elab.async false
set_option linter.all false
set_option maxRecDepth 100000
set_option maxHeartbeats 4000000
/-! DVjj: min(d) of a dict whose keys are flat tuples; sorted(xs) of tuples that are alike, any length. -/
noncomputable section
namespace DV
open PySem PySem.Spec PyProof.Rows L2
section
local instance (priority := 1000000) cdjj1 (p : Prop) : Decidable p := Classical.propDecidable p
noncomputable def minC (x : D) (xs : List D) : Option D := if PySem.W.AlikeAll (x :: xs) ∧ PyData.depthAll (x :: xs) ≤ 8 then some (PySem.W.minD x xs) else none
noncomputable def sortC (ds : List D) : Option D := if PySem.W.AllAlike ds ∧ (∀ d ∈ ds, ∃ x r, d = .tuple (x :: r)) ∧ PyData.canLayAll0 ds = true ∧ (∀ d ∈ ds, d.depth ≤ 8) ∧ ds.length ≤ sizeLine then some (.list (ds.mergeSort (PySem.W.dataLe false id))) else none
theorem minC_i {x r : D} {xs : List D} (h : minC x xs = some r) : PySem.W.AlikeAll (x :: xs) ∧ PyData.depthAll (x :: xs) ≤ 8 ∧ r = PySem.W.minD x xs := by
  unfold minC at h
  split at h
  · rename_i hc
    cases h
    exact ⟨hc.1, hc.2, rfl⟩
  · cases h
theorem minC_s {x : D} {xs : List D} (h1 : PySem.W.AlikeAll (x :: xs)) (h2 : PyData.depthAll (x :: xs) ≤ 8) : minC x xs = some (PySem.W.minD x xs) := if_pos ⟨h1, h2⟩
theorem sortC_i {ds : List D} {r : D} (h : sortC ds = some r) : PySem.W.AllAlike ds ∧ (∀ d ∈ ds, ∃ x r, d = .tuple (x :: r)) ∧ PyData.canLayAll0 ds = true ∧ (∀ d ∈ ds, d.depth ≤ 8) ∧ ds.length ≤ sizeLine ∧ r = .list (ds.mergeSort (PySem.W.dataLe false id)) := by
  unfold sortC at h
  split at h
  · rename_i hc
    cases h
    exact ⟨hc.1, hc.2.1, hc.2.2.1, hc.2.2.2.1, hc.2.2.2.2, rfl⟩
  · cases h
theorem sortC_s {ds : List D} (h1 : PySem.W.AllAlike ds) (h2 : ∀ d ∈ ds, ∃ x r, d = .tuple (x :: r)) (h3 : PyData.canLayAll0 ds = true) (h4 : ∀ d ∈ ds, d.depth ≤ 8) (h5 : ds.length ≤ sizeLine) : sortC ds = some (.list (ds.mergeSort (PySem.W.dataLe false id))) := if_pos ⟨h1, h2, h3, h4, h5⟩
end
noncomputable def minL1 : List D → Option D
  | [] => none
  | x :: xs => minC x xs
noncomputable def minTF : List D → Option D
  | [.dict ((.none, .int 1) :: kvs)] => minL1 (kvs.map (·.1))
  | _ => none
theorem minTF_i {d r : D} (h : minTF [d] = some r) : ∃ kvs x xs, d = .dict ((.none, .int 1) :: kvs) ∧ kvs.map (·.1) = x :: xs ∧ PySem.W.AlikeAll (x :: xs) ∧ PyData.depthAll (x :: xs) ≤ 8 ∧ r = PySem.W.minD x xs := by
  unfold minTF at h
  split at h
  · rename_i kvs heq
    injection heq with h1 h2
    subst h1
    cases hk : kvs.map (·.1) with
    | nil => rw [hk] at h; cases h
    | cons x xs =>
      rw [hk] at h
      obtain ⟨h1, h2, h3⟩ := minC_i (show minC x xs = some r from h)
      exact ⟨_, x, xs, rfl, hk, h1, h2, h3⟩
  · cases h
theorem minTF_s {kvs : List (D × D)} {x : D} {xs : List D} (hk : kvs.map (·.1) = x :: xs) (ha : PySem.W.AlikeAll (x :: xs)) (hd : PyData.depthAll (x :: xs) ≤ 8) : minTF [.dict ((.none, .int 1) :: kvs)] = some (PySem.W.minD x xs) := by
  show minL1 (kvs.map (·.1)) = _
  rw [hk]
  exact minC_s ha hd
/-- sorted(xs) of tuples that are alike -/
noncomputable def sortedTF : List D → Option D
  | [.list ds] => sortC ds
  | _ => none
theorem sortedTF_i {d r : D} (h : sortedTF [d] = some r) : ∃ ds, d = .list ds ∧ PySem.W.AllAlike ds ∧ (∀ d ∈ ds, ∃ x r, d = .tuple (x :: r)) ∧ PyData.canLayAll0 ds = true ∧ (∀ d ∈ ds, d.depth ≤ 8) ∧ ds.length ≤ sizeLine ∧ r = .list (ds.mergeSort (PySem.W.dataLe false id)) := by
  unfold sortedTF at h
  split at h
  · rename_i ds heq
    injection heq with h1 h2
    subst h1
    exact ⟨ds, rfl, sortC_i h⟩
  · cases h
theorem sortedTF_s {ds : List D} (h1 : PySem.W.AllAlike ds) (h2 : ∀ d ∈ ds, ∃ x r, d = .tuple (x :: r)) (h3 : PyData.canLayAll0 ds = true) (h4 : ∀ d ∈ ds, d.depth ≤ 8) (h5 : ds.length ≤ sizeLine) : sortedTF [.list ds] = some (.list (ds.mergeSort (PySem.W.dataLe false id))) := sortC_s h1 h2 h3 h4 h5
theorem dpKey {K : PySem.W.Frag} {H : Hp} {b : Addr} {k : List Key} (h : H b = some (.tup (k.map kV))) : Dp K H (.ref b) (.tuple (k.map keyD)) := by
  refine .tup (SqT.of h) ?_
  clear h
  induction k with
  | nil => exact .nil
  | cons k ks ih =>
    refine .cons ?_ ih
    cases k with
    | inl i => exact .int i
    | inr x => exact .str x
theorem kt_at {H : Hp} : ∀ {l : List (List Key × V)} {m : List (List Key × Addr × Value)}, KT H l m → (∀ y ∈ m, H y.2.1 = some (.tup (y.1.map kV))) ∧ m.map (·.1) = l.map (·.1)
  | _, _, .nil => ⟨(fun _ h => nomatch h), rfl⟩
  | _, _, .cons (a := p) (b := q) h t => by
    obtain ⟨h1, h2⟩ := kt_at t
    refine ⟨fun y hy => ?_, by rw [List.map_cons, List.map_cons, h2, h.1]⟩
    rcases List.mem_cons.mp hy with rfl | hy
    · rw [← h.1]; exact h.2.1
    · exact h1 y hy
/-- a tuple of keys that stands in the heap can be had -/
theorem have_key {W : Wd} {G H : Hp} (sg : Same G H) {c : Addr} {k : List Key} (e : H c = some (.tup (k.map kV))) : ∃ G', DV.Gw G H G' H ∧ Rep W G' (.tuple (k.map keyD)) (.ref c) := by
  cases g : G c with
  | some o =>
    have := sg _ _ g
    rw [e] at this
    cases this
    exact ⟨G, Gw.refl sg, rep_tkey g⟩
  | none =>
    refine ⟨upd G c (.tup (k.map kV)), ⟨same_upd g, Same.refl _, fun b o e' => ?_, fun b o e' => ?_⟩, rep_tkey upd_same⟩
    · by_cases hb : b = c
      · subst hb; rw [upd_same] at e'; cases e'; exact e
      · rw [upd_ne hb] at e'; exact sg b o e'
    · by_cases hb : b = c
      · subst hb; exact .inr (.inr ⟨_, e⟩)
      · rw [upd_ne hb] at e'; exact .inl e'
def rMinT (W : Wd) : List V → Hp → VK → Prop := fun vs H Q => ∃ (v : V) (G : Hp) (d r : D), vs = [v] ∧ Same G H ∧ Bor W G H d v ∧ minTF [d] = some r ∧ ∀ z G' H', DV.Gw G H G' H' → Rep W G' r z → Q z H'
section
variable {X : Cx} {p pos : Pos} {e : Expr} {L : FL}
theorem cr_minT (hc : X.calm = true) (hu : X.A.units + 64 < cLine) : CallR X (.builtin "min") (rMinT X.wd) := by
  intro pins s σ H vs us Q I r h
  obtain ⟨v, G, d, res, rfl, sg, b, hm, q⟩ := h
  obtain ⟨kvs, x, xs, rfl, hk, ha, hd, rfl⟩ := minTF_i hm
  obtain ⟨a, kv, rfl, hrd, hkk, hrep⟩ := b.dt sg
  rw [Vals.ref1 r]
  obtain ⟨_, hsys, ys, rel, dof⟩ := dt_rd I.hok hrd
  obtain ⟨es, ep, raw, hsz, hes⟩ := dof.raw
  obtain ⟨kt1, kt2⟩ := kt_at rel
  have hlt : a < s.heap.objs.size := raw.lt_size
  have hne : a ≠ s.heap.objs.size := Nat.ne_of_lt hlt
  have hkeys : x :: xs = ys.map fun y => PyData.tuple (y.1.map keyD) := by
    rw [← hk, hkk]
    have := congrArg (List.map fun k : List Key => PyData.tuple (k.map keyD)) kt2
    rw [List.map_map, List.map_map] at this
    exact this.symm
  have hlen : es.size = xs.length + 1 := by
    have := congrArg List.length hkeys
    simp at this
    omega
  -- what the keys read as
  have hvals : (es.map (·.key)).toList = ys.map fun y => Value.ref y.2.1 := by
    refine List.ext_getElem? fun i => ?_
    rw [List.getElem?_map, Array.getElem?_toList, Array.getElem?_map]
    by_cases hi : i < es.size
    · obtain ⟨y, h1, h2, _⟩ := hes i hi
      rw [h1, Array.getElem?_eq_getElem hi]
      exact congrArg some h2
    · rw [List.getElem?_eq_none (by omega), Array.getElem?_eq_none (by omega)]
      rfl
  have rds : ∃ as, ReadsAll s.heap (es.map (·.key)).toList (x :: xs) as := by
    rw [hkeys, hvals]
    have go : ∀ m : List (List Key × Addr × Value), (∀ y ∈ m, H y.2.1 = some (.tup (y.1.map kV))) → ∃ as, ReadsAll s.heap (m.map fun y => Value.ref y.2.1) (m.map fun y => PyData.tuple (y.1.map keyD)) as := by
      intro m
      induction m with
      | nil => exact fun _ => ⟨_, .nil⟩
      | cons y m ih =>
        intro h
        obtain ⟨as, h1⟩ := ih fun z hz => h z (List.mem_cons_of_mem _ hz)
        obtain ⟨bs, h2⟩ := Dp.reads I _ _ (Value.ref y.2.1) (dpKey (h y List.mem_cons_self)) rfl
        exact ⟨_, .cons h2 h1⟩
    exact go ys kt1
  obtain ⟨as, hr⟩ := rds
  have units : X.A.in1.units + PyData.depthAll (x :: xs) < cLine := by show X.A.units + 1 + _ < _; omega
  refine call_min_walkH (wpAny_pyIter_dict_raw hsys raw ?_)
  refine ⟨_, _, _, _, _, _, _, s.heap, fun i j => PySem.W.dataLt ((x :: xs).getD i .none) ((x :: xs).getD j .none), rfl, (Walks.rawKeys (A := X.A.in1) (I.ok.hd hc) s.heap.objs.size a hne es ep).toS, ⟨⟨_, Heap.get?_push_size _ rfl, rfl, rfl⟩, raw.push _⟩, fun b hb => ?_, by omega, fun b o e hb => ?_, fun b o e => Heap.get?_push_of_some _ e, fun i j vi vj s' Q' E' hk' ⟨hi, ei⟩ ⟨hj, ej⟩ hq => PySem.W.cmpIn_lt hr ha units i j vi vj s' Q' E' hk' (by show (es.map (·.key))[i]? = some vi; rw [Array.getElem?_map, Array.getElem?_eq_getElem hi, ei]; rfl) (by show (es.map (·.key))[j]? = some vj; rw [Array.getElem?_map, Array.getElem?_eq_getElem hj, ej]; rfl) hq, fun v s' hP m => ?_⟩
  · show b < (s.heap.push _).objs.size
    rw [Heap.size_push]
    rcases List.mem_cons.mp hb with rfl | hb
    · exact Nat.lt_succ_self _
    · rw [List.mem_singleton.mp hb]
      exact Nat.lt_succ_of_lt hlt
  · exact absurd (Heap.lt_size e) ((List.mem_singleton.mp hb) ▸ Nat.lt_irrefl _)
  · obtain ⟨hi, ev⟩ := hP
    obtain ⟨h', tk, rfl, hk'⟩ := PySem.W.moved_old rfl rfl m
    obtain ⟨y, h1, h2, _⟩ := hes _ hi
    have e2 := (PySem.W.argBest_fold PySem.W.dataLt PyData.none x xs xs.length (Nat.le_refl _)).2
    rw [List.take_length] at e2
    have e1 : es.size - 1 = xs.length := by omega
    have ey : (x :: xs).getD (argBest (fun i j => PySem.W.dataLt ((x :: xs).getD i .none) ((x :: xs).getD j .none)) (es.size - 1)) .none = .tuple (y.1.map keyD) := by
      rw [hkeys] at h1 ⊢
      rw [List.getD_eq_getElem?_getD, List.getElem?_map, h1]
      rfl
    rw [e1, e2] at ey
    have em : PySem.W.minD x xs = .tuple (y.1.map keyD) := ey
    obtain ⟨G', w, rr⟩ := have_key (W := X.wd) sg (kt1 y (List.mem_of_getElem? h1))
    refine ⟨.ref y.2.1, H, I.kept (t' := tk) hk', ev.trans h2, q _ G' H w ?_⟩
    rw [em]
    exact rr
theorem f_minT (hc : X.calm = true) (hu : X.A.units + 64 < cLine) (hm : X.mg "min" = none) (ha : PAB X [e] L) (hg : Gl X "min" := by rfl)
    (he : starEach [e] X.env = (false, eval e X.env) :: starEach [] X.env := by rfl) (hpl : (backTo pos (starEach [] X.env)).any (·.1) = false := by rfl) : PF X (.Call (.Name "min" p) [e] [] pos) (eCall minTF L) :=
  f_bc (cr_minT hc hu) (fun ds d vs G H Q k bs sg q => by
    obtain ⟨d0, rfl⟩ : ∃ d0, ds = [d0] := by
      unfold minTF at k
      split at k
      · exact ⟨_, rfl⟩
      · cases k
    obtain ⟨v, rfl, b⟩ := bs.one
    exact ⟨v, G, d0, d, rfl, sg, b, k, q⟩) hm ha (by decide +kernel) hg (by decide) (by decide) he hpl
end
end DV
end

set_option Elab.async false
set_option linter.all false
set_option maxRecDepth 100000
set_option maxHeartbeats 4000000
/-! DVkk: sorted(xs) of tuples that are alike. -/
noncomputable section
namespace DV
open PySem PySem.Spec PyProof.Rows L2
def rSortT2 (W : Wd) : List V → Hp → VK → Prop := fun vs H Q => ∃ (v : V) (G : Hp) (d r : D), vs = [v] ∧ Same G H ∧ Bor W G H d v ∧ sortedTF [d] = some r ∧ ∀ z G' H', DV.Gw G H G' H' → Rep W G' r z → Q z H'
theorem each_zip {W : Wd} {G : Hp} : ∀ {xs : List V} {ds : List D} {its : List Value}, Reps W G ds xs → Vals xs its → PySem.W.EachIs (fun u b => RelV b.1 u ∧ Rep W G b.2 b.1) its (xs.zip ds)
  | _, _, _, .nil, r => by cases r; exact .nil
  | _, _, _, .cons r1 r2, r => by
    cases r with
    | cons v1 v2 => exact .cons ⟨v1, r1⟩ (each_zip r2 v2)
theorem each_out {W : Wd} {G : Hp} : ∀ {bs : List (V × D)} {out : List Value}, PySem.W.EachIs (fun u b => RelV b.1 u ∧ Rep W G b.2 b.1) out bs → Vals (bs.map (·.1)) out ∧ Reps W G (bs.map (·.2)) (bs.map (·.1))
  | _, _, .nil => ⟨.nil, .nil⟩
  | _, _, .cons h t => by
    obtain ⟨h1, h2⟩ := each_out t
    exact ⟨.cons h.1 h1, .cons h.2 h2⟩
section
variable {X : Cx} {p pos : Pos} {e : Expr} {L : FL}
theorem cr_sortT2 (hu : X.A.units + 64 < cLine) : CallR X (.builtin "sorted") (rSortT2 X.wd) := by
  intro pins s σ H vs us Q I r h
  obtain ⟨v, G, d, res, rfl, sg, b, hm, q⟩ := h
  obtain ⟨ds, rfl, h1, h2, h3, h4, h5, rfl⟩ := sortedTF_i hm
  obtain ⟨a, xs, rfl, g1, r1⟩ := b.lst' sg
  rw [Vals.ref1 r]
  obtain ⟨its, rv, hl, _⟩ := I.list (SqL.of g1)
  have ez := each_zip r1 rv
  have len : xs.length = ds.length := r1.length.symm
  have e2 : (xs.zip ds).map (·.2) = ds := List.map_snd_zip (by omega)
  have lz : (xs.zip ds).length = ds.length := by rw [List.length_zip]; omega
  have er : PySem.W.EachIs (fun u b => ∃ as, Reads s.heap u b.2 as) its (xs.zip ds) := (PySem.W.each_mem ez).mono fun u b ⟨⟨h6, h7⟩, hb⟩ => by
    have hmem : b.2 ∈ ds := by rw [← e2]; exact List.mem_map_of_mem hb
    have hcl : ∀ {l : List D} {d : D}, PyData.canLayAll0 l = true → d ∈ l → d.canLay0 = true := by
      intro l
      induction l with
      | nil => intro d _ h; cases h
      | cons x l ih =>
        intro d hc hd
        rw [PyData.canLayAll0, Bool.and_eq_true] at hc
        rcases List.mem_cons.mp hd with rfl | hd
        · exact hc.1
        · exact ih hc.2 hd
    exact Dp.reads I _ _ _ (Rep.dp sg _ _ h7 (hcl h3 hmem)) h6
  refine PySem.W.sorted_data (R := fun u b => RelV b.1 u ∧ Rep X.wd G b.2 b.1) (enc := fun b : V × D => b.2) hl.isList ez er (by rw [e2]; exact h1) (by rw [e2]; exact .inl h2) (by rw [lz]; exact h5) (fun b hb => ?_) fun out ho hout => ?_
  · have hmem : b.2 ∈ ds := by rw [← e2]; exact List.mem_map_of_mem hb
    have := h4 _ hmem
    omega
  · obtain ⟨o1, o2⟩ := each_out hout
    have em : ((xs.zip ds).mergeSort (PySem.W.dataLe false fun b : V × D => b.2)).map (·.2) = ds.mergeSort (PySem.W.dataLe false id) := by
      have := List.map_mergeSort (r := PySem.W.dataLe false fun b : V × D => b.2) (s := PySem.W.dataLe false id) (f := fun b : V × D => b.2) (l := xs.zip ds) (fun a _ b _ => rfl)
      rw [this, e2]
    rw [em] at o2
    obtain ⟨ep, he'⟩ := PyProof.Rows.sortedAll_at s.heap its (List.toArray out)
    have ho' : out.length = ds.length := ho.trans lz
    have hz : (((xs.zip ds).mergeSort (PySem.W.dataLe false fun b : V × D => b.2)).map (·.1)).length ≤ sizeLine := by rw [o1.length, ho']; exact h5
    exact ⟨.ref _, upd H (s.heap.objs.size + 1) (.lst (((xs.zip ds).mergeSort (PySem.W.dataLe false fun b : V × D => b.2)).map (·.1))), I.laid (t' := s.toks) (fun _ _ => PyProof.Rows.sortedAll_old) (Nat.le_succ _) ⟨hz, out, ep, o1, he'⟩, rfl, fin_lst sg o2 q _ (I.hok.fresh (Nat.le_succ _))⟩
theorem f_sortedT (hu : X.A.units + 64 < cLine) (hm : X.mg "sorted" = none) (ha : PAB X [e] L) (hg : Gl X "sorted" := by rfl)
    (he : starEach [e] X.env = (false, eval e X.env) :: starEach [] X.env := by rfl) (hpl : (backTo pos (starEach [] X.env)).any (·.1) = false := by rfl) : PF X (.Call (.Name "sorted" p) [e] [] pos) (eCall sortedTF L) :=
  f_bc (cr_sortT2 hu) (fun ds d vs G H Q k bs sg q => by
    obtain ⟨d0, rfl⟩ : ∃ d0, ds = [d0] := by
      unfold sortedTF at k
      split at k
      · exact ⟨_, rfl⟩
      · cases k
    obtain ⟨v, rfl, b⟩ := bs.one
    exact ⟨v, G, d0, d, rfl, sg, b, k, q⟩) hm ha (by decide +kernel) hg (by decide) (by decide) he hpl
end
end DV
end

set_option Elab.async false
set_option linter.all false
set_option maxRecDepth 100000
set_option maxHeartbeats 4000000
/-! DVmn: min(xs, key=own def), the keys being pairs of an int and a text. -/
noncomputable section
namespace DV
open PySem PySem.Spec PyProof.Rows L2
/-- the better of two -/
def minK2 (Ff : List D → Option D) (a y : D) : D := if kLt (keyO Ff y) (keyO Ff a) = true then y else a
theorem minK2_or (Ff : List D → Option D) (a y : D) : minK2 Ff a y = a ∨ minK2 Ff a y = y := by
  unfold minK2
  split
  · exact .inr rfl
  · exact .inl rfl
theorem foldl_mem (Ff : List D → Option D) : ∀ (xs : List D) (x : D), xs.foldl (minK2 Ff) x ∈ x :: xs
  | [], x => List.mem_cons_self
  | y :: xs, x => by
    have h := foldl_mem Ff xs (minK2 Ff x y)
    rw [List.foldl_cons]
    rcases List.mem_cons.mp h with h | h
    · rw [h]
      rcases minK2_or Ff x y with e | e <;> rw [e]
      · exact List.mem_cons_self
      · exact List.mem_cons_of_mem _ List.mem_cons_self
    · exact List.mem_cons_of_mem _ (List.mem_cons_of_mem _ h)
section
local instance (priority := 1000000) cdmn1 (p : Prop) : Decidable p := Classical.propDecidable p
noncomputable def minKC (Ff : List D → Option D) (x : D) (xs : List D) : Option D := if ∀ d ∈ x :: xs, Ff [d] = some (kD (keyO Ff d)) then some (xs.foldl (minK2 Ff) x) else none
theorem minKC_i {Ff : List D → Option D} {x r : D} {xs : List D} (h : minKC Ff x xs = some r) : (∀ d ∈ x :: xs, Ff [d] = some (kD (keyO Ff d))) ∧ r = xs.foldl (minK2 Ff) x := by
  unfold minKC at h
  split at h
  · rename_i hc
    cases h
    exact ⟨hc, rfl⟩
  · cases h
theorem minKC_s {Ff : List D → Option D} {x : D} {xs : List D} (h : ∀ d ∈ x :: xs, Ff [d] = some (kD (keyO Ff d))) : minKC Ff x xs = some (xs.foldl (minK2 Ff) x) := if_pos h
end
def minKF (Ff : List D → Option D) : D → Option D
  | .list (x :: xs) => minKC Ff x xs
  | _ => none
def minKA (Ff : List D → Option D) : List D → Option D
  | [d] => minKF Ff d
  | _ => none
def rMinKK (W : Wd) (f : Addr) (Ff : List D → Option D) : List V → List V → Hp → VK → Prop := fun vs zs H Q => ∃ (la : V) (G : Hp) (d out : D), vs = [la] ∧ zs = [V.ref f] ∧ Same G H ∧ Bor W G H d la ∧ minKF Ff d = some out ∧ ∀ z G' H', DV.Gw G H G' H' → Rep W G' out z → Q z H'
theorem kD_lt (p q : Int × Str) : PySem.W.dataLt (kD p) (kD q) = kLt p q := by
  unfold kD kLt
  rw [PySem.W.dataLt_pair (by simp [PySem.W.alike]) (by simp [PySem.W.alike])]
  by_cases h : p.1 = q.1
  · rw [if_pos h, if_pos (by rw [h]; exact PySem.W.eqv_refl_alike _ (by simp [PySem.W.alike]))]
    by_cases h2 : p.2 = q.2
    · rw [if_pos (by rw [h2]; exact PySem.W.eqv_refl_alike _ (by simp [PySem.W.alike])), h2]
      exact (decide_eq_false (List.lt_irrefl _)).symm
    · rw [if_neg, PySem.W.dataLt_str]
      rw [PyData.eqv]
      simpa using h2
  · rw [if_neg h, if_neg, PySem.W.dataLt_int]
    rw [PyData.eqv]
    simpa using h
section
variable {X : Cx} {k : Nat} {f : Addr} {fd : FuncData} {ps : List Str} {Ff : List D → Option D} {pins : List (Addr × Obj)} {σ : L2.St} {G H : Hp} {s : Shared}
theorem kD_dp {W : Wd} {G H : Hp} {p : Int × Str} {x : V} (sg : Same G H) (r : Rep W G (kD p) x) : Dp W.K H x (kD p) := by
  cases r with
  | tup h1 h2 =>
    refine .tup (SqT.of (sg _ _ h1)) ?_
    cases h2 with
    | cons a1 a2 =>
      cases a1
      cases a2 with
      | cons b1 b2 =>
        cases b1
        cases b2
        exact .cons (.int _) (.cons (.str _) .nil)
/-- two keys compared -/
theorem key_lt {A' : Around} {E : Value → Shared → Prop} {Q : Value → Shared → Prop} {pn : List (Addr × Obj)} {p q : Int × Str} {x y : V} {u w : Value} (hu : A'.units + 8 < cLine) (I : L2.Inv X pn σ H s) (sg : Same G H) (rx : Rep X.wd G (kD p) x) (ry : Rep X.wd G (kD q) y) (ru : RelV x u) (rw' : RelV y w)
    (h : Q (.bool (kLt p q)) s) : wpAny (model X.prog X.w) A' (richCompare .Lt u w) Q E s := by
  obtain ⟨as, r1⟩ := Dp.reads I _ _ _ (kD_dp sg rx) ru
  obtain ⟨bs, r2⟩ := Dp.reads I _ _ _ (kD_dp sg ry) rw'
  refine PySem.W.rcLt_alike (kD p) (kD q) A' s u w as bs r1 r2 (by simp [kD, PySem.W.alike, PySem.W.alikeAll]) (by simp [kD]) ?_ X.prog X.w E Q ?_
  · have e1 : (kD p).depth = 1 := by simp [kD, PyData.depth, PyData.depthAll]
    have := Nat.min_le_left (kD p).depth (kD q).depth
    omega
  · rw [kD_lt]
    exact h
theorem min_loop {R : Result → Shared → Prop} {ds : List D} {xs : List V} {l S I0 : Addr} {out : D} (hh : X.A.handled = none) (hu : X.A.units + 64 < cLine)
    (F : FnOk X.prog X.w X.K X.mg X.base CX0 k f fd ps (spD X.wd ps.length Ff)) (hb : Binds X.K fd ps []) (hl : ∀ ds d, Ff ds = some d → ds.length = ps.length) (hr : Room k X.A.in1)
    (h1 : H l = some (.lst xs)) (r0 : Reps X.wd G ds xs) (hc1 : ∀ d ∈ ds, Ff [d] = some (kD (keyO Ff d))) (hSI : S ≠ I0) (hlI : l ≠ I0)
    (fS : ∀ {H' : Hp}, H' S = none → FpOk X pins H' S) (fI : ∀ {H' : Hp}, H' I0 = none → FpOk X pins H' I0) (nS : S ≠ X.env.locals ∧ S ∉ X.fs) (nI : I0 ≠ X.env.locals ∧ I0 ∉ X.fs)
    (hR : ∀ s' G' H' v u, L2.Inv X pins σ H' s' → DV.Gw G H G' H' → Rep X.wd G' out v → RelV v u → R (.ok (.ret u)) s') :
    ∀ (r j : Nat) (s : Shared) (G' H' : Hp) (bd : D) (bv kv : V) (vb kb : Value) (c : Nat) (oI : Obj), ds.length - (j + 1) = r → j + 1 ≤ ds.length →
      L2.Inv X (pins ++ [(S, seqObj "list" #[vb, kb] c), (I0, oI)]) σ H' s → DV.Gw G H G' H' → s.heap.IsListIter I0 l (j + 1) → Rep X.wd G' bd bv → RelV bv vb → Rep X.wd G' (kD (keyO Ff bd)) kv → RelV kv kb →
      (ds.drop (j + 1)).foldl (minK2 Ff) bd = out →
      codeAny (model X.prog X.w) X.A (.builtin "min.loop" ⟨[.ref I0, .ref f, .ref S], []⟩) R s := by
  have hname : (toString "min" ++ toString ".loop" : String) = "min.loop" := by decide
  have repin : ∀ {H' : Hp} {s' : Shared} {pn : List (Addr × Obj)} {vs : Array Value} {c : Nat} {oI : Obj}, L2.Inv X (pins ++ pn) σ H' s' → s'.heap.get? S = some (seqObj "list" vs c) → s'.heap.get? I0 = some oI → (∀ v, oI.data ≠ .cell v) → H' S = none → H' I0 = none → L2.Inv X (pins ++ [(S, seqObj "list" vs c), (I0, oI)]) σ H' s' := fun {H' s' pn vs c oI} I' g1 g2 g3 n1 n2 => I'.pins_of fun p hp => by
    rcases List.mem_append.mp hp with hp | hp
    · exact I'.pin p (List.mem_append_right _ (List.mem_append_left _ hp))
    · rcases List.mem_cons.mp hp with rfl | hp
      · exact ⟨g1, n1, nS.1, nS.2, fun v z => by cases z⟩
      · rw [List.mem_singleton.mp hp]
        exact ⟨g2, n2, nI.1, nI.2, g3⟩
  intro r
  induction r with
  | zero =>
    intro j s G' H' bd bv kv vb kb c oI hrr hj I' gw hit rb rvb rk rkb ho
    have hin : j + 1 = ds.length := by omega
    have pS := I'.pin (S, seqObj "list" #[vb, kb] c) (by simp)
    have pI := I'.pin (I0, oI) (by simp)
    obtain ⟨its, rv, hls, _⟩ := I'.list (SqL.of (gw.h _ _ h1))
    have hn : its.length = ds.length := by have := rv.length; have := r0.length; omega
    have W := Walks.list (prog := X.prog) (w := X.w) (A := X.A.in1) hh I0 l hlI its.toArray
    have hsz : its.toArray.size = its.length := List.size_toArray ..
    refine codeAny_builtin PySem.F.entry_min_loop ?_
    rw [Around.under_plainId PySem.F.plain_min_loop _]
    show wpAny _ X.A.in1 (seqItems? (.ref S) >>= _) _ _ _
    refine wpAny_bind (wpAny_seqItems pS.1 rfl ?_)
    show wpAny _ X.A.in1 (tryCatch (pyNext (.ref I0)) _ >>= _) _ _ _
    refine wpAny_bind (wpAny_tryCatch (W.done s _ _ ⟨by rw [hsz, hn, ← hin]; exact hit, hls.isList⟩ fun h' tk' hk' => ?_))
    have hS' := hk' S _ (by simpa using hSI) pS.1
    have s1 := Heap.SameBut.update h' S (Obj.mapSeq fun _ => (#[] : Array Value))
    show wpAny _ X.A.in1 (updateSeq S (fun _ => #[]) >>= _) _ _ _
    refine wpAny_bind ?_
    refine wpAny_updateSeq hS' rfl (wpAny_bind (wpAny_letGo (wpAny_pure ?_)))
    have eo : bd = out := by
      rw [hin, List.drop_length] at ho
      exact ho
    have f1 := fI pI.2.1
    have f2 := fS pS.2.1
    have I1 : L2.Inv X pins σ H' { s with heap := h', toks := tk' } := I'.unpinned.turned (it := I0) (fun b o hb ho => hk' b o (by simpa using hb) ho) f1.1 f1.2.1 f1.2.2.2.1 f1.2.2.2.2.1 f1.2.2.2.2.2
    have I2 := I1.turned (h' := h'.update S (Obj.mapSeq fun _ => (#[] : Array Value))) (t' := tk') (it := S) (fun b o hb ho => (s1.2 b hb).trans ho) f2.1 f2.2.1 f2.2.2.2.1 f2.2.2.2.2.1 f2.2.2.2.2.2
    exact hR _ G' H' bv vb I2 gw (by rw [← eo]; exact rb) rvb
  | succ r ih =>
    intro j s G' H' bd bv kv vb kb c oI hrr hj I' gw hit rb rvb rk rkb ho
    have hlt : j + 1 < ds.length := by omega
    have pS := I'.pin (S, seqObj "list" #[vb, kb] c) (by simp)
    have pI := I'.pin (I0, oI) (by simp)
    obtain ⟨its, rv, hls, _⟩ := I'.list (SqL.of (gw.h _ _ h1))
    have hn : its.length = ds.length := by have := rv.length; have := r0.length; omega
    have W := Walks.list (prog := X.prog) (w := X.w) (A := X.A.in1) hh I0 l hlI its.toArray
    have hsz : its.toArray.size = its.length := List.size_toArray ..
    refine codeAny_builtin PySem.F.entry_min_loop ?_
    rw [Around.under_plainId PySem.F.plain_min_loop _]
    show wpAny _ X.A.in1 (seqItems? (.ref S) >>= _) _ _ _
    refine wpAny_bind (wpAny_seqItems pS.1 rfl ?_)
    show wpAny _ X.A.in1 (tryCatch (pyNext (.ref I0)) _ >>= _) _ _ _
    refine wpAny_bind (wpAny_tryCatch (W.item (j + 1) s _ _ (by rw [hsz, hn]; exact hlt) ⟨hit, hls.isList⟩ fun v h' tk' hP hst' hk' => ?_))
    have hv : its[j + 1]? = some v := by simpa using hP
    obtain ⟨oI', hoI', hoc, hod⟩ := id hst'.1
    have hcell : ∀ v, oI'.data ≠ .cell v := fun v z => by rw [hod] at z; cases z
    have f1 := fI pI.2.1
    have I1 : L2.Inv X pins σ H' { s with heap := h', toks := tk' } := I'.unpinned.turned (it := I0) (fun b o hb ho => hk' b o (by simpa using hb) ho) f1.1 f1.2.1 f1.2.2.2.1 f1.2.2.2.2.1 f1.2.2.2.2.2
    have I2 := repin (pn := []) (by rw [List.append_nil]; exact I1) (hk' S _ (by simpa using hSI) pS.1) hoI' hcell pS.2.1 pI.2.1
    obtain ⟨x, hx, rx⟩ := r0.get (List.getElem?_eq_getElem hlt)
    obtain ⟨v', hv', rv'⟩ := rv.get hx
    rw [hv] at hv'
    cases hv'
    have hmem : ds[j + 1] ∈ ds := List.getElem_mem hlt
    show wpAny _ X.A.in1 (tryCatch (holding [v] (call (.ref f) [v])) _ >>= _) _ _ _
    refine wpAny_bind (wpAny_tryCatch (wpAny_holding (wpAny_mono (call_in (E := fun _ _ => False) F hb hl hr I2.env0.in1 I2 gw.gh (rx.mono gw.g) rv' (hc1 _ hmem)) (fun u s2 hq => ?_) fun _ _ hF => hF.elim)))
    obtain ⟨kv2, G2, H2, I3, gw2, rk2, rv2⟩ := hq
    have pS2 := I3.pin (S, seqObj "list" #[vb, kb] c) (by simp)
    have pI2 := I3.pin (I0, oI') (by simp)
    have hit2 : s2.heap.IsListIter I0 l (j + 1 + 1) := ⟨oI', pI2.1, hoc, hod⟩
    have gw3 := gw.trans gw2
    show wpAny _ X.A.in1 (tryCatch (holding [v, u] (richCompare .Lt u kb >>= _)) _ >>= _) _ _ _
    refine wpAny_bind (wpAny_tryCatch (wpAny_holding (wpAny_bind (key_lt (show X.A.units + 1 + 8 < cLine by omega) I3 gw2.gh rk2 (rk.mono gw2.g) rv2 rkb ?_))))
    refine wpAny_bind (wpAny_holding (wpAny_truthy_bool ?_))
    refine wpAny_bind (wpAny_letGo (wpAny_pure ?_))
    have ed : (ds.drop (j + 1)).foldl (minK2 Ff) bd = (ds.drop (j + 1 + 1)).foldl (minK2 Ff) (minK2 Ff bd ds[j + 1]) := by rw [List.drop_eq_getElem_cons hlt, List.foldl_cons]
    rw [ed] at ho
    by_cases hb' : kLt (keyO Ff ds[j + 1]) (keyO Ff bd) = true
    · have e3 : minK2 Ff bd ds[j + 1] = ds[j + 1] := if_pos hb'
      rw [e3] at ho
      have s1 := Heap.SameBut.update s2.heap S (Obj.mapSeq fun _ => #[v, u])
      obtain ⟨c2, hc2⟩ : ∃ c2, (s2.heap.update S (Obj.mapSeq fun _ => #[v, u])).get? S = some (seqObj "list" #[v, u] c2) := ⟨_, get?_update_seq pS2.1 fun _ => #[v, u]⟩
      simp only [hb', if_true]
      refine wpAny_bind ?_
      refine wpAny_updateSeq pS2.1 rfl (wpAny_bind (wpAny_letGo ?_))
      rw [hname]
      have f2 := fS pS2.2.1
      have I4 : L2.Inv X pins σ H2 { s2 with heap := s2.heap.update S (Obj.mapSeq fun _ => #[v, u]) } := I3.unpinned.turned (t' := s2.toks) (it := S) (fun b o hb ho => (s1.2 b hb).trans ho) f2.1 f2.2.1 f2.2.2.2.1 f2.2.2.2.2.1 f2.2.2.2.2.2
      have I5 := repin (pn := []) (by rw [List.append_nil]; exact I4) hc2 ((s1.2 I0 hSI.symm).trans pI2.1) hcell pS2.2.1 pI2.2.1
      exact wpAny_pure ⟨plainId_quiet PySem.F.plain_min_loop _, ih (j + 1) _ G2 H2 ds[j + 1] x kv2 v u c2 oI' (by omega) hlt I5 gw3 ⟨oI', (s1.2 I0 hSI.symm).trans pI2.1, hoc, hod⟩ ((rx.mono gw.g).mono gw2.g) rv' rk2 rv2 ho⟩
    · have e3 : minK2 Ff bd ds[j + 1] = bd := if_neg hb'
      rw [e3] at ho
      simp only [hb', Bool.false_eq_true, if_false]
      refine wpAny_bind (wpAny_letGo ?_)
      rw [hname]
      exact wpAny_pure ⟨plainId_quiet PySem.F.plain_min_loop _, ih (j + 1) s2 G2 H2 bd bv kv vb kb c oI' (by omega) hlt I3 gw3 hit2 (rb.mono gw2.g) rvb (rk.mono gw2.g) rkb ho⟩
theorem cr_minKK (hc : X.calm = true) (hu : X.A.units + 64 < cLine) (F : FnOk X.prog X.w X.K X.mg X.base CX0 k f fd ps (spD X.wd ps.length Ff)) (hb : Binds X.K fd ps []) (hl : ∀ ds d, Ff ds = some d → ds.length = ps.length) (hr : Room k X.A.in1) :
    CallRK X (.builtin "min") [Str.ofString "key"] (rMinKK X.wd f Ff) := by
  intro pins s σ H vs zs us ws Q I rv rz h
  obtain ⟨la, G, d, out, rfl, rfl, sg, b, hs, q⟩ := h
  obtain ⟨d0, ds0, rfl⟩ : ∃ d0 ds0, d = .list (d0 :: ds0) := by
    unfold minKF at hs
    split at hs
    · exact ⟨_, _, rfl⟩
    · cases hs
  obtain ⟨hc1, eout⟩ := minKC_i (show minKC Ff d0 ds0 = some out from hs)
  obtain ⟨l, xs, rfl, h1, r1⟩ := b.lst' sg
  obtain rfl := Vals.ref1 rv
  obtain ⟨w1, rfl, e1⟩ := vals1 rz
  obtain rfl : w1 = Value.ref f := e1
  have hname : (toString "min" ++ toString ".loop" : String) = "min.loop" := by decide
  show wpAny (model X.prog X.w) X.A (call (.builtin "min") [.ref l] [(Str.ofString "key", .ref f)]) (EP X pins σ Q) X.xe s
  obtain ⟨its, ri, hls, _⟩ := I.list (SqL.of h1)
  obtain ⟨ol, hol, _⟩ := id hls.isList
  have hll : l < s.heap.objs.size := Heap.lt_size hol
  have hlI : l ≠ s.heap.objs.size := Nat.ne_of_lt hll
  have hh := I.ok.hd hc
  refine kmk_tree PySem.F.kind_min PySem.F.plain_min PySem.F.entry_min (kmk_min_key _ _) ?_
  show wpAny _ X.A.in1 (Builtin.Builtins.bindParams "min" ["key", "default"] 0 ⟨[], [(Str.ofString "key", .ref f)]⟩ >>= _) _ _ s
  refine wpAny_bind (wpAny_of_eq (show Builtin.Builtins.bindParams "min" ["key", "default"] 0 ⟨[], [(Str.ofString "key", .ref f)]⟩ = pure [some (.ref f), none] from rfl) ?_)
  refine wpAny_bind (wpAny_pure ?_)
  refine wpAny_bind (wpAny_pyIter_list hls.isList ?_)
  refine wpAny_bind (wpAny_newList ?_ (Nat.zero_le _))
  rw [hname]
  have hS : (s.heap.push { cls := .type "list_iterator", data := .fields #[.ref l, .int 0 0] }).objs.size = s.heap.objs.size + 1 := size_push' ..
  have gI : ((s.heap.push { cls := .type "list_iterator", data := .fields #[.ref l, .int 0 0] }).push (seqObj "list" #[] 0)).get? s.heap.objs.size = some { cls := .type "list_iterator", data := .fields #[.ref l, .int 0 0] } :=
    Heap.get?_push_of_some _ (Heap.get?_push_size _ rfl)
  have gS : ((s.heap.push { cls := .type "list_iterator", data := .fields #[.ref l, .int 0 0] }).push (seqObj "list" #[] 0)).get? (s.heap.push { cls := .type "list_iterator", data := .fields #[.ref l, .int 0 0] }).objs.size = some (seqObj "list" #[] 0) := Heap.get?_push_size _ rfl
  have I0 : L2.Inv X pins σ H { s with heap := (s.heap.push { cls := .type "list_iterator", data := .fields #[.ref l, .int 0 0] }).push (seqObj "list" #[] 0) } := I.kept (t' := s.toks) fun b o z => Heap.get?_push_of_some _ (Heap.get?_push_of_some _ z)
  have hSge : s.heap.objs.size ≤ (s.heap.push { cls := .type "list_iterator", data := .fields #[.ref l, .int 0 0] }).objs.size := by rw [hS]; exact Nat.le_succ _
  have hSI : (s.heap.push { cls := .type "list_iterator", data := .fields #[.ref l, .int 0 0] }).objs.size ≠ s.heap.objs.size := by rw [hS]; exact Nat.ne_of_gt (Nat.lt_succ_self _)
  generalize hSe : (s.heap.push { cls := .type "list_iterator", data := .fields #[.ref l, .int 0 0] }).objs.size = S at gS hSge hSI ⊢
  generalize hIe : s.heap.objs.size = Ia at gI hSge hSI hlI ⊢
  have nl : ∀ b, Ia ≤ b → H b = none ∧ b ≠ X.env.locals ∧ b ∉ X.fs := fun b hb' => ⟨I.hok.fresh (by rw [hIe]; exact hb'), Nat.ne_of_gt (Nat.lt_of_lt_of_le I.lt (by rw [hIe]; exact hb')), I.nofs (by rw [hIe]; exact hb')⟩
  have fS0 : FpOk X pins H S := I.fpOk (by rw [hIe]; exact hSge) (nl S hSge).1
  have fI0 : FpOk X pins H Ia := I.fpOk (Nat.le_of_eq hIe) (nl Ia (Nat.le_refl _)).1
  have nI0 := nl Ia (Nat.le_refl _)
  have nS0 := nl S hSge
  have hlt : 0 < (d0 :: ds0).length := Nat.zero_lt_succ _
  refine wpAny_pure ⟨plainId_quiet PySem.F.plain_min_loop _, ?_⟩
  obtain ⟨its, rv2, hls2, _⟩ := I0.list (SqL.of h1)
  have hn : its.length = (d0 :: ds0).length := by have := rv2.length; have := r1.length; omega
  have W := Walks.list (prog := X.prog) (w := X.w) (A := X.A.in1) hh Ia l hlI its.toArray
  have hsz : its.toArray.size = its.length := List.size_toArray ..
  refine codeAny_builtin PySem.F.entry_min_loop ?_
  rw [Around.under_plainId PySem.F.plain_min_loop _]
  show wpAny _ X.A.in1 (seqItems? (.ref S) >>= _) _ _ _
  refine wpAny_bind (wpAny_seqItems gS rfl ?_)
  show wpAny _ X.A.in1 (tryCatch (pyNext (.ref Ia)) _ >>= _) _ _ _
  refine wpAny_bind (wpAny_tryCatch (W.item 0 _ _ _ (by rw [hsz, hn]; exact hlt) ⟨⟨_, gI, rfl, rfl⟩, hls2.isList⟩ fun v h' tk' hP hst' hk' => ?_))
  have hv : its[0]? = some v := by simpa using hP
  obtain ⟨oI', hoI', hoc, hod⟩ := id hst'.1
  have hcell : ∀ v, oI'.data ≠ .cell v := fun v z => by rw [hod] at z; cases z
  have I1 := I0.turned (h' := h') (t' := tk') (it := Ia) (fun b o hb ho => hk' b o (by simpa using hb) ho) fI0.1 fI0.2.1 fI0.2.2.2.1 fI0.2.2.2.2.1 fI0.2.2.2.2.2
  have repin : ∀ {H' : Hp} {s' : Shared} {vs : Array Value} {c : Nat} {oI : Obj}, L2.Inv X pins σ H' s' → s'.heap.get? S = some (seqObj "list" vs c) → s'.heap.get? Ia = some oI → (∀ v, oI.data ≠ .cell v) → H' S = none → H' Ia = none → L2.Inv X (pins ++ [(S, seqObj "list" vs c), (Ia, oI)]) σ H' s' := fun {H' s' vs c oI} I' g1 g2 g3 n1 n2 => I'.pins_of fun p hp => by
    rcases List.mem_append.mp hp with hp | hp
    · exact I'.pin p (List.mem_append_right _ hp)
    · rcases List.mem_cons.mp hp with rfl | hp
      · exact ⟨g1, n1, nS0.2.1, nS0.2.2, fun v z => by cases z⟩
      · rw [List.mem_singleton.mp hp]
        exact ⟨g2, n2, nI0.2.1, nI0.2.2, g3⟩
  have I2 := repin I1 (hk' S _ (by simpa using hSI) gS) hoI' hcell nS0.1 nI0.1
  obtain ⟨x, hx, rx⟩ := r1.get (List.getElem?_eq_getElem hlt)
  obtain ⟨v', hv', rv'⟩ := rv2.get hx
  rw [hv] at hv'
  cases hv'
  have hmem : d0 ∈ d0 :: ds0 := List.mem_cons_self
  show wpAny _ X.A.in1 (tryCatch (holding [v] (call (.ref f) [v])) _ >>= _) _ _ _
  refine wpAny_bind (wpAny_tryCatch (wpAny_holding (wpAny_mono (call_in (E := fun _ _ => False) F hb hl hr I2.env0.in1 I2 sg rx rv' (hc1 _ hmem)) (fun u s2 hq => ?_) fun _ _ hF => hF.elim)))
  obtain ⟨kv2, G2, H2, I3, gw2, rk2, rv3⟩ := hq
  have pS2 := I3.pin (S, seqObj "list" #[] 0) (by simp)
  have pI2 := I3.pin (Ia, oI') (by simp)
  have s1 := Heap.SameBut.update s2.heap S (Obj.mapSeq fun _ => #[v, u])
  obtain ⟨c2, hc2⟩ : ∃ c2, (s2.heap.update S (Obj.mapSeq fun _ => #[v, u])).get? S = some (seqObj "list" #[v, u] c2) := ⟨_, get?_update_seq pS2.1 fun _ => #[v, u]⟩
  show wpAny _ X.A.in1 (updateSeq S (fun _ => #[v, u]) >>= _) _ _ _
  refine wpAny_bind ?_
  refine wpAny_updateSeq pS2.1 rfl ?_
  rw [hname]
  have I4 := I3.unpinned.turned (h' := s2.heap.update S (Obj.mapSeq fun _ => #[v, u])) (t' := s2.toks) (it := S) (fun b o hb ho => (s1.2 b hb).trans ho) pS2.2.1 fS0.2.1 fS0.2.2.2.1 fS0.2.2.2.2.1 fS0.2.2.2.2.2
  have I5 := repin I4 hc2 ((s1.2 Ia hSI.symm).trans pI2.1) hcell pS2.2.1 pI2.2.1
  refine wpAny_pure ⟨plainId_quiet PySem.F.plain_min_loop _, min_loop (out := out) hh hu F hb hl hr h1 r1 hc1 hSI hlI (fun n => ⟨n, fS0.2⟩) (fun n => ⟨n, fI0.2⟩) nS0.2 nI0.2 (fun s' G' H' v u Iz gw rz ruz => ?_) _ 0 _ G2 H2 d0 x kv2 v u c2 oI' rfl hlt I5 gw2 ⟨oI', (s1.2 Ia hSI.symm).trans pI2.1, hoc, hod⟩ (rx.mono gw2.g) rv' rk2 rv3 eout.symm⟩
  exact ⟨v, H', Iz, ruz, q v G' H' gw rz⟩
end
section
variable {X : Cx} {k : Nat} {fn x : Str} {p p' pos kpos : Pos} {e : Expr} {es : List Expr} {L : FL} {Ff : List D → Option D}
theorem f_minK (hc : X.calm = true) (hu : X.A.units + 64 < cLine) (F : DefD X.prog X.w X.K X.mg X.base k fn Ff) (hr : Room (k + 2) X.A) (hm : X.mg "min" = none) (ha : PAB X [e] L) (hgf : Gl X fn := by rfl) (hd : (fn == ("__debug__" : Str)) = false := by decide)
    (hg : Gl X "min" := by rfl) (hv : bootBuiltins "min" = some (.builtin "min") := by decide +kernel)
    (he : backTo pos (starEach [e] X.env) = (false, eval e X.env) :: backTo pos (starEach [] X.env) := by rfl) (hpl : (backTo pos (starEach [e] X.env)).any (·.1) = false := by rfl)
    (hall : (backToKw pos (keywordEach [⟨some "key", .Name fn p', kpos⟩] X.env)).all (·.1.isSome) = true := by rfl) (hnone : (backToKw pos (keywordEach [⟨some "key", .Name fn p', kpos⟩] X.env)).any (·.1.isNone) = false := by rfl)
    (hks : (backToKw pos (keywordEach [⟨some "key", .Name fn p', kpos⟩] X.env)).filterMap (·.1) = [Str.ofString "key"] := by rfl) :
    PF X (.Call (.Name "min" p) [e] [⟨some "key", .Name fn p', kpos⟩] pos) (eCall (minKA Ff) L) := by
  obtain ⟨f, fd, ps, F, hmf, hk, hb, hl⟩ := F.ex
  refine PE.weak (pe_callBK (cr_minKK hc hu F hb hl (hr.mono (by omega)).in1) hg hm hv ha (pk_cons (pe_glob (v := V.ref f) hgf hmf rfl hd) pk_nil) (by decide) (by decide) he hpl hall hnone hks) fun σ H Q ⟨B, G, ρ, d, r, q, z⟩ => ?_
  obtain ⟨ds, hd', q⟩ := Option.bind_eq_some_iff.mp q
  refine ⟨B, G, ρ, ds, r, hd', fun vs G1 H1 w1 bs => ?_⟩
  unfold minKA at q
  split at q
  · obtain ⟨v, rfl, b⟩ := bs.one
    exact ⟨v, G1, _, d, rfl, rfl, w1.gh, b, q, fun z' G2 H2 w2 rz => z z' G2 H2 (w1.trans w2) rz⟩
  · cases q
end
end DV
end

set_option Elab.async false
set_option linter.all false
set_option maxRecDepth 100000
/-! DVoo: a list joined of two, as a new thing. -/
noncomputable section
namespace DV
open PySem PySem.Spec PyProof.Rows L2
section
local instance (priority := 1000000) cdoo1 (p : Prop) : Decidable p := Classical.propDecidable p
def catC (xs ys : List D) : Option D := if xs.length + ys.length ≤ sizeLine then some (.list (xs ++ ys)) else none
theorem catC_i {xs ys : List D} {d : D} (h : catC xs ys = some d) : xs.length + ys.length ≤ sizeLine ∧ d = .list (xs ++ ys) := by
  unfold catC at h
  split at h
  · cases h; exact ⟨by assumption, rfl⟩
  · cases h
theorem catC_s {xs ys : List D} (h : xs.length + ys.length ≤ 16777216) : catC xs ys = some (.list (xs ++ ys)) := if_pos (by rw [sizeLine_eq]; exact h)
end
def catD : D → D → Option D
  | .list xs, .list ys => catC xs ys
  | _, _ => none
theorem catD_i {x y d : D} (h : catD x y = some d) : ∃ xs ys, x = .list xs ∧ y = .list ys ∧ xs.length + ys.length ≤ sizeLine ∧ d = .list (xs ++ ys) := by
  unfold catD at h
  split at h
  · exact ⟨_, _, rfl, rfl, catC_i h⟩
  · cases h
section
variable {X : Cx}
theorem n_cat {a b : Expr} {pos : Pos} {Fa Fb : FE} (ha : PB X a Fa) (hb : PB X b Fb) : PN X (.BinOp a .Add b pos) (o2 catD Fa Fb) :=
  PE.weak (pe_op op_cat ha hb) fun σ H Q ⟨B, G, ρ, d, r, k, q⟩ => by
    obtain ⟨x, hx, k⟩ := Option.bind_eq_some_iff.mp k
    obtain ⟨y, hy, k⟩ := Option.bind_eq_some_iff.mp k
    obtain ⟨xs, ys, rfl, rfl, hz, rfl⟩ := catD_i k
    refine ⟨B, G, ρ, _, r, hx, fun v1 G1 H1 w1 b1 => ⟨B, G1, ρ, _, r.step w1, hy, fun v2 G2 H2 w2 b2 => ?_⟩⟩
    have b1' := b1.step w2
    obtain ⟨a1, us, rfl, h1, r1⟩ := b1'.lst' w2.gh
    obtain ⟨a2, vs, rfl, h2, r2⟩ := b2.lst' w2.gh
    refine ⟨a1, a2, us, vs, rfl, rfl, h1, h2, by rw [← r1.length, ← r2.length]; exact hz, fun p hp => ?_⟩
    obtain ⟨w3, f⟩ := Frs.new (o := .lst (us ++ vs)) (d := .list (xs ++ ys)) (w1.trans w2) hp (.lst upd_same (r1.append r2))
    exact q _ _ _ w3 f
end
end DV
end

set_option Elab.async false
set_option linter.all false
set_option maxRecDepth 100000
/-! DVpp: x.extend(list), x owned. -/
noncomputable section
namespace DV
open PySem PySem.Spec PyProof.Rows L2
section
local instance (priority := 1000000) cdpp1 (p : Prop) : Decidable p := Classical.propDecidable p
def sExtC (i : Nat) (ρ : Env) (ds es : List D) : Option Out := if ds.length + es.length ≤ sizeLine then some (.nx (ρ.set i (some (.own (.list (ds ++ es)))))) else none
theorem sExtC_i {i : Nat} {ρ : Env} {ds es : List D} {o : Out} (h : sExtC i ρ ds es = some o) : ds.length + es.length ≤ sizeLine ∧ o = .nx (ρ.set i (some (.own (.list (ds ++ es))))) := by
  unfold sExtC at h
  split at h
  · cases h; exact ⟨by assumption, rfl⟩
  · cases h
theorem sExtC_s {i : Nat} {ρ : Env} {ds es : List D} (h : ds.length + es.length ≤ 16777216) : sExtC i ρ ds es = some (.nx (ρ.set i (some (.own (.list (ds ++ es)))))) := if_pos (by rw [sizeLine_eq]; exact h)
end
def sExtO (i : Nat) (ρ : Env) (d : D) : Option Out := match ρ[i]?, d with
  | some (some (.own (.list ds))), .list es => sExtC i ρ ds es
  | _, _ => none
theorem sExtO_i {i : Nat} {ρ : Env} {d : D} {o : Out} (h : sExtO i ρ d = some o) : ∃ ds es, ρ[i]? = some (some (.own (.list ds))) ∧ d = .list es ∧ ds.length + es.length ≤ sizeLine ∧ o = .nx (ρ.set i (some (.own (.list (ds ++ es))))) := by
  unfold sExtO at h
  split at h
  · exact ⟨_, _, by assumption, rfl, sExtC_i h⟩
  · cases h
def sExt (i : Nat) (F : FE) : FS := fun ρ => (F ρ).bind (sExtO i ρ)
theorem s_ext (i : Nat) {X : Cx} {pos : Pos} {x : Str} {e : Expr} {Fe : FE} {npos apos cpos : Pos} (he : PB X e Fe) (hN : X.N[i]? = some x := by rfl) (hv : Vis X.env.scope x := by first | exact Or.inl rfl | exact Or.inr (Or.inl rfl) | exact Or.inr (Or.inr rfl)) (hd : (x == ("__debug__" : Str)) = false := by decide)
    (hcd : (x == ("__classdict__" : Str)) = false := by decide)
    (hs1 : starEach [e] X.env = (false, eval e X.env) :: starEach [] X.env := by rfl)
    (hbase : attributeBase (.Name x npos) "extend" X.env (eval (.Name x npos) X.env) = eval (.Name x npos) X.env := by rfl)
    (hfew : ((backTo cpos (starEach [e] X.env)).all (fun x => !x.1) && (backToKw cpos (keywordEach [] X.env)).all (fun x => x.1.isSome)
      && decide (([e] : List Expr).length + ([] : List Keyword).length + (if ([] : List Keyword).isEmpty then 0 else 1) < 30)) = true := by rfl)
    (hline : (apos.endLine == cpos.line) = true := by rfl) (hplain : (backTo cpos (starEach [] X.env)).any (·.1) = false := by rfl)
    (hs : swapsWith (.Call (.Attribute (.Name x npos) "extend" apos) [e] [] cpos) none pos.line X.env = pure false := by rfl) :
    PSD X (.Expr (.Call (.Attribute (.Name x npos) "extend" apos) [e] [] cpos) pos) (sExt i Fe) :=
  PS.weak (ps_expr (pe_bm PySem.F.plainAttrs_list PySem.F.slot_list_extend PySem.F.type_list_extend mt_extend (pe_var (i := i) hN hv hd hcd) (pa_cons he pa_nil hs1) hbase hfew hline hs1 hplain) hs) fun E σ H ⟨B, G, ρ, o, r, k, a⟩ => by
    obtain ⟨d, hd, k⟩ := Option.bind_eq_some_iff.mp k
    obtain ⟨ds, es, hi, rfl, hz, rfl⟩ := sExtO_i k
    obtain ⟨l, h1, h2, h3, h4⟩ := r.own i _ hi
    cases h4 with
    | @lst _ xs _ e q =>
      refine ⟨_, h1, .inl ⟨rfl, _, SqL.of e⟩, B, G, ρ, _, r, hd, fun v G' H' w rv => ?_⟩
      obtain ⟨b, zs, rfl, hb, rb⟩ := rv.lst' (r.step w).gh
      have e' := w.h _ _ e
      refine ⟨l, b, xs, zs, rfl, rfl, e', hb, by rw [← q.length, ← rb.length]; exact hz, ?_⟩
      exact a σ G' _ (w.gs r.bh) ((r.step w).upd_own hi h1 (.lst upd_same ((q.mono w.g).append rb)))
end DV
end

set_option Elab.async false
set_option linter.all false
set_option maxRecDepth 100000
/-! DVm: reckoning with functions of data: combinators by simp, words as lists of numbers, loops. -/
noncomputable section
namespace DV
open PySem L2
/-! strict forms: simp goes into what is reckoned next alone -/
def ap2 (f : D → D → Option D) : Option D → Option D → Option D
  | some x, some y => f x y
  | _, _ => none
def ap3 (f : D → Option Int → Option Int → Option D) : Option D → Option (Option Int) → Option (Option Int) → Option D
  | some x, some y, some z => f x y z
  | _, _, _ => none
def andO (x : Option Bool) (u : FT) (ρ : Env) : Option Bool := x.bind fun x => if x = true then u ρ else some false
def orO (x : Option Bool) (u : FT) (ρ : Env) : Option Bool := x.bind fun x => if x = true then some true else u ρ
def andV (x : Option Bool) (b : FE) (ρ : Env) : Option D := x.bind fun x => if x = true then b ρ else some (.bool false)
def orV (x : Option Bool) (b : FE) (ρ : Env) : Option D := x.bind fun x => if x = true then some (.bool true) else b ρ
def iteV (x : Option Bool) (a b : FE) (ρ : Env) : Option D := x.bind fun x => if x = true then a ρ else b ρ
def iteS (x : Option Bool) (a b : FS) (ρ : Env) : Option Out := x.bind fun x => if x = true then a ρ else b ρ
def mapB (f : Bool → D) (x : Option Bool) : Option D := x.map f
def consO : Option D → Option (List D) → Option (List D)
  | some x, some xs => some (x :: xs)
  | _, _ => none
section
local instance (priority := 1000000) cdec13 (p : Prop) : Decidable p := Classical.propDecidable p
def tupO (ds : List D) : Option D := if ds.length ≤ sizeLine then some (.tuple ds) else none
def lstO (ds : List D) : Option D := if ds.length ≤ sizeLine then some (.list ds) else none
end
def d1O : Option D → Option D → Option D
  | some x, some y => (keyOf x).map fun _ => .dict [(.none, .int 0), (x, y)]
  | _, _ => none
def thenS (o : Option Out) (b : FS) : Option Out := o.bind fun o => match o with
  | .nx ρ' => b ρ'
  | o => some o
def rtO (x : Option D) : Option Out := x.map .rt
def exO (x : Option D) (ρ : Env) : Option Out := x.map fun _ => .nx ρ
def nxO (x : Option Env) : Option Out := x.map .nx
def asgO (x : Option D) (k : FG) (ρ : Env) : Option Out := x.bind fun d => nxO (k d ρ)
def ownO (i : Nat) (x : Option D) (ρ : Env) : Option Out := x.map fun d => .nx (ρ.set i (some (.own d)))
section
local instance (priority := 1000000) cdec14 (p : Prop) : Decidable p := Classical.propDecidable p
def appS (i : Nat) (d : D) (ρ : Env) : Option (Option Sl) → Option Out
  | some (some (.own (.list ds))) => if ds.length < sizeLine then some (.nx (ρ.set i (some (.own (.list (ds ++ [d])))))) else none
  | _ => none
end
def appO (i : Nat) (x : Option D) (ρ : Env) : Option Out := x.bind fun d => appS i d ρ ρ[i]?
def putS (i : Nat) (k v : D) (ρ : Env) : Option (Option Sl) → Option Out
  | some (some (.own d)) => (putO d k v).map fun d' => .nx (ρ.set i (some (.own d')))
  | _ => none
def putSO (i : Nat) (v k : Option D) (ρ : Env) : Option Out := v.bind fun v => k.bind fun k => putS i k v ρ ρ[i]?
def forO (x : Option (List D)) (k : FG) (s : FS) (ρ : Env) : Option Out := x.bind fun ds => forL k s ds ρ
section
local instance (priority := 1000000) cdec15 (p : Prop) : Decidable p := Classical.propDecidable p
def lcO (x : Option (List D)) (k : FG) (t : FT) (a : FE) (ρ : Env) : Option D := x.bind fun ds => if ds.length ≤ sizeLine then (lcL k t a ρ ds).map .list else none
def dcO (x : Option (List D)) (k : FG) (t : FT) (a b : FE) (ρ : Env) : Option D := x.bind fun ds => if ds.length ≤ sizeLine then (dcL k t a b ρ ds []).map fun kvs => .dict ((.none, .int 0) :: kvs) else none
end
def getV : Option (Option Sl) → Option D
  | some (some (.shr d)) => some d
  | _ => none
def getW : Option (Option Sl) → Option D
  | some (some (.shr d)) => some d
  | some (some (.own d)) => some d
  | _ => none
def frzS (i : Nat) (ρ : Env) : Option (Option Sl) → Env
  | some (some (.own d)) => ρ.set i (some (.shr d))
  | _ => ρ
def thenFO (i : Nat) (x : Option Out) : Option Out := x.map fun o => match o with
  | .nx ρ' => .nx (frzE i ρ')
  | o => o
section
variable {f : D → D → Option D} {g : D → Option D} {a b c : FE} {t u : FT} {ρ : Env} {i : Nat} {d : D}
@[simp] theorem getV_s : getV (some (some (.shr d))) = some d := rfl
@[simp] theorem getW_s : getW (some (some (.shr d))) = some d := rfl
@[simp] theorem getW_o : getW (some (some (.own d))) = some d := rfl
@[simp] theorem eV_e : eV i ρ = getV ρ[i]? := by unfold eV getV; split <;> simp_all
@[simp] theorem eW_e : eW i ρ = getW ρ[i]? := by unfold eW getW; split <;> simp_all
@[simp] theorem eC_e : eC d ρ = some d := rfl
@[simp] theorem ap2_s {x y : D} : ap2 f (some x) (some y) = f x y := rfl
@[simp] theorem ap3_s {h : D → Option Int → Option Int → Option D} {x : D} {y z : Option Int} : ap3 h (some x) (some y) (some z) = h x y z := rfl
@[simp] theorem o1_e : o1 g a ρ = (a ρ).bind g := rfl
@[simp] theorem o2_e : o2 f a b ρ = ap2 f (a ρ) (b ρ) := by
  unfold o2 ap2
  cases a ρ <;> cases b ρ <;> rfl
@[simp] theorem toT_e : toT a ρ = (a ρ).bind asB := rfl
@[simp] theorem asB_b {k : Bool} : asB (.bool k) = some k := rfl
@[simp] theorem asI_i {k : Int} : asI (.int k) = some k := rfl
@[simp] theorem andO_t : andO (some true) u ρ = u ρ := rfl
@[simp] theorem andO_f : andO (some false) u ρ = some false := rfl
@[simp] theorem orO_t : orO (some true) u ρ = some true := rfl
@[simp] theorem orO_f : orO (some false) u ρ = u ρ := rfl
@[simp] theorem andV_t : andV (some true) b ρ = b ρ := rfl
@[simp] theorem andV_f : andV (some false) b ρ = some (.bool false) := rfl
@[simp] theorem orV_t : orV (some true) b ρ = some (.bool true) := rfl
@[simp] theorem orV_f : orV (some false) b ρ = b ρ := rfl
@[simp] theorem iteV_t : iteV (some true) a b ρ = a ρ := rfl
@[simp] theorem iteV_f : iteV (some false) a b ρ = b ρ := rfl
@[simp] theorem tAndF_e : tAndF t u ρ = andO (t ρ) u ρ := rfl
@[simp] theorem tOrF_e : tOrF t u ρ = orO (t ρ) u ρ := rfl
@[simp] theorem tNotF_e : tNotF t ρ = (t ρ).map not := rfl
@[simp] theorem eAnd_e : eAnd a b ρ = andV ((a ρ).bind asB) b ρ := rfl
@[simp] theorem eOr_e : eOr a b ρ = orV ((a ρ).bind asB) b ρ := rfl
@[simp] theorem eNot_e : eNot a ρ = mapB (fun x => .bool (!x)) ((a ρ).bind asB) := rfl
@[simp] theorem mapB_s {h : Bool → D} {k : Bool} : mapB h (some k) = some (h k) := rfl
@[simp] theorem eIf_e : eIf t a b ρ = iteV (t ρ) a b ρ := rfl
@[simp] theorem lN_e : lN ρ = some [] := rfl
@[simp] theorem consO_s {x : D} {xs : List D} : consO (some x) (some xs) = some (x :: xs) := rfl
@[simp] theorem lC_e {l : FL} : lC a l ρ = consO (a ρ) (l ρ) := by
  unfold lC consO
  cases a ρ <;> cases l ρ <;> rfl
@[simp] theorem o3c_e {f' : D → D → Option D} : o3c f f' a b c ρ = andV ((ap2 f (a ρ) (b ρ)).bind asB) (o2 f' b c) ρ := by
  unfold o3c andV o2 ap2
  cases a ρ <;> cases b ρ <;> rfl
@[simp] theorem eCall_e {h : List D → Option D} {l : FL} : eCall h l ρ = (l ρ).bind h := rfl
def apM (h : D → List D → Option D) : Option D → Option (List D) → Option D
  | some x, some xs => h x xs
  | _, _ => none
@[simp] theorem apM_s {h : D → List D → Option D} {x : D} {xs : List D} : apM h (some x) (some xs) = h x xs := rfl
@[simp] theorem eMeth_e {h : D → List D → Option D} {l : FL} : eMeth h a l ρ = apM h (a ρ) (l ρ) := by
  unfold eMeth apM
  cases a ρ <;> cases l ρ <;> rfl
theorem tupO_s {ds : List D} (h : ds.length ≤ 16777216) : tupO ds = some (.tuple ds) := if_pos (by rw [sizeLine_eq]; exact h)
theorem lstO_s {ds : List D} (h : ds.length ≤ 16777216) : lstO ds = some (.list ds) := if_pos (by rw [sizeLine_eq]; exact h)
@[simp] theorem tupO_0 : tupO [] = some (.tuple []) := tupO_s (by show 0 ≤ _; decide)
@[simp] theorem lstO_0 : lstO [] = some (.list []) := lstO_s (by show 0 ≤ _; decide)
@[simp] theorem tupO_1 {x : D} : tupO [x] = some (.tuple [x]) := tupO_s (by show 1 ≤ _; decide)
@[simp] theorem lstO_1 {x : D} : lstO [x] = some (.list [x]) := lstO_s (by show 1 ≤ _; decide)
@[simp] theorem tupO_2 {x y : D} : tupO [x, y] = some (.tuple [x, y]) := tupO_s (by show 2 ≤ _; decide)
@[simp] theorem lstO_2 {x y : D} : lstO [x, y] = some (.list [x, y]) := lstO_s (by show 2 ≤ _; decide)
@[simp] theorem tupO_3 {x y z : D} : tupO [x, y, z] = some (.tuple [x, y, z]) := tupO_s (by show 3 ≤ _; decide)
@[simp] theorem lstO_3 {x y z : D} : lstO [x, y, z] = some (.list [x, y, z]) := lstO_s (by show 3 ≤ _; decide)
@[simp] theorem tupO_4 {x y z w : D} : tupO [x, y, z, w] = some (.tuple [x, y, z, w]) := tupO_s (by show 4 ≤ _; decide)
@[simp] theorem lstO_4 {x y z w : D} : lstO [x, y, z, w] = some (.list [x, y, z, w]) := lstO_s (by show 4 ≤ _; decide)
@[simp] theorem tupO_5 {x y z w v : D} : tupO [x, y, z, w, v] = some (.tuple [x, y, z, w, v]) := tupO_s (by show 5 ≤ _; decide)
@[simp] theorem eTup_e {l : FL} : eTup l ρ = (l ρ).bind tupO := rfl
@[simp] theorem eLst_e {l : FL} : eLst l ρ = (l ρ).bind lstO := rfl
@[simp] theorem d1O_s {x y : D} : d1O (some x) (some y) = (keyOf x).map fun _ => .dict [(.none, .int 0), (x, y)] := rfl
@[simp] theorem eD1_e : eD1 a b ρ = d1O (a ρ) (b ρ) := by
  unfold eD1 d1O
  cases a ρ <;> cases b ρ <;> rfl
@[simp] theorem pN_e : pN ρ = some none := rfl
@[simp] theorem pS_e : pS a ρ = ((a ρ).bind asI).map some := rfl
@[simp] theorem eSl_e {p q : FP} : eSl a p q ρ = ap3 slD (a ρ) (p ρ) (q ρ) := by
  unfold eSl ap3
  cases a ρ <;> cases p ρ <;> cases q ρ <;> rfl
@[simp] theorem iAny_e : iAny a ρ = (a ρ).bind itemsD := rfl
@[simp] theorem iCall_e {h : List D → Option (List D)} {l : FL} : iCall h l ρ = (l ρ).bind h := rfl
@[simp] theorem tYs_e : tYs ρ = some true := rfl
@[simp] theorem gN_e : gN i d ρ = some (ρ.set i (some (.shr d))) := rfl
@[simp] theorem gT_e {n : Nat} {h : List D → Env → Option Env} {ds : List D} : gT n h (.tuple ds) ρ = if ds.length = n then h ds ρ else none := rfl
@[simp] theorem gsN_e : gsN [] ρ = some ρ := rfl
@[simp] theorem gsC_e {k : FG} {h : List D → Env → Option Env} {ds : List D} : gsC k h (d :: ds) ρ = (k d ρ).bind (h ds) := rfl
variable {s s' : FS}
@[simp] theorem thenS_nx : thenS (some (.nx ρ)) s = s ρ := rfl
@[simp] theorem thenS_rt : thenS (some (.rt d)) s = some (.rt d) := rfl
@[simp] theorem thenS_bk : thenS (some (.bk ρ)) s = some (.bk ρ) := rfl
@[simp] theorem thenS_ct : thenS (some (.ct ρ)) s = some (.ct ρ) := rfl
@[simp] theorem iteS_t : iteS (some true) s s' ρ = s ρ := rfl
@[simp] theorem iteS_f : iteS (some false) s s' ρ = s' ρ := rfl
theorem iteS_d {p : Prop} [Decidable p] : iteS (some (decide p)) s s' ρ = if p then s ρ else s' ρ := by
  by_cases h : p
  · rw [if_pos h, decide_eq_true h]; rfl
  · rw [if_neg h, decide_eq_false h]; rfl
@[simp] theorem sNx_e : sNx ρ = some (.nx ρ) := rfl
@[simp] theorem sBk_e : sBk ρ = some (.bk ρ) := rfl
@[simp] theorem sCt_e : sCt ρ = some (.ct ρ) := rfl
@[simp] theorem sSeq_e : sSeq s s' ρ = thenS (s ρ) s' := rfl
@[simp] theorem rtO_s : rtO (some d) = some (.rt d) := rfl
@[simp] theorem sRet_e : sRet a ρ = rtO (a ρ) := rfl
@[simp] theorem sRetN_e : sRetN ρ = some (.rt .none) := rfl
@[simp] theorem exO_s : exO (some d) ρ = some (.nx ρ) := rfl
@[simp] theorem sEx_e : sEx a ρ = exO (a ρ) ρ := rfl
@[simp] theorem sIf_e : sIf t s s' ρ = iteS (t ρ) s s' ρ := rfl
@[simp] theorem nxO_s : nxO (some ρ) = some (.nx ρ) := rfl
@[simp] theorem asgO_s {k : FG} : asgO (some d) k ρ = nxO (k d ρ) := rfl
@[simp] theorem sAsg_e {k : FG} : sAsg a k ρ = asgO (a ρ) k ρ := rfl
@[simp] theorem ownO_s : ownO i (some d) ρ = some (.nx (ρ.set i (some (.own d)))) := rfl
@[simp] theorem sOwn_e : sOwn i a ρ = ownO i (a ρ) ρ := rfl
@[simp] theorem sFrz_e : sFrz i s ρ = s (frzE i ρ) := rfl
@[simp] theorem frzS_o : frzS i ρ (some (some (.own d))) = ρ.set i (some (.shr d)) := rfl
@[simp] theorem frzS_s : frzS i ρ (some (some (.shr d))) = ρ := rfl
@[simp] theorem frzS_n : frzS i ρ (some none) = ρ := rfl
@[simp] theorem frzE_e : frzE i ρ = frzS i ρ ρ[i]? := by
  unfold frzE frzS
  split <;> simp_all
@[simp] theorem thenFO_nx : thenFO i (some (.nx ρ)) = some (.nx (frzE i ρ)) := rfl
@[simp] theorem thenFO_rt : thenFO i (some (.rt d)) = some (.rt d) := rfl
@[simp] theorem thenF_e : thenF i s ρ = thenFO i (s ρ) := rfl
theorem appS_s {ds : List D} (h : ds.length < 16777216) : appS i d ρ (some (some (.own (.list ds)))) = some (.nx (ρ.set i (some (.own (.list (ds ++ [d])))))) := if_pos (by rw [sizeLine_eq]; exact h)
@[simp] theorem appO_s : appO i (some d) ρ = appS i d ρ ρ[i]? := rfl
@[simp] theorem sApp_e : sApp i a ρ = appO i (a ρ) ρ := by
  unfold sApp appO
  cases a ρ with
  | none => rfl
  | some d =>
    simp only [Option.bind_some]
    unfold appS
    split <;> simp_all
@[simp] theorem putS_o {k v d : D} : putS i k v ρ (some (some (.own d))) = (putO d k v).map fun d' => .nx (ρ.set i (some (.own d'))) := rfl
@[simp] theorem putSO_s {k v : D} : putSO i (some v) (some k) ρ = putS i k v ρ ρ[i]? := rfl
@[simp] theorem sPut_e {k : FE} : sPut i k a ρ = putSO i (a ρ) (k ρ) ρ := by
  unfold sPut putSO
  cases a ρ with
  | none => rfl
  | some v =>
    cases k ρ with
    | none => rfl
    | some k =>
      simp only [Option.bind_some]
      unfold putS
      split <;> simp_all
@[simp] theorem forO_s {ds : List D} {k : FG} : forO (some ds) k s ρ = forL k s ds ρ := rfl
@[simp] theorem sFor_e {l : FI} {k : FG} : sFor l k s ρ = forO (l ρ) k s ρ := rfl
@[simp] theorem wipeE_nil : wipeE ρ [] = ρ := rfl
@[simp] theorem wipeE_cons {v : Nat} {vs : List Nat} : wipeE ρ (v :: vs) = (wipeE ρ vs).set v none := rfl
theorem lcO_s {ds : List D} {k : FG} (h : ds.length ≤ 16777216) : lcO (some ds) k t a ρ = (lcL k t a ρ ds).map .list := if_pos (by rw [sizeLine_eq]; exact h)
theorem dcO_s {ds : List D} {k : FG} (h : ds.length ≤ 16777216) : dcO (some ds) k t a b ρ = (dcL k t a b ρ ds []).map fun kvs => .dict ((.none, .int 0) :: kvs) := if_pos (by rw [sizeLine_eq]; exact h)
@[simp] theorem eLc_e {vs : List Nat} {l : FI} {k : FG} : eLc vs l k t a ρ = lcO (l ρ) k t a (wipeE ρ vs) := rfl
@[simp] theorem eDc_e {vs : List Nat} {l : FI} {k : FG} : eDc vs l k t a b ρ = dcO (l ρ) k t a b (wipeE ρ vs) := rfl
@[simp] theorem bind0_e {n : Nat} {ds : List D} : bind0 n ds = ds.map (fun d => some (.shr d)) ++ List.replicate (n - ds.length) none := rfl
def endF (o : Option Out) : Option D := o.bind fun o => match o with | .nx _ => some .none | .rt d => some d | _ => none
@[simp] theorem endF_nx : endF (some (.nx ρ)) = some .none := rfl
@[simp] theorem endF_rt : endF (some (.rt d)) = some d := rfl
theorem callF_1 {n : Nat} {x : D} : callF n 1 s [x] = endF (s (bind0 n [x])) := rfl
theorem callF_2 {n : Nat} {x y : D} : callF n 2 s [x, y] = endF (s (bind0 n [x, y])) := rfl
theorem callF_3 {n : Nat} {x y z : D} : callF n 3 s [x, y, z] = endF (s (bind0 n [x, y, z])) := rfl
theorem callF_4 {n : Nat} {x y z w : D} : callF n 4 s [x, y, z, w] = endF (s (bind0 n [x, y, z, w])) := rfl
theorem callF_5 {n : Nat} {x y z w v : D} : callF n 5 s [x, y, z, w, v] = endF (s (bind0 n [x, y, z, w, v])) := rfl
theorem forL_nil {k : FG} : forL k s [] ρ = some (.nx ρ) := rfl
/-- behind a turn -/
def turnS (o : Option Out) (r : FS) : Option Out := o.bind fun o => match o with
  | .nx ρ' => r ρ'
  | .ct ρ' => r ρ'
  | .bk ρ' => some (.nx ρ')
  | .rt d => some (.rt d)
@[simp] theorem turnS_nx {r : FS} : turnS (some (.nx ρ)) r = r ρ := rfl
@[simp] theorem turnS_ct {r : FS} : turnS (some (.ct ρ)) r = r ρ := rfl
@[simp] theorem turnS_bk {r : FS} : turnS (some (.bk ρ)) r = some (.nx ρ) := rfl
@[simp] theorem turnS_rt {r : FS} : turnS (some (.rt d)) r = some (.rt d) := rfl
theorem forL_cons {i : Nat} {ds : List D} : forL (gN i) s (d :: ds) ρ = turnS (s (ρ.set i (some (.shr d)))) (forL (gN i) s ds) := rfl
theorem forL_consG {k : FG} {ds : List D} : forL k s (d :: ds) ρ = (k d ρ).bind fun ρ1 => turnS (s ρ1) (forL k s ds) := rfl
theorem whileL_succ {n : Nat} : whileL t s (n + 1) ρ = iteS (t ρ) (fun ρ => turnS (s ρ) (whileL t s n)) sNx ρ := rfl
theorem whileL_t {n : Nat} (h : t ρ = some true) : whileL t s (n + 1) ρ = turnS (s ρ) (whileL t s n) := by rw [whileL_succ, h]; rfl
theorem whileL_f {n : Nat} (h : t ρ = some false) : whileL t s (n + 1) ρ = some (.nx ρ) := by rw [whileL_succ, h]; rfl
theorem lcL_nil {k : FG} : lcL k t a ρ [] = some [] := rfl
/-- one more item that is taken -/
def lcC (x : Option D) (r : Option (List D)) : Option (List D) := x.bind fun y => r.map fun ys => y :: ys
@[simp] theorem lcC_s {x : D} {r : Option (List D)} : lcC (some x) r = r.map fun ys => x :: ys := rfl
theorem lcL_y {i : Nat} {ds : List D} : lcL (gN i) tYs a ρ (d :: ds) = lcC (a (ρ.set i (some (.shr d)))) (lcL (gN i) tYs a ρ ds) := rfl
theorem lcL_t {i : Nat} {ds : List D} (h : t (ρ.set i (some (.shr d))) = some true) : lcL (gN i) t a ρ (d :: ds) = lcC (a (ρ.set i (some (.shr d)))) (lcL (gN i) t a ρ ds) := by
  show ((t _).bind _) = _
  rw [h]
  rfl
theorem lcL_f {i : Nat} {ds : List D} (h : t (ρ.set i (some (.shr d))) = some false) : lcL (gN i) t a ρ (d :: ds) = lcL (gN i) t a ρ ds := by
  show ((t _).bind _) = _
  rw [h]
  rfl
/-- a comprehension over items of one kind -/
theorem lcL_map {α : Type} {i : Nat} (enc : α → D) (h : α → D) : ∀ (xs : List α), (∀ x ∈ xs, a (ρ.set i (some (.shr (enc x)))) = some (h x)) → lcL (gN i) tYs a ρ (xs.map enc) = some (xs.map h)
  | [], _ => rfl
  | x :: xs, hh => by
    rw [List.map_cons, lcL_y, hh x List.mem_cons_self, lcC_s, lcL_map enc h xs fun y hy => hh y (List.mem_cons_of_mem _ hy)]
    rfl
theorem lcL_filter {α : Type} {i : Nat} (enc : α → D) (p : α → Bool) (h : α → D) : ∀ (xs : List α), (∀ x ∈ xs, t (ρ.set i (some (.shr (enc x)))) = some (p x)) → (∀ x ∈ xs, p x = true → a (ρ.set i (some (.shr (enc x)))) = some (h x)) → lcL (gN i) t a ρ (xs.map enc) = some ((xs.filter p).map h)
  | [], _, _ => rfl
  | x :: xs, ht, hh => by
    have ih := lcL_filter enc p h xs (fun y hy => ht y (List.mem_cons_of_mem _ hy)) (fun y hy => hh y (List.mem_cons_of_mem _ hy))
    cases hp : p x with
    | true =>
      rw [List.map_cons, lcL_t ((ht x List.mem_cons_self).trans (by rw [hp])), hh x List.mem_cons_self hp, lcC_s, ih]
      simp [List.filter_cons, hp]
    | false =>
      rw [List.map_cons, lcL_f ((ht x List.mem_cons_self).trans (by rw [hp])), ih]
      simp [List.filter_cons, hp]
end
/-! ### operators at ints -/
section
variable {i j : Int}
@[simp] theorem add_ii : addD (.int i) (.int j) = some (.int (i + j)) := rfl
@[simp] theorem sub_ii : subD (.int i) (.int j) = some (.int (i - j)) := rfl
theorem mul_ii (h : (-18446744073709551616 < i ∧ i < 18446744073709551616) ∨ (-18446744073709551616 < j ∧ j < 18446744073709551616)) : mulD (.int i) (.int j) = some (.int (i * j)) := if_pos h
theorem mod_ii (h : 0 < j) : modD (.int i) (.int j) = some (.int (i % j)) := if_pos h
theorem fdiv_ii (h : 0 < j) (h2 : j < 1073741824) : fdivD (.int i) (.int j) = some (.int (i / j)) := if_pos ⟨h, h2⟩
@[simp] theorem neg_i : negD (.int i) = some (.int (-i)) := rfl
@[simp] theorem lt_ii : ltD (.int i) (.int j) = some (.bool (decide (i < j))) := rfl
@[simp] theorem le_ii : leD (.int i) (.int j) = some (.bool (decide (i ≤ j))) := rfl
@[simp] theorem gt_ii : gtD (.int i) (.int j) = some (.bool (decide (j < i))) := rfl
@[simp] theorem ge_ii : geD (.int i) (.int j) = some (.bool (decide (j ≤ i))) := rfl
@[simp] theorem eq_ii : eqD (.int i) (.int j) = some (.bool (decide (i = j))) := rfl
@[simp] theorem ne_ii : neD (.int i) (.int j) = some (.bool (!decide (i = j))) := rfl
theorem pow_18 : powD (.int 10) (.int 18) = some (.int 1000000000000000000) := by
  simp only [powD]
  rw [if_pos (by decide)]
  rfl
theorem rng1_i (h : -4611686018427387904 ≤ j) (h2 : j < 4611686018427387904) : rng1 [.int j] = some (rngL 0 j.toNat) := if_pos ⟨h, h2⟩
theorem rng2_i (h : -4611686018427387904 ≤ i) (h2 : i < 4611686018427387904) (h3 : -4611686018427387904 ≤ j) (h4 : j < 4611686018427387904) : rng2 [.int i, .int j] = some (rngL i (j - i).toNat) := if_pos ⟨h, h2, h3, h4⟩
theorem rng3_i (h : -4611686018427387904 ≤ i) (h2 : i < 4611686018427387904) (h3 : -4611686018427387904 ≤ j) (h4 : j < 4611686018427387904) : rng3 [.int i, .int j, .int (-1)] = some (rngC i (-1) (i - j).toNat) := if_pos ⟨rfl, h, h2, h3, h4⟩
@[simp] theorem len_l {ds : List D} : lenF [.list ds] = some (.int ds.length) := rfl
@[simp] theorem len_t {ds : List D} : lenF [.tuple ds] = some (.int ds.length) := rfl
@[simp] theorem len_dk {kvs : List (D × D)} : lenF [.dict ((.none, .int 0) :: kvs)] = some (.int kvs.length) := rfl
@[simp] theorem len_scr {ns : List Int} : lenF [scrD ns] = some (.int ns.length) := by simp [scrD, lenF]
theorem sz (n : Nat) : (n ≤ sizeLine) = (n ≤ 16777216) := by rw [sizeLine_eq]
theorem szl (n : Nat) : (n < sizeLine) = (n < 16777216) := by rw [sizeLine_eq]
end
/-! ### words -/
def wd (l : List Nat) : Str := ⟨(l.map (· + 97)).toArray⟩
abbrev dW (l : List Nat) : D := .str (wd l)
theorem wd_len (l : List Nat) : (wd l).length = l.length := by simp [wd, Str.length]
theorem wd_cps (l : List Nat) : (wd l).cps.toList = l.map (· + 97) := by simp [wd]
theorem wd_app (l m : List Nat) : wd l ++ wd m = wd (l ++ m) := by
  show (⟨(wd l).cps ++ (wd m).cps⟩ : Str) = wd (l ++ m)
  simp [wd]
theorem wd_inj {l m : List Nat} (h : wd l = wd m) : l = m := by
  have e := congrArg (fun s : Str => s.cps.toList.map (· - 97)) h
  simpa [wd, Function.comp_def] using e
theorem wd_eq (l m : List Nat) : decide (wd l = wd m) = decide (l = m) := by
  by_cases e : l = m
  · subst e; simp
  · rw [decide_eq_false e, decide_eq_false fun z => e (wd_inj z)]
theorem abc_wd : (Str.ofString "abc") = wd [0, 1, 2] := by decide +kernel
theorem nil_wd : (Str.ofString "") = wd [] := by decide +kernel
theorem a_wd : (Str.ofString "a") = wd [0] := by decide +kernel
theorem items_wd (l : List Nat) : itemsD (dW l) = some (l.map fun c => dW [c]) := by
  simp [itemsD, wd, Function.comp_def]
theorem add_wd {l m : List Nat} (h : l.length + m.length ≤ 16777216) : addD (dW l) (dW m) = some (dW (l ++ m)) := by
  simp only [addD]
  rw [wd_len, wd_len, if_pos (by rw [sizeLine_eq]; exact h), wd_app]
theorem sl_wd {l : List Nat} (lo hi : Option Int) (h : l.length ≤ 16777216) : slD (dW l) lo hi = some (dW ((l.drop (HT.sIx l.length 0 lo)).take (HT.sIx l.length l.length hi - HT.sIx l.length 0 lo))) := by
  simp only [slD]
  rw [wd_len, if_pos (by rw [sizeLine_eq]; exact h)]
  unfold cutS
  rw [wd_len, wd_cps]
  simp [wd]
theorem in_wd (c : Nat) (l : List Nat) : inB (dW [c]) (dW l) = some (decide (c ∈ l)) := by
  show (match (wd [c]).cps.toList with | [c] => some (decide (c ∈ (wd l).cps.toList)) | _ => none) = _
  rw [wd_cps, wd_cps]
  simp
theorem eq_wd (l m : List Nat) : eqD (dW l) (dW m) = some (.bool (decide (l = m))) := by
  show some (PyData.bool (decide (wd l = wd m))) = _
  rw [wd_eq]
theorem len_wd {l : List Nat} (h : l.length ≤ 16777216) : lenF [dW l] = some (.int l.length) := by
  simp only [lenF, lenS]
  rw [wd_len, if_pos (by rw [sizeLine_eq]; exact h)]
theorem sIx_nil (n d : Nat) : HT.sIx n d none = d := rfl
/-- the first letters of the alphabet -/
theorem abc_sl {k : Nat} (h : k ≤ 3) : slD (dW [0, 1, 2]) none (some (k : Int)) = some (dW (List.range k)) := by
  rw [sl_wd _ _ (by decide)]
  rcases k with _ | _ | _ | _ | k
  · rfl
  · rfl
  · rfl
  · rfl
  · omega
theorem abc_itm {k : Nat} (h : k ≤ 3) : (slD (dW [0, 1, 2]) none (some (k : Int))).bind itemsD = some ((List.range k).map fun c => dW [c]) := by
  rw [abc_sl h, Option.bind_some, items_wd]
theorem ix_wd {l : List Nat} {i : Nat} (h : i < l.length) (hz : l.length ≤ 16777216) : ixD (dW l) (.int (i : Int)) = some (dW [l[i]]) := by
  simp only [ixD, ixS]
  rw [wd_len, if_pos (by rw [sizeLine_eq]; exact hz), wd_cps, atI_nat (v := l[i] + 97) (by rw [List.getElem?_map, List.getElem?_eq_getElem h]; rfl)]
  rfl
theorem ix_l {ds : List D} {i : Nat} {d : D} (h : ds[i]? = some d) : ixD (.list ds) (.int (i : Int)) = some d := atI_nat h
theorem ix_t {ds : List D} {i : Nat} {d : D} (h : ds[i]? = some d) : ixD (.tuple ds) (.int (i : Int)) = some d := atI_nat h
@[simp] theorem ix_t0 {x : D} {ds : List D} : ixD (.tuple (x :: ds)) (.int 0) = some x := ix_t (i := 0) rfl
@[simp] theorem ix_t1 {x y : D} {ds : List D} : ixD (.tuple (x :: y :: ds)) (.int 1) = some y := ix_t (i := 1) rfl
@[simp] theorem ix_t2 {x y z : D} {ds : List D} : ixD (.tuple (x :: y :: z :: ds)) (.int 2) = some z := ix_t (i := 2) rfl
@[simp] theorem ix_l0 {x : D} {ds : List D} : ixD (.list (x :: ds)) (.int 0) = some x := ix_l (i := 0) rfl
theorem strsOf_wd : ∀ ls : List (List Nat), strsOf (ls.map dW) = some (ls.map wd)
  | [] => rfl
  | l :: ls => by simp [strsOf, strsOf_wd ls]
theorem join_wd (ls : List (List Nat)) (h : (ls.map (·.length)).sum ≤ 16777216) : joinF (dW []) [.list (ls.map dW)] = some (dW ls.flatten) := by
  have e : ∀ (ls : List (List Nat)) (l : List Nat), Str.join (wd []) ((l :: ls).map wd) = wd (l ++ ls.flatten) := by
    intro ls
    induction ls with
    | nil => intro l; simp [Str.join]
    | cons m ls ih =>
      intro l
      have := ih m
      rw [List.map_cons, List.map_cons]
      show wd l ++ wd [] ++ Str.join (wd []) (wd m :: ls.map wd) = _
      rw [← List.map_cons (f := wd), this, wd_app, wd_app]
      simp
  have e2 : Txt.join (wd []) (ls.map wd) = wd ls.flatten := by
    rw [show Txt.join (wd []) (ls.map wd) = Str.join (wd []) (ls.map wd) from StrLaws.glued_eq_join _ _]
    cases ls with
    | nil => rfl
    | cons l ls => rw [e]; simp
  have hl : (List.map (·.length) (ls.map wd)) = ls.map (·.length) := by
    rw [List.map_map]
    exact List.map_congr_left fun l _ => wd_len l
  simp only [joinF]
  rw [strsOf_wd, Option.bind_some, hl, if_pos (by rw [wd_len]; simpa using h), e2]
theorem sl_take (p s : List Nat) (h : (p ++ s).length ≤ 16777216) : slD (dW (p ++ s)) none (some (p.length : Int)) = some (dW p) := by
  rw [sl_wd _ _ h, HT.sIx_nat, sIx_nil]
  simp
theorem sl_drop (p s : List Nat) (h : (p ++ s).length ≤ 16777216) : slD (dW (p ++ s)) (some (p.length : Int)) none = some (dW s) := by
  rw [sl_wd _ _ h, HT.sIx_nat, sIx_nil]
  simp
theorem keq_wd (a b : List Nat) : keq (dW a) (dW b) = decide (a = b) := by
  show decide (wd a = wd b) = _
  exact wd_eq a b
@[simp] theorem keyOf_wd (a : List Nat) : keyOf (dW a) = some (.inr (wd a)) := rfl
end DV
end

set_option Elab.async false
set_option linter.all false
set_option maxRecDepth 100000
/-! DVn: dicts of the kind K as lists of pairs. -/
noncomputable section
namespace DV
open PySem L2
/-- keys that are told apart by what they stand for -/
structure KeyE {α : Type} [DecidableEq α] (ek : α → D) : Prop where
  eq : ∀ a b, keq (ek a) (ek b) = decide (a = b)
  ok : ∀ a, ∃ k, keyOf (ek a) = some k
section
variable {α β : Type} [DecidableEq α] {ek : α → D} {ev : β → D}
def enM (ek : α → D) (ev : β → D) (m : List (α × β)) : List (D × D) := m.map fun p => (ek p.1, ev p.2)
abbrev dM (ek : α → D) (ev : β → D) (m : List (α × β)) : D := .dict ((.none, .int 0) :: enM ek ev m)
def mget (m : List (α × β)) (k : α) : Option β := (m.find? fun p => decide (p.1 = k)).map (·.2)
def mput (m : List (α × β)) (k : α) (v : β) : List (α × β) := if k ∈ m.map (·.1) then m.map (fun p => if p.1 = k then (p.1, v) else p) else m ++ [(k, v)]
theorem enM_len (m : List (α × β)) : (enM ek ev m).length = m.length := by simp [enM]
theorem dget_en (E : KeyE ek) (m : List (α × β)) (k : α) : dget (enM ek ev m) (ek k) = (mget m k).map ev := by
  unfold dget mget enM
  rw [List.find?_map]
  simp only [Function.comp_def, E.eq]
  cases m.find? (fun p => decide (p.1 = k)) <;> rfl
theorem dput_en (E : KeyE ek) (m : List (α × β)) (k : α) (v : β) : dput (enM ek ev m) (ek k) (ev v) = enM ek ev (mput m k v) := by
  unfold dput mput enM
  simp only [List.any_map, Function.comp_def, E.eq, List.any_eq_true, decide_eq_true_eq]
  by_cases h : k ∈ m.map (·.1)
  · have h' : ∃ x ∈ m, x.1 = k := by simpa using h
    rw [if_pos h, if_pos h', List.map_map, List.map_map]
    refine List.map_congr_left fun p _ => ?_
    simp only [Function.comp_def, E.eq, decide_eq_true_eq]
    by_cases e : p.1 = k
    · rw [if_pos e, if_pos e]
    · rw [if_neg e, if_neg e]
  · have h' : ¬ ∃ x ∈ m, x.1 = k := by simpa using h
    rw [if_neg h, if_neg h', List.map_append]
    rfl
theorem mget_none {m : List (α × β)} {k : α} : mget m k = none ↔ k ∉ m.map (·.1) := by
  unfold mget
  rw [Option.map_eq_none_iff, List.find?_eq_none]
  constructor
  · rintro h hm
    obtain ⟨p, hp, e⟩ := List.mem_map.mp hm
    exact h p hp (by simpa using e)
  · intro h p hp e
    exact h (List.mem_map.mpr ⟨p, hp, by simpa using e⟩)
theorem mput_keys (m : List (α × β)) (k : α) (v : β) : (mput m k v).map (·.1) = if k ∈ m.map (·.1) then m.map (·.1) else m.map (·.1) ++ [k] := by
  unfold mput
  by_cases h : k ∈ m.map (·.1)
  · rw [if_pos h, if_pos h, List.map_map]
    refine List.map_congr_left fun p _ => ?_
    simp only [Function.comp_def]
    by_cases e : p.1 = k
    · rw [if_pos e]
    · rw [if_neg e]
  · rw [if_neg h, if_neg h, List.map_append]
    rfl
theorem mput_nodup {m : List (α × β)} {k : α} {v : β} (h : (m.map (·.1)).Nodup) : ((mput m k v).map (·.1)).Nodup := by
  rw [mput_keys]
  split
  · exact h
  · rename_i e
    rw [List.nodup_append]
    exact ⟨h, by simp, fun a ha b hb => by
      simp at hb
      subst hb
      exact fun z => e (z ▸ ha)⟩
theorem mget_put (m : List (α × β)) (k : α) (v : β) (k' : α) : mget (mput m k v) k' = if k' = k then some v else mget m k' := by
  unfold mput
  by_cases h : k ∈ m.map (·.1)
  · rw [if_pos h]
    unfold mget
    rw [List.find?_map]
    have e1 : ((fun p : α × β => decide (p.1 = k')) ∘ fun p : α × β => if p.1 = k then (p.1, v) else p) = fun p : α × β => decide (p.1 = k') := by
      funext p
      simp only [Function.comp_def]
      by_cases e : p.1 = k
      · rw [if_pos e]
      · rw [if_neg e]
    rw [e1]
    by_cases e : k' = k
    · subst e
      rw [if_pos rfl]
      cases q : m.find? (fun p => decide (p.1 = k')) with
      | none =>
        have := mget_none (m := m) (k := k')
        exact absurd h (this.mp (by unfold mget; rw [q]; rfl))
      | some p =>
        have hp := List.find?_some q
        simp only [decide_eq_true_eq] at hp
        simp [hp]
    · rw [if_neg e]
      cases q : m.find? (fun p => decide (p.1 = k')) with
      | none => rfl
      | some p =>
        have hp := List.find?_some q
        simp only [decide_eq_true_eq] at hp
        simp [hp, e]
  · rw [if_neg h]
    unfold mget
    rw [List.find?_append]
    by_cases e : k' = k
    · subst e
      have q : m.find? (fun p => decide (p.1 = k')) = none := by
        have := mget_none (m := m) (k := k')
        simpa [mget] using this.mpr h
      rw [q, if_pos rfl]
      simp
    · rw [if_neg e]
      have e' : ¬ k = k' := fun z => e z.symm
      cases q : m.find? (fun p => decide (p.1 = k')) with
      | none => simp [e']
      | some p => simp
theorem mput_new {m : List (α × β)} {k : α} {v : β} (h : k ∉ m.map (·.1)) : mput m k v = m ++ [(k, v)] := if_neg h
theorem mget_of_mem {m : List (α × β)} (hn : (m.map (·.1)).Nodup) {k : α} {v : β} (h : (k, v) ∈ m) : mget m k = some v := by
  induction m with
  | nil => cases h
  | cons p m ih =>
    rw [List.map_cons, List.nodup_cons] at hn
    unfold mget
    rcases List.mem_cons.mp h with e | e
    · subst e
      simp
    · have hk : p.1 ≠ k := fun z => hn.1 (List.mem_map.mpr ⟨_, e, by simp [z]⟩)
      rw [List.find?_cons, decide_eq_false hk]
      exact ih hn.2 e
theorem ix_dM (E : KeyE ek) {m : List (α × β)} {k : α} {v : β} (h : mget m k = some v) : ixD (dM ek ev m) (ek k) = some (ev v) := by
  show ((keyOf (ek k)).bind fun _ => dget (enM ek ev m) (ek k)) = _
  obtain ⟨q, hq⟩ := E.ok k
  rw [hq, Option.bind_some, dget_en E, h]
  rfl
theorem put_dM (E : KeyE ek) {m : List (α × β)} {k : α} {v : β} (h : m.length < 16777216) : putO (dM ek ev m) (ek k) (ev v) = some (dM ek ev (mput m k v)) := by
  show ((keyOf (ek k)).bind fun _ => putKv (.int 0) (enM ek ev m) (ek k) (ev v)) = _
  obtain ⟨q, hq⟩ := E.ok k
  rw [hq, Option.bind_some]
  have e : putKv (.int 0) (enM ek ev m) (ek k) (ev v) = some (.dict ((.none, .int 0) :: dput (enM ek ev m) (ek k) (ev v))) := if_pos (by rw [sizeLine_eq, enM_len]; exact h)
  rw [e, dput_en E]
theorem items_dM (m : List (α × β)) : itemsD (dM ek ev m) = some ((m.map (·.1)).map ek) := by
  show some ((enM ek ev m).map (·.1)) = _
  simp [enM, Function.comp_def]
theorem len_dM (m : List (α × β)) : lenF [dM ek ev m] = some (.int m.length) := by
  show some (PyData.int (enM ek ev m).length) = _
  rw [enM_len]
/-- a dict comprehension over items of one kind -/
theorem dcL_map {γ : Type} (E : KeyE ek) {i : Nat} {ρ : Env} {fk fv : FE} (enc : γ → D) (kf : γ → α) (vf : γ → β) : ∀ (xs : List γ) (acc : List (α × β)),
    (∀ x ∈ xs, fk (ρ.set i (some (.shr (enc x)))) = some (ek (kf x))) → (∀ x ∈ xs, fv (ρ.set i (some (.shr (enc x)))) = some (ev (vf x))) →
    dcL (gN i) tYs fk fv ρ (xs.map enc) (enM ek ev acc) = some (enM ek ev (xs.foldl (fun m x => mput m (kf x) (vf x)) acc))
  | [], acc, _, _ => rfl
  | x :: xs, acc, h1, h2 => by
    obtain ⟨q, hq⟩ := E.ok (kf x)
    have ih := dcL_map E (ρ := ρ) (i := i) (fk := fk) (fv := fv) enc kf vf xs (mput acc (kf x) (vf x)) (fun y hy => h1 y (List.mem_cons_of_mem _ hy)) (fun y hy => h2 y (List.mem_cons_of_mem _ hy))
    rw [List.map_cons]
    show (fk (ρ.set i (some (.shr (enc x))))).bind (fun k => (fv (ρ.set i (some (.shr (enc x))))).bind fun v => (keyOf k).bind fun _ => dcL (gN i) tYs fk fv ρ (xs.map enc) (dput (enM ek ev acc) k v)) = _
    rw [h1 x List.mem_cons_self, Option.bind_some, h2 x List.mem_cons_self, Option.bind_some, hq, Option.bind_some, dput_en E, ih]
    rfl
theorem foldl_copy : ∀ (m acc : List (α × β)), ((acc ++ m).map (·.1)).Nodup → m.foldl (fun m p => mput m p.1 p.2) acc = acc ++ m
  | [], acc, _ => by simp
  | p :: m, acc, h => by
    have hp : p.1 ∉ acc.map (·.1) := fun z => by
      rw [List.map_append, List.nodup_append] at h
      exact h.2.2 _ z _ (by simp) rfl
    rw [List.foldl_cons, mput_new hp, foldl_copy m (acc ++ [(p.1, p.2)]) (by simpa using h)]
    simp
end
theorem key_letter : KeyE (fun c : Nat => dW [c]) := ⟨fun a b => by rw [keq_wd]; simp, fun a => ⟨_, rfl⟩⟩
theorem key_word : KeyE dW := ⟨fun a b => keq_wd a b, fun a => ⟨_, rfl⟩⟩
end DV
end

set_option Elab.async false
set_option linter.all false
set_option maxRecDepth 100000
set_option maxHeartbeats 4000000
/-! DVr: one name for the steps of reckoning (dv); loops by invariants. -/
noncomputable section
namespace DV
open PySem L2
theorem iAnyB_e {a : FE} {ρ : Env} : iAnyB a ρ = (a ρ).bind itemsB := rfl
theorem itemsB_l {ds : List D} : itemsB (.list ds) = some ds := rfl
theorem bind0_s {n : Nat} {ds : List D} : bind0 n ds = ds.map (fun d => some (.shr d)) ++ List.replicate (n - ds.length) none := rfl
/-- the steps -/
def dvx := (And.intro (And.intro (And.intro (And.intro (And.intro (And.intro (And.intro @getV_s @getW_s) (And.intro @getW_o @eV_e)) (And.intro (And.intro @eW_e @eC_e) (And.intro @ap2_s @ap3_s))) (And.intro (And.intro (And.intro @o1_e @o2_e) (And.intro @toT_e @asB_b)) (And.intro (And.intro @asI_i @andO_t) (And.intro @andO_f (And.intro @orO_t @orO_f))))) (And.intro (And.intro (And.intro (And.intro @andV_t @andV_f) (And.intro @orV_t @orV_f)) (And.intro (And.intro @iteV_t @iteV_f) (And.intro @tAndF_e (And.intro @tOrF_e @tNotF_e)))) (And.intro (And.intro (And.intro @eAnd_e @eOr_e) (And.intro @eNot_e @mapB_s)) (And.intro (And.intro @eIf_e @lN_e) (And.intro @consO_s (And.intro @lC_e @o3c_e)))))) (And.intro (And.intro (And.intro (And.intro (And.intro @eCall_e @apM_s) (And.intro @eMeth_e @tupO_0)) (And.intro (And.intro @lstO_0 @tupO_1) (And.intro @lstO_1 (And.intro @tupO_2 @lstO_2)))) (And.intro (And.intro (And.intro @tupO_3 @lstO_3) (And.intro @tupO_4 @lstO_4)) (And.intro (And.intro @tupO_5 @eTup_e) (And.intro @eLst_e (And.intro @d1O_s @eD1_e))))) (And.intro (And.intro (And.intro (And.intro @pN_e @pS_e) (And.intro @eSl_e @iAny_e)) (And.intro (And.intro @iCall_e @tYs_e) (And.intro @gN_e (And.intro @gT_e @gsN_e)))) (And.intro (And.intro (And.intro @gsC_e @thenS_nx) (And.intro @thenS_rt @thenS_bk)) (And.intro (And.intro @thenS_ct @iteS_t) (And.intro @iteS_f (And.intro @sNx_e @sBk_e))))))) (And.intro (And.intro (And.intro (And.intro (And.intro (And.intro @sCt_e @sSeq_e) (And.intro @rtO_s @sRet_e)) (And.intro (And.intro @sRetN_e @exO_s) (And.intro @sEx_e (And.intro @sIf_e @nxO_s)))) (And.intro (And.intro (And.intro @asgO_s @sAsg_e) (And.intro @ownO_s @sOwn_e)) (And.intro (And.intro @sFrz_e @frzS_o) (And.intro @frzS_s (And.intro @frzS_n @frzE_e))))) (And.intro (And.intro (And.intro (And.intro @thenFO_nx @thenFO_rt) (And.intro @thenF_e @appO_s)) (And.intro (And.intro @sApp_e @putS_o) (And.intro @putSO_s (And.intro @sPut_e @forO_s)))) (And.intro (And.intro (And.intro @sFor_e @wipeE_nil) (And.intro @wipeE_cons @eLc_e)) (And.intro (And.intro @eDc_e @endF_nx) (And.intro @endF_rt (And.intro @turnS_nx @turnS_ct)))))) (And.intro (And.intro (And.intro (And.intro (And.intro @turnS_bk @turnS_rt) (And.intro @lcC_s @add_ii)) (And.intro (And.intro @sub_ii @neg_i) (And.intro @lt_ii (And.intro @le_ii @gt_ii)))) (And.intro (And.intro (And.intro @ge_ii @eq_ii) (And.intro @ne_ii @len_l)) (And.intro (And.intro @len_t @len_dk) (And.intro @len_scr (And.intro @ix_t0 @ix_t1))))) (And.intro (And.intro (And.intro (And.intro @ix_t2 @ix_l0) (And.intro @keyOf_wd @Option.bind_some.{0,0})) (And.intro (And.intro @Option.map_some.{0,0} @List.getElem?_cons_succ.{0}) (And.intro @List.getElem?_cons_zero.{0} (And.intro @List.set_cons_succ.{0} @List.set_cons_zero.{0})))) (And.intro (And.intro (And.intro @List.map_cons.{0,0} @List.map_nil.{0,0}) (And.intro @Bool.not_true @Bool.not_false)) (And.intro (And.intro @callF_1 @callF_2) (And.intro @callF_3 (And.intro @callF_4 (And.intro @callF_5 (And.intro @iAnyB_e @itemsB_l))))))))))
theorem dv : type_of% dvx := dvx
/-- a def opened -/
def dv0x := (And.intro (And.intro @bind0_s (And.intro @List.length_cons.{0} @List.length_nil.{0})) (And.intro (And.intro @List.replicate_succ.{0} @List.replicate_zero.{0}) (And.intro @List.cons_append.{0} @List.nil_append.{0})))
theorem dv0 : type_of% dv0x := dv0x

section
variable {α : Type} {i : Nat} {s : FS} {g : FG}
/-- a loop over items, by an invariant of what is done -/
theorem for_list (enc : α → D) (xs : List α) (I : List α → Env → Prop) (hs : ∀ p x r ρ, xs = p ++ x :: r → I p ρ → ∃ ρ', s (ρ.set i (some (.shr (enc x)))) = some (.nx ρ') ∧ I (p ++ [x]) ρ') :
    ∀ {ρ : Env}, I [] ρ → ∃ ρ', forL (gN i) s (xs.map enc) ρ = some (.nx ρ') ∧ I xs ρ' := by
  have gen : ∀ (r p : List α) (ρ : Env), xs = p ++ r → I p ρ → ∃ ρ', forL (gN i) s (r.map enc) ρ = some (.nx ρ') ∧ I xs ρ' := by
    intro r
    induction r with
    | nil =>
      intro p ρ e h
      rw [List.append_nil] at e
      subst e
      exact ⟨ρ, rfl, h⟩
    | cons x r ih =>
      intro p ρ e h
      obtain ⟨ρ', e1, h1⟩ := hs p x r ρ e h
      obtain ⟨ρ2, e2, h2⟩ := ih (p ++ [x]) ρ' (by simp [e]) h1
      exact ⟨ρ2, by rw [List.map_cons, forL_cons, e1, turnS_nx, e2], h2⟩
  exact fun {ρ} h => gen xs [] ρ rfl h
/-- a loop that may return -/
theorem for_ret (enc : α → D) (xs : List α) (I : List α → Env → Prop) (R : D → Prop) (hs : ∀ p x r ρ, xs = p ++ x :: r → I p ρ → (∃ ρ', s (ρ.set i (some (.shr (enc x)))) = some (.nx ρ') ∧ I (p ++ [x]) ρ') ∨ ∃ d, s (ρ.set i (some (.shr (enc x)))) = some (.rt d) ∧ R d) :
    ∀ {ρ : Env}, I [] ρ → (∃ ρ', forL (gN i) s (xs.map enc) ρ = some (.nx ρ') ∧ I xs ρ') ∨ ∃ d, forL (gN i) s (xs.map enc) ρ = some (.rt d) ∧ R d := by
  have gen : ∀ (r p : List α) (ρ : Env), xs = p ++ r → I p ρ → (∃ ρ', forL (gN i) s (r.map enc) ρ = some (.nx ρ') ∧ I xs ρ') ∨ ∃ d, forL (gN i) s (r.map enc) ρ = some (.rt d) ∧ R d := by
    intro r
    induction r with
    | nil =>
      intro p ρ e h
      rw [List.append_nil] at e
      subst e
      exact .inl ⟨ρ, rfl, h⟩
    | cons x r ih =>
      intro p ρ e h
      rcases hs p x r ρ e h with ⟨ρ', e1, h1⟩ | ⟨d, e1, h1⟩
      · rcases ih (p ++ [x]) ρ' (by simp [e]) h1 with ⟨ρ2, e2, h2⟩ | ⟨d, e2, h2⟩
        · exact .inl ⟨ρ2, by rw [List.map_cons, forL_cons, e1, turnS_nx, e2], h2⟩
        · exact .inr ⟨d, by rw [List.map_cons, forL_cons, e1, turnS_nx, e2], h2⟩
      · exact .inr ⟨d, by rw [List.map_cons, forL_cons, e1, turnS_rt], h1⟩
  exact fun {ρ} h => gen xs [] ρ rfl h
/-- a loop that returns c at the first item that p says no of -/
theorem for_check (enc : α → D) (p : α → Bool) (c : D) (I : Env → Prop) : ∀ (xs : List α), (∀ x ∈ xs, ∀ ρ, I ρ → ∃ ρ', I ρ' ∧ s (ρ.set i (some (.shr (enc x)))) = if p x = true then some (.nx ρ') else some (.rt c)) →
    ∀ {ρ : Env}, I ρ → ∃ ρ', I ρ' ∧ forL (gN i) s (xs.map enc) ρ = if xs.all p = true then some (.nx ρ') else some (.rt c)
  | [], _, ρ, h => ⟨ρ, h, rfl⟩
  | x :: xs, hs, ρ, h => by
    obtain ⟨ρ', h1, e1⟩ := hs x List.mem_cons_self ρ h
    obtain ⟨ρ2, h2, e2⟩ := for_check enc p c I xs (fun y hy => hs y (List.mem_cons_of_mem _ hy)) h1
    rw [List.map_cons, forL_cons, e1, List.all_cons]
    cases hp : p x with
    | true =>
      refine ⟨ρ2, h2, ?_⟩
      rw [if_pos rfl, turnS_nx, e2, Bool.true_and]
    | false =>
      refine ⟨ρ', h1, ?_⟩
      rw [if_neg (by decide), turnS_rt, Bool.false_and, if_neg (by decide)]
/-- a while, by an invariant with what is left to do -/
theorem while_inv {c : FT} (I : Nat → Env → Prop) (R : Out → Prop) (hs : ∀ n ρ, I n ρ → (c ρ = some false ∧ R (.nx ρ)) ∨ (c ρ = some true ∧ ((∃ ρ', s ρ = some (.nx ρ') ∧ ∃ m, m < n ∧ I m ρ') ∨ ∃ d, s ρ = some (.rt d) ∧ R (.rt d)))) :
    ∀ (n k : Nat) (ρ : Env), n < k → I n ρ → ∃ o, whileL c s k ρ = some o ∧ R o
  | n, 0, _, h, _ => absurd h (by omega)
  | n, k + 1, ρ, h, hi => by
    rcases hs n ρ hi with ⟨e, h1⟩ | ⟨e, ⟨ρ', e1, m, hm, h1⟩ | ⟨d, e1, h1⟩⟩
    · exact ⟨_, whileL_f e, h1⟩
    · obtain ⟨o, e2, h2⟩ := while_inv I R hs m k ρ' (by omega) h1
      exact ⟨o, by rw [whileL_t e, e1, turnS_nx, e2], h2⟩
    · exact ⟨_, by rw [whileL_t e, e1, turnS_rt], h1⟩
end
end DV
end

set_option Elab.async false
set_option linter.all false
set_option maxRecDepth 100000
/-! DVo: equality of plain data; sorted words. -/
noncomputable section
namespace DV
open PySem L2
theorem strOk_wd {l : List Nat} (h : ∀ c ∈ l, c < 1000) : PyData.strOk (wd l) = true := by
  unfold PyData.strOk
  simp [wd]
  intro c hc
  have := h c hc
  omega
theorem lay_words {ls : List (List Nat)} (h : ∀ l ∈ ls, ∀ c ∈ l, c < 1000) : PyData.canLayAll0 (ls.map dW) = true := by
  induction ls with
  | nil => rfl
  | cons l ls ih =>
    rw [List.map_cons]
    show (PyData.canLay0 (dW l) && PyData.canLayAll0 (ls.map dW)) = true
    rw [ih fun x hx => h x (List.mem_cons_of_mem _ hx)]
    show (PyData.strOk (wd l) && true) = true
    rw [strOk_wd (h l List.mem_cons_self)]
    rfl
theorem depth_words (ls : List (List Nat)) : PyData.depthAll (ls.map dW) = 0 := by
  induction ls with
  | nil => rfl
  | cons l ls ih =>
    rw [List.map_cons]
    show max 0 (PyData.depthAll (ls.map dW)) = 0
    rw [ih]
    rfl
theorem shaped_words {ls : List (List Nat)} (h : ∀ l ∈ ls, ∀ c ∈ l, c < 1000) : SeqAt.shaped (.tuple (ls.map dW)) = true := by
  unfold SeqAt.shaped
  rw [Bool.and_eq_true]
  refine ⟨lay_words h, decide_eq_true ?_⟩
  show PyData.depthAll (ls.map dW) + 1 ≤ 64
  rw [depth_words]
  decide
theorem eqG_self {x : D} (h : SeqAt.shaped x = true) : eqG x x = some (.bool true) := by
  unfold eqG
  rw [if_pos ⟨h, h⟩, SeqAt.eqv_refl x (SeqAt.canLay_of_shaped h)]
theorem eq_tt {ds : List D} (h : SeqAt.shaped (.tuple ds) = true) : eqD (.tuple ds) (.tuple ds) = some (.bool true) := eqG_self h
theorem ne_tt {ds : List D} (h : SeqAt.shaped (.tuple ds) = true) : neD (.tuple ds) (.tuple ds) = some (.bool false) := by
  unfold neD
  rw [eq_tt h]
  rfl
/-! ### lists without repeats and with the same members -/
theorem perm_of_mem {α : Type} [DecidableEq α] : ∀ {l m : List α}, l.Nodup → m.Nodup → (∀ x, x ∈ l ↔ x ∈ m) → l.Perm m
  | [], m, _, _, h => by
    cases m with
    | nil => exact .nil
    | cons a m => exact absurd ((h a).mpr List.mem_cons_self) (by simp)
  | a :: l, m, hl, hm, h => by
    have ha : a ∈ m := (h a).mp List.mem_cons_self
    rw [List.nodup_cons] at hl
    refine List.Perm.trans ?_ (List.perm_cons_erase ha).symm
    refine List.Perm.cons a (perm_of_mem hl.2 (hm.erase a) fun x => ?_)
    rw [hm.mem_erase_iff]
    constructor
    · intro hx
      exact ⟨fun e => hl.1 (e ▸ hx), (h x).mp (List.mem_cons_of_mem _ hx)⟩
    · rintro ⟨h1, h2⟩
      rcases List.mem_cons.mp ((h x).mpr h2) with e | e
      · exact absurd e h1
      · exact e
theorem nodup_len_le {α : Type} [DecidableEq α] : ∀ {l m : List α}, l.Nodup → (∀ x ∈ l, x ∈ m) → l.length ≤ m.length
  | [], m, _, _ => Nat.zero_le _
  | a :: l, m, h, hs => by
    rw [List.nodup_cons] at h
    have ha := hs a List.mem_cons_self
    have := nodup_len_le (l := l) (m := m.erase a) h.2 fun x hx => (List.mem_erase_of_ne fun e => h.1 (by rw [← e]; exact hx)).mpr (hs x (List.mem_cons_of_mem _ hx))
    rw [List.length_erase_of_mem ha] at this
    have := List.length_pos_of_mem ha
    simp
    omega
/-! ### keys of a dict whose values are all True -/
abbrev vT : Unit → D := fun _ => .bool true
abbrev dS (ks : List (List Nat)) : D := dM dW vT (ks.map fun w => (w, ()))
def addK (ks : List (List Nat)) (w : List Nat) : List (List Nat) := if w ∈ ks then ks else ks ++ [w]
theorem mput_addK (ks : List (List Nat)) (w : List Nat) : mput (ks.map fun w => (w, ())) w () = (addK ks w).map fun w => (w, ()) := by
  unfold mput addK
  have e : (ks.map fun w => (w, ())).map (·.1) = ks := by simp [Function.comp_def]
  rw [e]
  split
  · rw [List.map_map]
    refine List.map_congr_left fun x _ => ?_
    simp only [Function.comp_def]
    split <;> rfl
  · rw [List.map_append]
    rfl
theorem put_dS {ks : List (List Nat)} {w : List Nat} (h : ks.length < 16777216) : putO (dS ks) (dW w) (.bool true) = some (dS (addK ks w)) := by
  have := put_dM (ek := dW) (ev := vT) key_word (m := ks.map fun w => (w, ())) (k := w) (v := ()) (by simpa using h)
  rw [mput_addK] at this
  exact this
theorem keys_dS (ks : List (List Nat)) : lstF [dS ks] = some (.list (ks.map dW)) := by
  show some (PyData.list ((enM dW vT (ks.map fun w => (w, ()))).map (·.1))) = _
  simp [enM, Function.comp_def]
theorem addK_nodup {ks : List (List Nat)} {w : List Nat} (h : ks.Nodup) : (addK ks w).Nodup := by
  unfold addK
  split
  · exact h
  · rename_i e
    rw [List.nodup_append]
    exact ⟨h, by simp, fun a ha b hb => by
      simp at hb
      subst hb
      exact fun z => e (z ▸ ha)⟩
theorem addK_mem {ks : List (List Nat)} {w u : List Nat} : u ∈ addK ks w ↔ u ∈ ks ∨ u = w := by
  unfold addK
  split
  · rename_i e
    exact ⟨.inl, fun z => z.elim id fun z => z ▸ e⟩
  · simp
theorem addK_len (ks : List (List Nat)) (w : List Nat) : (addK ks w).length ≤ ks.length + 1 := by
  unfold addK
  split <;> simp
end DV
end

set_option Elab.async false
set_option linter.all false
set_option maxRecDepth 100000
/-! DVq: == of plain data without booleans and dicts. -/
noncomputable section
namespace DV
open PySem L2
def nice : Nat → D → Prop
  | 0, d => match d with
    | .none => True
    | .int _ => True
    | .str x => PyData.strOk x = true
    | _ => False
  | k + 1, d => match d with
    | .none => True
    | .int _ => True
    | .str x => PyData.strOk x = true
    | .list ds => ∀ x ∈ ds, nice k x
    | .tuple ds => ∀ x ∈ ds, nice k x
    | _ => False
theorem nice_int {k : Nat} {i : Int} : nice k (.int i) := by cases k <;> trivial
theorem nice_none {k : Nat} : nice k .none := by cases k <;> trivial
theorem nice_str {k : Nat} {x : Str} (h : PyData.strOk x = true) : nice k (.str x) := by cases k <;> exact h
theorem nice_wd {k : Nat} {l : List Nat} (h : ∀ c ∈ l, c < 1000) : nice k (dW l) := nice_str (strOk_wd h)
theorem nice_list {k : Nat} {ds : List D} : nice (k + 1) (.list ds) ↔ ∀ x ∈ ds, nice k x := Iff.rfl
theorem nice_tuple {k : Nat} {ds : List D} : nice (k + 1) (.tuple ds) ↔ ∀ x ∈ ds, nice k x := Iff.rfl
theorem nice_mono : ∀ {k j : Nat} {d : D}, k ≤ j → nice k d → nice j d
  | 0, 0, _, _, h => h
  | 0, j + 1, d, _, h => by cases d <;> first | exact h | exact h.elim
  | k + 1, 0, _, hk, _ => absurd hk (by omega)
  | k + 1, j + 1, d, hk, h => by
    cases d with
    | list ds => exact fun x hx => nice_mono (by omega) (h x hx)
    | tuple ds => exact fun x hx => nice_mono (by omega) (h x hx)
    | _ => exact h
theorem lay_all {ds : List D} : (∀ x ∈ ds, x.canLay0 = true) → PyData.canLayAll0 ds = true := by
  induction ds with
  | nil => intro _; rfl
  | cons x ds ih =>
    intro h
    show (x.canLay0 && PyData.canLayAll0 ds) = true
    rw [h x List.mem_cons_self, ih fun y hy => h y (List.mem_cons_of_mem _ hy)]
    rfl
theorem depth_all {ds : List D} {k : Nat} : (∀ x ∈ ds, x.depth ≤ k) → PyData.depthAll ds ≤ k := by
  induction ds with
  | nil => intro _; exact Nat.zero_le _
  | cons x ds ih =>
    intro h
    exact Nat.max_le.mpr ⟨h x List.mem_cons_self, ih fun y hy => h y (List.mem_cons_of_mem _ hy)⟩
theorem nice_lay : ∀ {k : Nat} {d : D}, nice k d → d.canLay0 = true
  | 0, d, h => by cases d <;> first | rfl | exact h | exact h.elim
  | k + 1, d, h => by
    cases d with
    | list ds => exact lay_all fun x hx => nice_lay (h x hx)
    | tuple ds => exact lay_all fun x hx => nice_lay (h x hx)
    | none => rfl
    | int i => rfl
    | str x => exact h
    | bool b => exact h.elim
    | dict kvs => exact h.elim
theorem nice_depth : ∀ {k : Nat} {d : D}, nice k d → d.depth ≤ k
  | 0, d, h => by cases d <;> first | exact Nat.le_refl 0 | exact h.elim
  | k + 1, d, h => by
    cases d with
    | list ds => exact Nat.succ_le_succ (depth_all fun x hx => nice_depth (h x hx))
    | tuple ds => exact Nat.succ_le_succ (depth_all fun x hx => nice_depth (h x hx))
    | none => exact Nat.zero_le _
    | int i => exact Nat.zero_le _
    | str x => exact Nat.zero_le _
    | bool b => exact h.elim
    | dict kvs => exact h.elim
theorem nice_shaped {k : Nat} {d : D} (h : nice k d) (hk : k ≤ 64) : SeqAt.shaped d = true := by
  unfold SeqAt.shaped
  rw [Bool.and_eq_true]
  exact ⟨nice_lay h, decide_eq_true (Nat.le_trans (nice_depth h) hk)⟩
theorem eqvAll_of {k : Nat} (ih : ∀ {x y : D}, nice k x → nice k y → (PyData.eqv x y = true ↔ x = y)) : ∀ {xs ys : List D}, (∀ x ∈ xs, nice k x) → (∀ y ∈ ys, nice k y) → (PyData.eqvAll xs ys = true ↔ xs = ys)
  | [], [], _, _ => ⟨fun _ => rfl, fun _ => rfl⟩
  | [], _ :: _, _, _ => ⟨fun h => (by cases h), fun h => (by cases h)⟩
  | _ :: _, [], _, _ => ⟨fun h => (by cases h), fun h => (by cases h)⟩
  | x :: xs, y :: ys, h1, h2 => by
    show (PyData.eqv x y && PyData.eqvAll xs ys) = true ↔ _
    rw [Bool.and_eq_true, ih (h1 x List.mem_cons_self) (h2 y List.mem_cons_self), eqvAll_of ih (fun z hz => h1 z (List.mem_cons_of_mem _ hz)) (fun z hz => h2 z (List.mem_cons_of_mem _ hz))]
    simp
theorem eqv_nice : ∀ {k : Nat} {x y : D}, nice k x → nice k y → (PyData.eqv x y = true ↔ x = y)
  | 0, x, y, h1, h2 => by
    cases x <;> first | exact h1.elim | (cases y <;> first | exact h2.elim | simp [PyData.eqv])
  | k + 1, x, y, h1, h2 => by
    have ih := fun {x y : D} => eqv_nice (k := k) (x := x) (y := y)
    cases x with
    | bool b => exact h1.elim
    | dict kvs => exact h1.elim
    | list xs =>
      cases y with
      | list ys =>
        show PyData.eqvAll xs ys = true ↔ _
        rw [eqvAll_of ih h1 h2]
        simp
      | bool b => exact h2.elim
      | dict kvs => exact h2.elim
      | _ => simp [PyData.eqv]
    | tuple xs =>
      cases y with
      | tuple ys =>
        show PyData.eqvAll xs ys = true ↔ _
        rw [eqvAll_of ih h1 h2]
        simp
      | bool b => exact h2.elim
      | dict kvs => exact h2.elim
      | _ => simp [PyData.eqv]
    | none => cases y <;> first | exact h2.elim | simp [PyData.eqv]
    | int i => cases y <;> first | exact h2.elim | simp [PyData.eqv]
    | str z => cases y <;> first | exact h2.elim | simp [PyData.eqv]
theorem eqG_nice {k : Nat} {x y : D} {b : Bool} (h1 : nice k x) (h2 : nice k y) (hk : k ≤ 64) (hb : b = true ↔ x = y) : eqG x y = some (.bool b) := by
  unfold eqG
  rw [if_pos ⟨nice_shaped h1 hk, nice_shaped h2 hk⟩]
  congr 2
  rw [Bool.eq_iff_iff, eqv_nice h1 h2, hb]
theorem eqD_nice {k : Nat} {x y : D} {b : Bool} (h1 : nice k x) (h2 : nice k y) (hk : k ≤ 64) (hb : b = true ↔ x = y) : eqD x y = some (.bool b) := by
  have hd : ∀ {p : Prop} [Decidable p], (b = true ↔ p) → some (PyData.bool (decide p)) = some (PyData.bool b) := fun {p} _ h => by
    congr 2
    rw [Bool.eq_iff_iff, h, decide_eq_true_iff]
  have hf : ¬ x = y → some (PyData.bool false) = some (PyData.bool b) := fun h => by
    congr 2
    cases b with
    | false => rfl
    | true => exact absurd (hb.mp rfl) h
  have g := eqG_nice h1 h2 hk hb
  cases x with
  | bool b => cases k <;> exact h1.elim
  | dict kvs => cases k <;> exact h1.elim
  | none =>
    cases y with
    | none => rw [hb.mpr rfl]; rfl
    | int i => exact hf (by simp)
    | str i => exact hf (by simp)
    | _ => exact g
  | int i =>
    cases y with
    | none => exact hf (by simp)
    | int j => exact hd (hb.trans (by simp))
    | str j => exact hf (by simp)
    | _ => exact g
  | str i =>
    cases y with
    | none => exact hf (by simp)
    | int j => exact hf (by simp)
    | str j => exact hd (hb.trans (by simp))
    | _ => exact g
  | list xs => cases y <;> exact g
  | tuple xs => cases y <;> exact g
theorem neD_nice {k : Nat} {x y : D} {b : Bool} (h1 : nice k x) (h2 : nice k y) (hk : k ≤ 64) (hb : b = true ↔ x = y) : neD x y = some (.bool (!b)) := by
  unfold neD
  rw [eqD_nice h1 h2 hk hb]
  rfl
theorem in_nice {k : Nat} {x : D} {ds : List D} {b : Bool} (h1 : nice k x) (h2 : ∀ y ∈ ds, nice k y) (hk : k < 64) (hx : flatD x = false) (hb : b = true ↔ x ∈ ds) : inB x (.list ds) = some b := by
  have e : inB x (.list ds) = inL x ds := by
    cases x <;> first | rfl | cases hx
  rw [e]
  unfold inL
  rw [if_neg (by rw [hx]; exact fun z => Bool.noConfusion z.1), if_pos ⟨nice_shaped h1 (by omega), nice_shaped (k := k + 1) (d := .list ds) h2 (by omega)⟩]
  congr 1
  rw [Bool.eq_iff_iff, hb, List.any_eq_true]
  constructor
  · rintro ⟨y, hy, e⟩
    rw [(eqv_nice (h2 y hy) h1).mp e] at hy
    exact hy
  · exact fun h => ⟨x, h, (eqv_nice h1 h1).mpr rfl⟩
end DV
end

set_option Elab.async false
set_option linter.all false
set_option maxRecDepth 100000
/-! DVp: dicts of the kind N as lists of pairs. -/
noncomputable section
namespace DV
open PySem PySem.Spec PyProof.Rows L2
mutual
theorem nkO_nkD : ∀ k : NestedKey, nkO (nkD k) = some k
  | .none => rfl
  | .num i => rfl
  | .text x => rfl
  | .tup ks => by
    show (nkOs (nkDs ks)).map NestedKey.tup = _
    rw [nkOs_nkDs ks]
    rfl
theorem nkOs_nkDs : ∀ ks : List NestedKey, nkOs (nkDs ks) = some ks
  | [] => rfl
  | k :: ks => by
    show (nkO (nkD k)).bind (fun k => (nkOs (nkDs ks)).map fun ks => k :: ks) = _
    rw [nkO_nkD k, nkOs_nkDs ks]
    rfl
end
theorem nkDs_map (ks : List NestedKey) : nkDs ks = ks.map nkD := by
  induction ks with
  | nil => rfl
  | cons k ks ih => rw [nkDs, ih]; rfl
theorem nkey_nk {k : NestedKey} (ht : ∃ ks, k = .tup ks) (hd : k.depth ≤ 8) : nkey (nkD k) = some k := by
  obtain ⟨ks, rfl⟩ := ht
  have e := nkO_nkD (.tup ks)
  rw [nkD] at e ⊢
  simp only [nkey]
  rw [e, Option.bind_some, if_pos hd]
theorem ndepth_all {ks : List NestedKey} {n : Nat} : (∀ k ∈ ks, k.depth ≤ n) → NestedKey.depthAll ks ≤ n := by
  induction ks with
  | nil => intro _; exact Nat.zero_le _
  | cons k ks ih => exact fun h => Nat.max_le.mpr ⟨h k List.mem_cons_self, ih fun x hx => h x (List.mem_cons_of_mem _ hx)⟩
theorem ndepth_tup {ks : List NestedKey} {n : Nat} (h : ∀ k ∈ ks, k.depth ≤ n) : (NestedKey.tup ks).depth ≤ n + 1 := Nat.succ_le_succ (ndepth_all h)
/-- keys as nested tuples -/
structure KeyN {α : Type} (nk : α → NestedKey) : Prop where
  inj : ∀ a b, nk a = nk b → a = b
  tup : ∀ a, ∃ ks, nk a = .tup ks
  dep : ∀ a, (nk a).depth ≤ 8
section
variable {α β : Type} [DecidableEq α] {nk : α → NestedKey} {ev : β → D}
def enN (nk : α → NestedKey) (ev : β → D) (m : List (α × β)) : List (D × D) := m.map fun p => (nkD (nk p.1), ev p.2)
def dN2 (nk : α → NestedKey) (ev : β → D) (m : List (α × β)) : D := .dict ((.none, .int 2) :: enN nk ev m)
theorem KeyN.keq (E : KeyN nk) (a b : α) : DV.keq (nkD (nk a)) (nkD (nk b)) = decide (a = b) := by
  rw [keq_nk]
  exact decide_eq_decide.mpr ⟨E.inj a b, fun h => by rw [h]⟩
theorem KeyN.ok (E : KeyN nk) (a : α) : nkey (nkD (nk a)) = some (nk a) := nkey_nk (E.tup a) (E.dep a)
theorem on_en (E : KeyN nk) (m : List (α × β)) (x : Option D) : onN (enN nk ev m) x = x := onN_of fun p hp => by
  obtain ⟨q, _, rfl⟩ := List.mem_map.mp hp
  show (nkey (nkD (nk q.1))).isSome = true
  rw [E.ok]
  rfl
theorem dget_enN (E : KeyN nk) (m : List (α × β)) (k : α) : dget (enN nk ev m) (nkD (nk k)) = (mget m k).map ev := by
  unfold dget mget enN
  rw [List.find?_map]
  simp only [Function.comp_def, E.keq]
  cases m.find? (fun p => decide (p.1 = k)) <;> rfl
theorem dput_enN (E : KeyN nk) (m : List (α × β)) (k : α) (v : β) : dput (enN nk ev m) (nkD (nk k)) (ev v) = enN nk ev (mput m k v) := by
  unfold dput mput enN
  simp only [List.any_map, Function.comp_def, E.keq, List.any_eq_true, decide_eq_true_eq]
  by_cases h : k ∈ m.map (·.1)
  · have h' : ∃ x ∈ m, x.1 = k := by simpa using h
    rw [if_pos h, if_pos h', List.map_map, List.map_map]
    refine List.map_congr_left fun p _ => ?_
    simp only [Function.comp_def, E.keq, decide_eq_true_eq]
    by_cases e : p.1 = k
    · rw [if_pos e, if_pos e]
    · rw [if_neg e, if_neg e]
  · have h' : ¬ ∃ x ∈ m, x.1 = k := by simpa using h
    rw [if_neg h, if_neg h', List.map_append]
    rfl
theorem nin_dN (E : KeyN nk) (m : List (α × β)) (k : α) : ninND (nkD (nk k)) (dN2 nk ev m) = some (.bool (!(mget m k).isSome)) := by
  show onN (enN nk ev m) ((nkey (nkD (nk k))).map fun _ => .bool (!(dget (enN nk ev m) (nkD (nk k))).isSome)) = _
  rw [on_en E, E.ok, dget_enN E, Option.isSome_map]
  rfl
theorem ix_dN (E : KeyN nk) {m : List (α × β)} {k : α} {v : β} (h : mget m k = some v) : ixND (dN2 nk ev m) (nkD (nk k)) = some (ev v) := by
  show onN (enN nk ev m) ((nkey (nkD (nk k))).bind fun _ => dget (enN nk ev m) (nkD (nk k))) = _
  rw [on_en E, E.ok, dget_enN E, h]
  rfl
theorem put_dN (E : KeyN nk) {m : List (α × β)} {k : α} {v : β} (h : m.length < 16777216) : putNO (dN2 nk ev m) (nkD (nk k)) (ev v) = some (dN2 nk ev (mput m k v)) := by
  show onN (enN nk ev m) ((nkey (nkD (nk k))).bind fun _ => putNKv (enN nk ev m) (nkD (nk k)) (ev v)) = _
  rw [on_en E, E.ok, Option.bind_some]
  have e : putNKv (enN nk ev m) (nkD (nk k)) (ev v) = some (.dict ((.none, .int 2) :: dput (enN nk ev m) (nkD (nk k)) (ev v))) := if_pos (by rw [sizeLine_eq]; simpa [enN] using h)
  rw [e, dput_enN E]
  rfl
end
def putNS (i : Nat) (k v : D) (ρ : Env) : Option (Option Sl) → Option Out
  | some (some (.own d)) => (putNO d k v).map fun d' => .nx (ρ.set i (some (.own d')))
  | _ => none
def putNSO (i : Nat) (v k : Option D) (ρ : Env) : Option Out := v.bind fun v => k.bind fun k => putNS i k v ρ ρ[i]?
theorem putNS_o {i : Nat} {k v d : D} {ρ : Env} : putNS i k v ρ (some (some (.own d))) = (putNO d k v).map fun d' => .nx (ρ.set i (some (.own d'))) := rfl
theorem putNSO_s {i : Nat} {k v : D} {ρ : Env} : putNSO i (some v) (some k) ρ = putNS i k v ρ ρ[i]? := rfl
theorem sPutN_e {i : Nat} {a k : FE} {ρ : Env} : sPutN i k a ρ = putNSO i (a ρ) (k ρ) ρ := by
  unfold sPutN putNSO
  cases a ρ with
  | none => rfl
  | some v =>
    cases k ρ with
    | none => rfl
    | some k =>
      simp only [Option.bind_some]
      unfold putNS
      split <;> simp_all
theorem empty_dN {α β : Type} {nk : α → NestedKey} {ev : β → D} : PyData.dict [(.none, .int 2)] = dN2 nk ev [] := rfl
end DV
end

set_option Elab.async false
set_option linter.all false
set_option maxRecDepth 100000
/-! DVsl: slices. -/
noncomputable section
namespace DV
open PySem L2
theorem cut_take (ds : List D) (k : Nat) : cutD ds none (some (k : Int)) = ds.take k := by
  unfold cutD
  rw [HT.sIx_nat]
  show ((ds.drop 0).take (min k ds.length - 0)) = _
  rw [List.drop_zero, Nat.sub_zero]
  apply List.ext_getElem?
  intro i
  rw [List.getElem?_take, List.getElem?_take]
  by_cases h : i < k
  · by_cases h2 : i < ds.length
    · rw [if_pos (by omega), if_pos h]
    · rw [if_neg (by omega), if_pos h, List.getElem?_eq_none (by omega)]
  · rw [if_neg (by omega), if_neg h]
theorem cut_drop (ds : List D) (k : Nat) : cutD ds (some (k : Int)) none = ds.drop k := by
  unfold cutD
  rw [HT.sIx_nat]
  show ((ds.drop (min k ds.length)).take (ds.length - min k ds.length)) = _
  by_cases h : k ≤ ds.length
  · rw [Nat.min_eq_left h, List.take_of_length_le (by simp)]
  · rw [Nat.min_eq_right (by omega), List.drop_eq_nil_of_le (Nat.le_refl _), List.drop_eq_nil_of_le (by omega), List.take_nil]
theorem sl_takeL (ds : List D) (k : Nat) : slD (.list ds) none (some (k : Int)) = some (.list (ds.take k)) := by
  show some (PyData.list (cutD ds none (some (k : Int)))) = _
  rw [cut_take]
theorem sl_dropL (ds : List D) (k : Nat) : slD (.list ds) (some (k : Int)) none = some (.list (ds.drop k)) := by
  show some (PyData.list (cutD ds (some (k : Int)) none)) = _
  rw [cut_drop]
theorem sl_takeT (ds : List D) (k : Nat) : slD (.tuple ds) none (some (k : Int)) = some (.tuple (ds.take k)) := by
  show some (PyData.tuple (cutD ds none (some (k : Int)))) = _
  rw [cut_take]
theorem sl_dropT (ds : List D) (k : Nat) : slD (.tuple ds) (some (k : Int)) none = some (.tuple (ds.drop k)) := by
  show some (PyData.tuple (cutD ds (some (k : Int)) none)) = _
  rw [cut_drop]
theorem cutS_len (z : Str) (lo hi : Option Int) : (cutS z lo hi).length ≤ z.length := by
  unfold cutS Str.length
  rw [List.size_toArray, List.length_take, List.length_drop]
  simp
  omega
theorem pick_map {α : Type} (f : α → D) (xs : List α) (lo hi st : Option Int) : pickD (xs.map f) lo hi st = (pickD xs lo hi st).map f := by
  unfold pickD
  rw [List.length_map, List.map_filterMap]
  congr 1
  funext i
  rw [List.getElem?_map]
theorem pick_mem {α : Type} {xs : List α} {lo hi st : Option Int} {x : α} (h : x ∈ pickD xs lo hi st) : x ∈ xs := by
  unfold pickD at h
  obtain ⟨i, _, e⟩ := List.mem_filterMap.mp h
  exact List.mem_of_getElem? e
theorem pick_len {α : Type} (xs : List α) (lo hi st : Option Int) : (pickD xs lo hi st).length ≤ xs.length := by
  have h := slicePick_size_le (xs.map fun _ => Value.none).toArray lo hi st
  rw [pick_eq] at h
  have e : (pickD (xs.map fun _ => Value.none) lo hi st).length = (pickD xs lo hi st).length := by
    unfold pickD
    rw [List.length_map]
    generalize sliceRange _ _ _ = is
    induction is with
    | nil => rfl
    | cons i is ih =>
      cases hx : xs[i]? with
      | none =>
        rw [List.filterMap_cons_none (by rw [List.getElem?_map, hx]; rfl), List.filterMap_cons_none hx, ih]
      | some y =>
        rw [List.filterMap_cons_some (b := Value.none) (by rw [List.getElem?_map, hx]; rfl), List.filterMap_cons_some hx, List.length_cons, List.length_cons, ih]
  simp only [List.size_toArray, List.length_map] at h
  omega
end DV
end

set_option Elab.async false
set_option linter.all false
set_option maxRecDepth 100000
/-! DVtp: dicts of the kind T as lists of pairs; more of the kind K. -/
noncomputable section
namespace DV
open PySem L2
structure KeyT {α : Type} [DecidableEq α] (ek : α → D) : Prop where
  eq : ∀ a b, keq (ek a) (ek b) = decide (a = b)
  ok : ∀ a, ∃ k, tkeyOf (ek a) = some k
section
variable {α β : Type} [DecidableEq α] {ek : α → D} {ev : β → D}
def dT2 (ek : α → D) (ev : β → D) (m : List (α × β)) : D := .dict ((.none, .int 1) :: enM ek ev m)
theorem dget_eq (E : ∀ a b, keq (ek a) (ek b) = decide (a = b)) (m : List (α × β)) (k : α) : dget (enM ek ev m) (ek k) = (mget m k).map ev := by
  unfold dget mget enM
  rw [List.find?_map]
  simp only [Function.comp_def, E]
  cases m.find? (fun p => decide (p.1 = k)) <;> rfl
theorem dput_eq (E : ∀ a b, keq (ek a) (ek b) = decide (a = b)) (m : List (α × β)) (k : α) (v : β) : dput (enM ek ev m) (ek k) (ev v) = enM ek ev (mput m k v) := by
  unfold dput mput enM
  simp only [List.any_map, Function.comp_def, E, List.any_eq_true, decide_eq_true_eq]
  by_cases h : k ∈ m.map (·.1)
  · have h' : ∃ x ∈ m, x.1 = k := by simpa using h
    rw [if_pos h, if_pos h', List.map_map, List.map_map]
    refine List.map_congr_left fun p _ => ?_
    simp only [Function.comp_def, E, decide_eq_true_eq]
    by_cases e : p.1 = k
    · rw [if_pos e, if_pos e]
    · rw [if_neg e, if_neg e]
  · have h' : ¬ ∃ x ∈ m, x.1 = k := by simpa using h
    rw [if_neg h, if_neg h', List.map_append]
    rfl
theorem in_dT (E : KeyT ek) (m : List (α × β)) (k : α) : inD (ek k) (dT2 ek ev m) = some (.bool (mget m k).isSome) := by
  obtain ⟨q, hq⟩ := E.ok k
  have e : inB (ek k) (dT2 ek ev m) = (tkeyOf (ek k)).map fun _ => (dget (enM ek ev m) (ek k)).isSome := by
    unfold dT2
    cases ek k <;> rfl
  rw [inD, e, hq, dget_eq E.eq, Option.map_some, Option.isSome_map]
  rfl
theorem nin_dT (E : KeyT ek) (m : List (α × β)) (k : α) : ninD (ek k) (dT2 ek ev m) = some (.bool (!(mget m k).isSome)) := by
  obtain ⟨q, hq⟩ := E.ok k
  have e : inB (ek k) (dT2 ek ev m) = (tkeyOf (ek k)).map fun _ => (dget (enM ek ev m) (ek k)).isSome := by
    unfold dT2
    cases ek k <;> rfl
  rw [ninD, e, hq, dget_eq E.eq, Option.map_some, Option.isSome_map]
  rfl
theorem ix_dT (E : KeyT ek) {m : List (α × β)} {k : α} {v : β} (h : mget m k = some v) : ixD (dT2 ek ev m) (ek k) = some (ev v) := by
  obtain ⟨q, hq⟩ := E.ok k
  show ((tkeyOf (ek k)).bind fun _ => dget (enM ek ev m) (ek k)) = _
  rw [hq, Option.bind_some, dget_eq E.eq, h]
  rfl
theorem put_dT (E : KeyT ek) {m : List (α × β)} {k : α} {v : β} (h : m.length < 16777216) : putO (dT2 ek ev m) (ek k) (ev v) = some (dT2 ek ev (mput m k v)) := by
  show ((tkeyOf (ek k)).bind fun _ => putKv (.int 1) (enM ek ev m) (ek k) (ev v)) = _
  obtain ⟨q, hq⟩ := E.ok k
  rw [hq, Option.bind_some]
  have e : putKv (.int 1) (enM ek ev m) (ek k) (ev v) = some (.dict ((.none, .int 1) :: dput (enM ek ev m) (ek k) (ev v))) := if_pos (by rw [sizeLine_eq, enM_len]; exact h)
  rw [e, dput_eq E.eq]
  rfl
theorem len_dT (m : List (α × β)) : lenTD (dT2 ek ev m) = some (.int m.length) := by
  show some (PyData.int (enM ek ev m).length) = _
  rw [enM_len]
theorem items_dT (m : List (α × β)) : itemsD (dT2 ek ev m) = some ((m.map (·.1)).map ek) := by
  show some ((enM ek ev m).map (·.1)) = _
  simp [enM, Function.comp_def]
theorem empty_dT : PyData.dict [(.none, .int 1)] = dT2 ek ev [] := rfl
theorem one_dT (E : KeyT ek) (k : α) (v : β) {a b : FE} {ρ : DV.Env} (ha : a ρ = some (ek k)) (hb : b ρ = some (ev v)) : eD1T a b ρ = some (dT2 ek ev [(k, v)]) := by
  obtain ⟨q, hq⟩ := E.ok k
  simp only [eD1T, ha, hb, Option.bind_some, hq]
  rfl
theorem nin_dM (E : KeyE ek) (m : List (α × β)) (k : α) : ninD (ek k) (dM ek ev m) = some (.bool (!(mget m k).isSome)) := by
  obtain ⟨q, hq⟩ := E.ok k
  have e : inB (ek k) (dM ek ev m) = (keyOf (ek k)).map fun _ => (dget (enM ek ev m) (ek k)).isSome := by
    cases ek k <;> rfl
  rw [ninD, e, hq, dget_eq E.eq, Option.map_some, Option.isSome_map]
  rfl
theorem lenN_dN {nk : α → NestedKey} (E : KeyN nk) (m : List (α × β)) : lenND (dN2 nk ev m) = some (.int m.length) := by
  show onN (enN nk ev m) (some (.int ((enN nk ev m).length : Int))) = _
  rw [on_en E]
  simp [enN]
theorem vals_dM (m : List (α × β)) : valsD (dM ek ev m) = some (.list ((m.map (·.2)).map ev)) := by
  show some (PyData.list ((enM ek ev m).map (·.2))) = _
  simp [enM, Function.comp_def]
end
theorem key_nat : KeyE (fun n : Nat => PyData.int (n : Int)) := ⟨fun a b => by
  show decide ((a : Int) = (b : Int)) = _
  exact decide_eq_decide.mpr (by omega), fun a => ⟨_, rfl⟩⟩
def eP (p : Nat × Nat) : D := .tuple [.int (p.1 : Int), .int (p.2 : Int)]
theorem key_pair : KeyT eP := ⟨fun a b => by
  have h := keq_tkey [.inl (a.1 : Int), .inl (a.2 : Int)] [.inl (b.1 : Int), .inl (b.2 : Int)]
  show keq (.tuple [.int (a.1 : Int), .int (a.2 : Int)]) (.tuple [.int (b.1 : Int), .int (b.2 : Int)]) = _
  refine Eq.trans h (decide_eq_decide.mpr ?_)
  obtain ⟨a1, a2⟩ := a
  obtain ⟨b1, b2⟩ := b
  simp
  omega, fun a => ⟨_, rfl⟩⟩
end DV
end

set_option linter.all false
noncomputable section
namespace LC
open PySem L2 DV
def L1_law_same (rec : List D → Option D) : FS :=
    (sIf (tNotF (toT (eCall rec (lC (o2 ixD (eW 0) (eW 2)) (lC (o2 ixD (eW 1) (eW 2)) lN))))) (sRet (eC (.bool false))) sNx)
def b_law_same (rec : List D → Option D) : FS :=
    (sSeq (sIf (tOrF (toT (o1 (isiD "bool") (eW 1))) (toT (o1 (isiD "bool") (eW 0)))) (sRet (eAnd (o1 (isiD "bool") (eW 1)) (eAnd (o1 (isiD "bool") (eW 0)) (o2 eqD (eW 0) (eW 1))))) sNx)
    (sSeq (sIf (tOrF (toT (o2 isD (eW 1) (eC .none))) (toT (o1 (isiD "int") (eW 1)))) (sRet (eAnd (o2 eqD (eW 0) (eW 1)) (eOr (o2 isD (eW 1) (eC .none)) (o1 (isiD "int") (eW 0))))) sNx)
    (sSeq (sIf (toT (o1 (isiD "str") (eW 1))) (sRet (eAnd (o1 (isiD "str") (eW 0)) (o2 eqD (eW 0) (eW 1)))) sNx)
    (sSeq (sIf (tOrF (toT (o2 neD (o1 (isiD "list") (eW 1)) (o1 (isiD "list") (eW 0)))) (toT (o2 neD (o1 (isiD "tuple") (eW 1)) (o1 (isiD "tuple") (eW 0))))) (sRet (eC (.bool false))) sNx)
    (sSeq (sIf (toT (o2 neD (eCall lenF (lC (eW 0) lN)) (eCall lenF (lC (eW 1) lN)))) (sRet (eC (.bool false))) sNx)
    (sSeq (sFor (iCall rng1 (lC (eCall lenF (lC (eW 1) lN)) lN)) (gN 2) (L1_law_same rec))
    (sRet (eC (.bool true)))))))))
def F_law_same : Nat → List D → Option D
  | 0 => fun _ => none
  | n + 1 => callF 3 2 (b_law_same (F_law_same n))
def b_law_number : FS :=
    (sSeq (sAsg (o2 addD (o2 mulD (eCall sumF (lC (eW 0) lN)) (eC (.int 31))) (o2 mulD (eC (.int 1000003)) (o2 addD (eW 1) (eC (.int 1))))) (gN 2))
    (sSeq (sIf (toT (o2 ltD (eW 1) (eCall lenF (lC (eW 0) lN)))) (sAsg (o2 ixD (eW 0) (eW 1)) (gN 2)) sNx)
    (sRet (eCall absF (lC (eW 2) lN)))))
def F_law_number : List D → Option D := callF 3 2 b_law_number
def L1_law_draws : FS :=
    (sSeq (sApp 5 (o2 modD (eW 4) (eW 3)))
    (sAsg (o2 fdivD (eW 4) (eW 3)) (gN 4)))
def L2_law_draws : FS :=
    (sSeq (sAsg (o2 modD (o2 addD (o2 addD (o2 mulD (eW 7) (eC (.int 48271))) (o2 mulD (eC (.int 11)) (eW 6))) (eC (.int 7))) (eC (.int 2147483647))) (gN 7))
    (sSeq (sAsg (o2 modD (o2 addD (o2 addD (o2 mulD (eW 7) (eW 7)) (o2 mulD (eC (.int 69621)) (eW 6))) (eC (.int 5))) (eC (.int 2147483629))) (gN 8))
    (sApp 5 (o2 modD (o2 fdivD (eW 8) (eC (.int 64))) (eW 3)))))
def b_law_draws : FS :=
    (sSeq (sAsg (eCall F_law_number (lC (eV 0) (lC (eV 1) lN))) (gN 4))
    (sSeq (sOwn 5 (eLst lN))
    (sSeq (sIf (toT (o2 geD (eW 4) (o2 powD (eC (.int 10)) (eC (.int 18))))) (sSeq (sAsg (o2 subD (eW 4) (o2 powD (eC (.int 10)) (eC (.int 18)))) (gN 4))
    (sSeq (sFor (iCall rng1 (lC (eV 2) lN)) (gN 6) L1_law_draws)
    (sFrz 5 (sRet (eV 5))))) sNx)
    (sSeq (sAsg (o2 addD (o2 modD (eW 4) (eC (.int 2147483647))) (eC (.int 1))) (gN 7))
    (sSeq (sFor (iCall rng1 (lC (eV 2) lN)) (gN 6) L2_law_draws)
    (sFrz 5 (sRet (eV 5))))))))
def F_law_draws : List D → Option D := callF 9 4 b_law_draws
def b_law_word : FS :=
    (sRet (eMeth joinF (eC (.str "")) (lC (eLc [2] (iAny (eV 0)) (gN 2) tYs (o2 ixD (eC (.str "abc")) (o2 modD (eW 2) (eW 1)))) lN)))
def F_law_word : List D → Option D := callF 3 2 b_law_word
def L1_law_words : FS :=
    (sApp 5 (o2 addD (eW 6) (eW 7)))
def L2_law_words : FS :=
    (sFor (iAny (eSl (eC (.str "abc")) pN (pS (eV 0)))) (gN 7) L1_law_words)
def L3_law_words : FS :=
    (sSeq (sOwn 5 (eLst lN))
    (sSeq (sFor (iAny (eV 3)) (gN 6) L2_law_words)
    (sSeq (sAsg (o2 addD (eW 2) (eW 5)) (gN 2))
    (sFrz 5 (sAsg (eV 5) (gN 3))))))
def b_law_words : FS :=
    (sSeq (sAsg (eLst (lC (eC (.str "")) lN)) (gN 2))
    (sSeq (sAsg (eLst (lC (eC (.str "")) lN)) (gN 3))
    (sSeq (sFor (iCall rng1 (lC (eV 1) lN)) (gN 4) L3_law_words)
    (sRet (eV 2)))))
def F_law_words : List D → Option D := callF 8 2 b_law_words
def L1_law_scattered : FS :=
    (sIf (tAndF (toT (o2 ltD (eW 2) (eCall lenF (lC (eW 0) lN)))) (toT (o2 eqD (o2 ixD (eW 0) (eW 2)) (eW 3)))) (sAsg (o2 addD (eW 2) (eC (.int 1))) (gN 2)) sNx)
def b_law_scattered : FS :=
    (sSeq (sAsg (eC (.int 0)) (gN 2))
    (sSeq (sFor (iAny (eV 1)) (gN 3) L1_law_scattered)
    (sRet (o2 eqD (eW 2) (eCall lenF (lC (eW 0) lN))))))
def F_law_scattered : List D → Option D := callF 4 2 b_law_scattered
end LC
end

set_option Elab.async false
set_option linter.all false
set_option maxRecDepth 100000
set_option maxHeartbeats 4000000
/-! LC: what the laws' own helpers answer. -/
namespace LC
open PySem L2 DV
abbrev dN (n : Nat) : D := .int (n : Int)
theorem intsOf_map (ns : List Int) : intsOf (ns.map .int) = some ns := by
  induction ns with
  | nil => rfl
  | cons n ns ih => simp [intsOf, ih]
theorem sum_scr (ns : List Int) : sumF [scrD ns] = some (.int ns.sum) := by simp [sumF, scrD, intsOf_map]
theorem ix_scr {ns : List Int} {k : Nat} (h : k < ns.length) : ixD (scrD ns) (.int (k : Int)) = some (.int ns[k]) := by
  have e : atI (ns.map PyData.int) (k : Int) = some (.int ns[k]) := atI_nat (by rw [List.getElem?_map, List.getElem?_eq_getElem h]; rfl)
  exact e
theorem number_eq (ns : List Int) (k : Nat) : ∃ m : Nat, F_law_number [scrD ns, dN k] = some (dN m) := by
  rw [F_law_number, callF_2, b_law_number]
  have ab : ∀ i : Int, ∃ m : Nat, absF [.int i] = some (dN m) := fun i => ⟨i.natAbs, by
    simp only [absF]
    congr 2
    split <;> omega⟩
  have c1 := mul_ii (i := ns.sum) (j := 31) (.inr ⟨by omega, by omega⟩)
  have c2 := mul_ii (i := 1000003) (j := (k : Int) + 1) (.inl ⟨by omega, by omega⟩)
  by_cases h : (k : Int) < ns.length
  · have hk : k < ns.length := by omega
    obtain ⟨m, hm⟩ := ab ns[k]
    refine ⟨m, ?_⟩
    simp [List.replicate, sum_scr, c1, c2, hk, ix_scr hk, hm]
  · obtain ⟨m, hm⟩ := ab (ns.sum * 31 + 1000003 * ((k : Int) + 1))
    have hk : ¬ k < ns.length := by omega
    refine ⟨m, ?_⟩
    simp [List.replicate, sum_scr, c1, c2, hk, hm]
theorem step1 {a0 a1 a2 o : Option Sl} {many x : Nat} {ds : List D} (hm : 0 < many) (hm2 : many < 1073741824) (hl : ds.length < 16777216) :
    L1_law_draws [a0, a1, a2, some (.shr (dN many)), some (.shr (dN x)), some (.own (.list ds)), o, none, none] =
      some (.nx [a0, a1, a2, some (.shr (dN many)), some (.shr (dN (x / many))), some (.own (.list (ds ++ [dN (x % many)]))), o, none, none]) := by
  have c1 := mod_ii (i := (x : Int)) (j := (many : Int)) (by omega)
  have c2 := fdiv_ii (i := (x : Int)) (j := (many : Int)) (by omega) (by omega)
  simp [L1_law_draws, c1, c2, appS_s hl]
theorem draws1 {a0 a1 a2 : Option Sl} {many : Nat} (hm : 0 < many) (hm2 : many < 1073741824) : ∀ (is : List D) (o : Option Sl) (x : Nat) (l : List Nat), l.length + is.length ≤ 16777216 → (∀ y ∈ l, y < many) →
    ∃ (x' : Nat) (l' : List Nat) (o' : Option Sl), forL (gN 6) L1_law_draws is [a0, a1, a2, some (.shr (dN many)), some (.shr (dN x)), some (.own (.list (l.map dN))), o, none, none] =
      some (.nx [a0, a1, a2, some (.shr (dN many)), some (.shr (dN x')), some (.own (.list (l'.map dN))), o', none, none]) ∧ l'.length = l.length + is.length ∧ ∀ y ∈ l', y < many
  | [], o, x, l, _, hb => ⟨x, l, o, rfl, rfl, hb⟩
  | d :: is, o, x, l, hl, hb => by
    simp at hl
    obtain ⟨x', l', o', e, h1, h2⟩ := draws1 (a0 := a0) (a1 := a1) (a2 := a2) hm hm2 is (some (.shr d)) (x / many) (l ++ [x % many]) (by simp; omega) (fun y hy => by
      rcases List.mem_append.mp hy with z | z
      · exact hb y z
      · simp at z; subst z; exact Nat.mod_lt _ hm)
    refine ⟨x', l', o', ?_, by rw [h1]; simp; omega, h2⟩
    rw [List.map_append] at e
    rw [forL_cons]
    show turnS (L1_law_draws [a0, a1, a2, some (.shr (dN many)), some (.shr (dN x)), some (.own (.list (l.map dN))), some (.shr d), none, none]) _ = _
    rw [step1 hm hm2 (by simp; omega), turnS_nx]
    exact e
theorem step2 {a0 a1 a2 a4 o8 : Option Sl} {many : Nat} {x y w d : Int} {v : Nat} {ds : List D} (hm : 0 < many) (hx : 0 ≤ x) (hx2 : x < 2147483648) (hy : y = (x * 48271 + 11 * d + 7) % 2147483647) (hw : w = (y * y + 69621 * d + 5) % 2147483629) (hv : w / 64 = (v : Int)) (hl : ds.length < 16777216) :
    L2_law_draws [a0, a1, a2, some (.shr (dN many)), a4, some (.own (.list ds)), some (.shr (.int d)), some (.shr (.int x)), o8] =
      some (.nx [a0, a1, a2, some (.shr (dN many)), a4, some (.own (.list (ds ++ [dN (v % many)]))), some (.shr (.int d)), some (.shr (.int y)), some (.shr (.int w))]) := by
  have hy1 := Int.emod_nonneg (x * 48271 + 11 * d + 7) (show (2147483647 : Int) ≠ 0 by decide)
  have hy2 := Int.emod_lt_of_pos (x * 48271 + 11 * d + 7) (show (0 : Int) < 2147483647 by decide)
  rw [← hy] at hy1 hy2
  have c1 := mul_ii (i := x) (j := 48271) (.inl ⟨by omega, by omega⟩)
  have c2 := mul_ii (i := 11) (j := d) (.inl ⟨by omega, by omega⟩)
  have c3 := mul_ii (i := y) (j := y) (.inl ⟨by omega, by omega⟩)
  have c4 := mul_ii (i := 69621) (j := d) (.inl ⟨by omega, by omega⟩)
  have c5 := mod_ii (i := x * 48271 + 11 * d + 7) (j := 2147483647) (by omega)
  have c6 := mod_ii (i := y * y + 69621 * d + 5) (j := 2147483629) (by omega)
  have c7 := fdiv_ii (i := w) (j := 64) (by omega) (by omega)
  have c8 := mod_ii (i := (v : Int)) (j := (many : Int)) (by omega)
  rw [← hy] at c5
  rw [← hw] at c6
  rw [hv] at c7
  simp [L2_law_draws, c1, c2, c3, c4, c5, c6, c7, c8, appS_s hl]
theorem draws2 {a0 a1 a2 a4 : Option Sl} {many : Nat} (hm : 0 < many) : ∀ (is : List Int) (o : Option Sl) (x : Int) (o8 : Option Sl) (l : List Nat), 0 ≤ x → x < 2147483648 → l.length + is.length ≤ 16777216 → (∀ y ∈ l, y < many) →
    ∃ (l' : List Nat) (o' o7 o8' : Option Sl), forL (gN 6) L2_law_draws (is.map .int) [a0, a1, a2, some (.shr (dN many)), a4, some (.own (.list (l.map dN))), o, some (.shr (.int x)), o8] =
      some (.nx [a0, a1, a2, some (.shr (dN many)), a4, some (.own (.list (l'.map dN))), o', o7, o8']) ∧ l'.length = l.length + is.length ∧ ∀ y ∈ l', y < many
  | [], o, x, o8, l, _, _, _, hb => ⟨l, o, _, o8, rfl, rfl, hb⟩
  | d :: is, o, x, o8, l, hx, hx2, hl, hb => by
    simp at hl
    have hy := Int.emod_nonneg (x * 48271 + 11 * d + 7) (show (2147483647 : Int) ≠ 0 by decide)
    have hy2 := Int.emod_lt_of_pos (x * 48271 + 11 * d + 7) (show (0 : Int) < 2147483647 by decide)
    generalize hyy : (x * 48271 + 11 * d + 7) % 2147483647 = y at hy hy2
    have hw := Int.emod_nonneg (y * y + 69621 * d + 5) (show (2147483629 : Int) ≠ 0 by decide)
    generalize hww : (y * y + 69621 * d + 5) % 2147483629 = w at hw
    have hv : 0 ≤ w / 64 := Int.ediv_nonneg hw (by decide)
    obtain ⟨v, hv⟩ := Int.eq_ofNat_of_zero_le hv
    obtain ⟨l', o', o7, o8', e, h1, h2⟩ := draws2 (a0 := a0) (a1 := a1) (a2 := a2) (a4 := a4) hm is (some (.shr (.int d))) y (some (.shr (.int w))) (l ++ [v % many]) hy (by omega) (by simp; omega) (fun y hy => by
      rcases List.mem_append.mp hy with z | z
      · exact hb y z
      · simp at z; subst z; exact Nat.mod_lt _ hm)
    refine ⟨l', o', o7, o8', ?_, by rw [h1]; simp; omega, h2⟩
    rw [List.map_append] at e
    rw [List.map_cons, forL_cons]
    show turnS (L2_law_draws [a0, a1, a2, some (.shr (dN many)), a4, some (.own (.list (l.map dN))), some (.shr (.int d)), some (.shr (.int x)), o8]) _ = _
    rw [step2 hm hx hx2 hyy.symm hww.symm hv (by simp; omega), turnS_nx]
    exact e
theorem rng_eq (count : Nat) : rngL 0 count = (List.range count).map dN := by simp [rngL]
theorem rng1_n {count : Nat} (h : count ≤ 16777216) : rng1 [dN count] = some ((List.range count).map dN) := by
  rw [rng1_i (by omega) (by omega), Int.toNat_natCast, rng_eq]
theorem draws_eq (ns : List Int) (k count many : Nat) (hc : count ≤ 16777216) (hm : 0 < many) (hm2 : many < 1073741824) :
    ∃ l : List Nat, F_law_draws [scrD ns, dN k, dN count, dN many] = some (.list (l.map dN)) ∧ l.length = count ∧ ∀ y ∈ l, y < many := by
  obtain ⟨m, hn⟩ := number_eq ns k
  rw [F_law_draws, callF_4, b_law_draws]
  obtain ⟨N, hN⟩ : ∃ N, powD (.int 10) (.int 18) = some (.int N) := ⟨_, pow_18⟩
  by_cases h : N ≤ (m : Int)
  · have hp : (0 : Int) ≤ (m : Int) - N := by omega
    obtain ⟨x, hx⟩ := Int.eq_ofNat_of_zero_le hp
    obtain ⟨x', l', o', e, h1, h2⟩ := draws1 (a0 := some (.shr (scrD ns))) (a1 := some (.shr (dN k))) (a2 := some (.shr (dN count))) hm hm2 ((List.range count).map dN) none x [] (by simp; exact hc) (by simp)
    refine ⟨l', ?_, by rw [h1]; simp, h2⟩
    rw [List.map_nil] at e
    simp [List.replicate, hn, hN, h, rng1_n hc, hx, e]
  · have hy := Int.emod_nonneg (m : Int) (show (2147483647 : Int) ≠ 0 by decide)
    have hy2 := Int.emod_lt_of_pos (m : Int) (show (0 : Int) < 2147483647 by decide)
    have c1 := mod_ii (i := (m : Int)) (j := 2147483647) (by omega)
    obtain ⟨l', o', o7, o8', e, h1, h2⟩ := draws2 (a0 := some (.shr (scrD ns))) (a1 := some (.shr (dN k))) (a2 := some (.shr (dN count))) (a4 := some (.shr (dN m))) hm ((List.range count).map fun (i : Nat) => (i : Int)) none ((m : Int) % 2147483647 + 1) none [] (by omega) (by omega) (by simp; exact hc) (by simp)
    refine ⟨l', ?_, by rw [h1]; simp, h2⟩
    rw [List.map_map, List.map_nil] at e
    have er : (List.range count).map (PyData.int ∘ fun (i : Nat) => (i : Int)) = (List.range count).map dN := rfl
    rw [er] at e
    simp [List.replicate, hn, hN, h, rng1_n hc, c1, e]
end LC

/-! M77: arches of words as lists of numbers; the shortest word that is not scattered. Plain Lean. -/
namespace M77
def nxt : List Nat → Nat → Option (List Nat)
  | [], _ => none
  | d :: s, c => if d = c then some s else nxt s c
/-- whether w is scattered in s -/
def sub : List Nat → List Nat → Bool
  | [], _ => true
  | _ :: _, [] => false
  | c :: w, d :: s => if d = c then sub w s else sub (c :: w) s
theorem sub_nil (s : List Nat) : sub [] s = true := by cases s <;> rfl
theorem sub_cons (c : Nat) (w : List Nat) : ∀ s, sub (c :: w) s = match nxt s c with | none => false | some s' => sub w s'
  | [] => rfl
  | d :: s => by
    rw [sub, nxt]
    split
    · rfl
    · exact sub_cons c w s
theorem nxt_app {c : Nat} : ∀ {p : List Nat} (s : List Nat), c ∈ p → ∃ q, nxt (p ++ s) c = some (q ++ s)
  | [], _, h => by cases h
  | d :: p, s, h => by
    by_cases e : d = c
    · exact ⟨p, by simp [nxt, e]⟩
    · rcases List.mem_cons.mp h with h | h
      · exact absurd h.symm e
      · obtain ⟨q, hq⟩ := nxt_app s h
        exact ⟨q, by simp [nxt, e, hq]⟩
theorem nxt_new {c : Nat} : ∀ {p : List Nat} (s : List Nat), c ∉ p → nxt (p ++ c :: s) c = some s
  | [], s, _ => by simp [nxt]
  | d :: p, s, h => by
    have h1 : d ≠ c := fun e => h (by rw [e]; exact List.mem_cons_self)
    have h2 : c ∉ p := fun e => h (List.mem_cons_of_mem _ e)
    simp [nxt, h1, nxt_new s h2]
theorem nxt_none {c : Nat} : ∀ {s : List Nat}, nxt s c = none ↔ c ∉ s
  | [] => by simp [nxt]
  | d :: s => by
    by_cases e : d = c
    · simp [nxt, e]
    · have e' : c ≠ d := fun z => e z.symm
      simp [nxt, e, nxt_none (s := s), e']
theorem nxt_len {c : Nat} : ∀ {s s' : List Nat}, nxt s c = some s' → s'.length < s.length
  | [], _, h => by cases h
  | d :: s, s', h => by
    unfold nxt at h
    split at h
    · cases h; simp
    · have := nxt_len h
      simp; omega
theorem nxt_suf {c : Nat} : ∀ {s s' : List Nat}, nxt s c = some s' → ∃ p, s = p ++ c :: s' ∧ c ∉ p
  | [], _, h => by cases h
  | d :: s, s', h => by
    unfold nxt at h
    split at h
    · rename_i e
      cases h
      exact ⟨[], by simp [e], by simp⟩
    · rename_i e
      obtain ⟨p, hp, hc⟩ := nxt_suf h
      exact ⟨d :: p, by rw [hp]; rfl, by
        intro z
        rcases List.mem_cons.mp z with z | z
        · exact e z.symm
        · exact hc z⟩
theorem sub_tail : ∀ (u : List Nat) (a : Nat) (w : List Nat), sub (a :: w) u = true → sub w u = true
  | [], _, _, z => by cases z
  | f :: u, a, w, z => by
    have go : sub w u = true → sub w (f :: u) = true := fun h => by
      cases w with
      | nil => rfl
      | cons b w =>
        rw [sub]
        split
        · exact sub_tail u b w h
        · exact h
    rw [sub] at z
    split at z
    · exact go z
    · exact go (sub_tail u a w z)
theorem sub_pre : ∀ (p : List Nat) {w s : List Nat}, sub w s = true → sub w (p ++ s) = true
  | [], _, _, h => h
  | d :: p, [], s, h => rfl
  | d :: p, c :: w, s, h => by
    show (if d = c then sub w (p ++ s) else sub (c :: w) (p ++ s)) = true
    split
    · exact sub_pre p (sub_tail s c w h)
    · exact sub_pre p h
def ok (k : Nat) (w : List Nat) : Prop := ∀ c ∈ w, c < k
def has (k : Nat) (s : List Nat) : Bool := (List.range k).all fun c => decide (c ∈ s)
theorem has_iff {k : Nat} {s : List Nat} : has k s = true ↔ ∀ c, c < k → c ∈ s := by
  simp [has, List.all_eq_true]
/-- the arches of part ++ s, where part has not all letters, and what is left -/
def arcs (k : Nat) : List Nat → List Nat → List (List Nat) × List Nat
  | part, [] => ([], part)
  | part, c :: s => if has k (part ++ [c]) = true then ((part ++ [c]) :: (arcs k [] s).1, (arcs k [] s).2) else arcs k (part ++ [c]) s
def ar (k : Nat) (s : List Nat) : Nat := (arcs k [] s).1.length
theorem has_nil {k : Nat} (hk : 0 < k) : has k [] = false := by
  cases h : has k [] with
  | false => rfl
  | true => exact absurd (has_iff.mp h 0 hk) (by simp)
theorem all_sub_part {k : Nat} (hk : 0 < k) : ∀ (s part w : List Nat), has k part = false → ok k w → w.length ≤ (arcs k part s).1.length → sub w (part ++ s) = true
  | [], part, w, _, _, hl => by
    have : w = [] := List.eq_nil_of_length_eq_zero (by simpa [arcs] using hl)
    subst this
    exact sub_nil _
  | c :: s, part, w, hp, hw, hl => by
    unfold arcs at hl
    split at hl
    · rename_i hh
      cases w with
      | nil => exact sub_nil _
      | cons d w =>
        have h1 := all_sub_part hk s [] w (has_nil hk) (fun x hx => hw x (List.mem_cons_of_mem _ hx)) (by simpa using hl)
        have hd := has_iff.mp hh d (hw d List.mem_cons_self)
        obtain ⟨q, hq⟩ := nxt_app s hd
        have e : part ++ c :: s = (part ++ [c]) ++ s := by simp
        rw [e, sub_cons, hq]
        exact sub_pre q h1
    · rename_i hh
      have := all_sub_part hk s (part ++ [c]) w (by simpa using hh) hw hl
      simpa using this
theorem some_not_part {k : Nat} (hk : 0 < k) : ∀ (s part : List Nat), has k part = false → ∃ w, ok k w ∧ w.length = (arcs k part s).1.length + 1 ∧ sub w (part ++ s) = false
  | [], part, hp => by
    have : ¬ ∀ c, c < k → c ∈ part := fun z => by rw [has_iff.mpr z] at hp; cases hp
    obtain ⟨c, hc⟩ := Classical.not_forall.mp this
    obtain ⟨h1, h2⟩ := Classical.not_imp.mp hc
    refine ⟨[c], fun x hx => by simp at hx; omega, by simp [arcs], ?_⟩
    rw [List.append_nil, sub_cons, nxt_none.mpr h2]
  | c :: s, part, hp => by
    unfold arcs
    split
    · rename_i hh
      obtain ⟨w, h1, h2, h3⟩ := some_not_part hk s [] (has_nil hk)
      have : ¬ ∀ d, d < k → d ∈ part := fun z => by rw [has_iff.mpr z] at hp; cases hp
      obtain ⟨d, hd⟩ := Classical.not_forall.mp this
      obtain ⟨g1, g2⟩ := Classical.not_imp.mp hd
      have e : d = c := by
        have := has_iff.mp hh d g1
        rcases List.mem_append.mp this with z | z
        · exact absurd z g2
        · simpa using z
      subst e
      refine ⟨d :: w, fun x hx => ?_, by simp [h2], ?_⟩
      · rcases List.mem_cons.mp hx with z | z
        · omega
        · exact h1 x z
      · rw [sub_cons, nxt_new s g2]
        simpa using h3
    · rename_i hh
      obtain ⟨w, h1, h2, h3⟩ := some_not_part hk s (part ++ [c]) (by simpa using hh)
      exact ⟨w, h1, h2, by simpa using h3⟩
theorem all_sub {k : Nat} (hk : 0 < k) {s w : List Nat} (hw : ok k w) (hl : w.length ≤ ar k s) : sub w s = true := by
  simpa using all_sub_part hk s [] w (has_nil hk) hw hl
theorem some_not {k : Nat} (hk : 0 < k) (s : List Nat) : ∃ w, ok k w ∧ w.length = ar k s + 1 ∧ sub w s = false := by
  obtain ⟨w, h1, h2, h3⟩ := some_not_part hk s [] (has_nil hk)
  exact ⟨w, h1, h2, by simpa using h3⟩
theorem ar_next_ge {k : Nat} (hk : 0 < k) {s s' : List Nat} {c : Nat} (hc : c < k) (h : nxt s c = some s') : ar k s ≤ ar k s' + 1 := by
  obtain ⟨w, h1, h2, h3⟩ := some_not hk s'
  refine Nat.le_of_not_lt fun hl => ?_
  have := all_sub hk (s := s) (w := c :: w) (fun x hx => by
    rcases List.mem_cons.mp hx with z | z
    · omega
    · exact h1 x z) (by simp; omega)
  rw [sub_cons, h] at this
  simp only at this
  rw [h3] at this
  cases this
theorem ar_next_le {k : Nat} (hk : 0 < k) {s s' : List Nat} {c : Nat} (hc : c < k) (h : nxt s c = some s') : ar k s' ≤ ar k s := by
  obtain ⟨w, h1, h2, h3⟩ := some_not hk s
  refine Nat.le_of_not_lt fun hl => ?_
  have g := all_sub hk (s := s') (w := w) h1 (by omega)
  obtain ⟨p, hp, _⟩ := nxt_suf h
  have := sub_pre (p ++ [c]) g
  rw [List.append_assoc] at this
  simp only [List.cons_append, List.nil_append] at this
  rw [← hp, h3] at this
  cases this
theorem ar_next_ex {k : Nat} (hk : 0 < k) {s : List Nat} (hh : has k s = true) : ∃ c s', c < k ∧ nxt s c = some s' ∧ ar k s = ar k s' + 1 := by
  obtain ⟨w, h1, h2, h3⟩ := some_not hk s
  cases w with
  | nil => simp at h2
  | cons c w =>
    have hc := h1 c List.mem_cons_self
    rw [sub_cons] at h3
    cases e : nxt s c with
    | none => exact absurd (has_iff.mp hh c hc) (nxt_none.mp e)
    | some s' =>
      rw [e] at h3
      simp only at h3
      refine ⟨c, s', hc, e, ?_⟩
      have g1 := ar_next_ge hk hc e
      have g2 : ar k s' < ar k s := by
        refine Nat.lt_of_not_le fun hl => ?_
        have := all_sub hk (s := s') (w := w) (fun x hx => h1 x (List.mem_cons_of_mem _ hx)) (by simp at h2; omega)
        rw [h3] at this
        cases this
      omega
theorem ar_zero {k : Nat} (hk : 0 < k) {s : List Nat} : has k s = false ↔ ar k s = 0 := by
  constructor
  · intro h
    refine Nat.eq_zero_of_not_pos fun hp => ?_
    have : has k s = true := has_iff.mpr fun c hc => by
      have := all_sub hk (s := s) (w := [c]) (fun x hx => by simp at hx; omega) (by simpa using (show 1 ≤ ar k s from hp))
      rw [sub_cons] at this
      cases e : nxt s c with
      | none => rw [e] at this; cases this
      | some s' =>
        obtain ⟨p, hp, _⟩ := nxt_suf e
        rw [hp]; simp
    rw [h] at this
    cases this
  · intro h
    cases hh : has k s with
    | false => rfl
    | true =>
      obtain ⟨c, s', _, _, e⟩ := ar_next_ex hk hh
      omega
/-- the first word of so many letters more that is not scattered -/
def mw (k : Nat) : Nat → List Nat → List Nat
  | 0, s => [((List.range k).find? fun c => decide (c ∉ s)).getD 0]
  | n + 1, s => match (List.range k).find? fun c => match nxt s c with | some s' => decide (ar k s' = n) | none => false with
    | some c => c :: mw k n ((nxt s c).getD [])
    | none => []
def wordsOf (k : Nat) : Nat → List (List Nat)
  | 0 => [[]]
  | n + 1 => (wordsOf k n).flatMap fun w => (List.range k).map fun c => w ++ [c]
theorem wordsOf_pre (k : Nat) : ∀ n, wordsOf k (n + 1) = (List.range k).flatMap fun c => (wordsOf k n).map fun w => c :: w
  | 0 => by
    show ([[]] : List (List Nat)).flatMap (fun w => (List.range k).map fun c => w ++ [c]) = (List.range k).flatMap fun c => [[c]]
    rw [List.flatMap_cons, List.flatMap_nil, List.append_nil]
    induction (List.range k) with
    | nil => rfl
    | cons a l ih => rw [List.map_cons, List.flatMap_cons, ih]; rfl
  | n + 1 => by
    have ih := wordsOf_pre k n
    have e : wordsOf k (n + 1 + 1) = (wordsOf k (n + 1)).flatMap fun w => (List.range k).map fun c => w ++ [c] := rfl
    rw [e, ih, List.flatMap_assoc]
    congr 1
    funext c
    rw [List.flatMap_map, ← ih]
    have e2 : wordsOf k (n + 1) = (wordsOf k n).flatMap fun w => (List.range k).map fun c => w ++ [c] := rfl
    rw [e2, List.map_flatMap]
    congr 1
    funext w
    rw [List.map_map]
    rfl
theorem wordsOf_ok (k : Nat) : ∀ n w, w ∈ wordsOf k n → ok k w ∧ w.length = n
  | 0, w, h => by
    simp [wordsOf] at h
    subst h
    exact ⟨(fun c hc => by cases hc), rfl⟩
  | n + 1, w, h => by
    simp only [wordsOf, List.mem_flatMap, List.mem_map, List.mem_range] at h
    obtain ⟨v, hv, c, hc, rfl⟩ := h
    obtain ⟨h1, h2⟩ := wordsOf_ok k n v hv
    refine ⟨fun x hx => ?_, by simp [h2]⟩
    rcases List.mem_append.mp hx with z | z
    · exact h1 x z
    · simp at z; omega
theorem first_none {k : Nat} (hk : 0 < k) {n : Nat} {s : List Nat} (h : n ≤ ar k s) : (wordsOf k n).find? (fun w => !sub w s) = none := by
  rw [List.find?_eq_none]
  intro w hw
  obtain ⟨h1, h2⟩ := wordsOf_ok k n w hw
  rw [all_sub hk h1 (by omega)]
  simp
theorem first_is {k : Nat} (hk : 0 < k) : ∀ (n : Nat) (s : List Nat), ar k s = n → (wordsOf k (n + 1)).find? (fun w => !sub w s) = some (mw k n s)
  | 0, s, h => by
    have hh := (ar_zero hk).mpr h
    rw [wordsOf_pre, List.find?_flatMap]
    have e : ∀ c, ((wordsOf k 0).map fun w => c :: w).find? (fun w => !sub w s) = if c ∈ s then none else some [c] := fun c => by
      simp only [wordsOf, List.map_cons, List.map_nil, List.find?_cons, List.find?_nil]
      rw [sub_cons]
      by_cases hc : c ∈ s
      · rw [if_pos hc]
        cases q : nxt s c with
        | none => exact absurd hc (nxt_none.mp q)
        | some s' => simp [sub_nil]
      · rw [if_neg hc, nxt_none.mpr hc]
        simp
    simp only [e]
    unfold mw
    have : ∃ c ∈ List.range k, c ∉ s := by
      refine Classical.byContradiction fun z => ?_
      have : has k s = true := has_iff.mpr fun c hc => Classical.byContradiction fun y => z ⟨c, List.mem_range.mpr hc, y⟩
      rw [hh] at this
      cases this
    revert this
    generalize List.range k = l
    induction l with
    | nil => rintro ⟨c, hc, _⟩; cases hc
    | cons a l ih =>
      intro hx
      by_cases ha : a ∈ s
      · rw [List.findSome?_cons, if_pos ha, List.find?_cons]
        simp only [ha, not_true_eq_false, decide_false]
        refine ih ?_
        obtain ⟨c, hc, hs⟩ := hx
        rcases List.mem_cons.mp hc with z | z
        · rw [z] at hs; exact absurd ha hs
        · exact ⟨c, z, hs⟩
      · rw [List.findSome?_cons, if_neg ha, List.find?_cons]
        simp [ha]
  | n + 1, s, h => by
    have hh : has k s = true := by
      cases q : has k s with
      | true => rfl
      | false => have := (ar_zero hk).mp q; omega
    rw [wordsOf_pre, List.find?_flatMap]
    have e : ∀ c, c < k → ((wordsOf k (n + 1)).map fun w => c :: w).find? (fun w => !sub w s) = match nxt s c with
        | some s' => if ar k s' = n then some (c :: mw k n s') else none
        | none => none := fun c hc => by
      rw [List.find?_map]
      cases q : nxt s c with
      | none => exact absurd (has_iff.mp hh c hc) (nxt_none.mp q)
      | some s' =>
        have f : ((fun w => !sub w s) ∘ fun w => c :: w) = fun w => !sub w s' := by
          funext w
          show (!sub (c :: w) s) = _
          rw [sub_cons, q]
        rw [f]
        have g1 := ar_next_ge hk hc q
        by_cases ha : ar k s' = n
        · simp only [ha, if_true]
          rw [first_is hk n s' ha]
          rfl
        · simp only [if_neg ha]
          rw [first_none hk (by omega)]
          rfl
    obtain ⟨c0, s0, hc0, hn0, ha0⟩ := ar_next_ex hk hh
    have key : ∀ l : List Nat, (∀ c ∈ l, c < k) → (∃ c ∈ l, ∃ s', nxt s c = some s' ∧ ar k s' = n) →
        l.findSome? (fun c => ((wordsOf k (n + 1)).map fun w => c :: w).find? (fun w => !sub w s)) = some (match l.find? (fun c => match nxt s c with | some s' => decide (ar k s' = n) | none => false) with
          | some c => c :: mw k n ((nxt s c).getD [])
          | none => []) := by
      intro l
      induction l with
      | nil => rintro _ ⟨c, hc, _⟩; cases hc
      | cons a l ih =>
        intro hl hx
        rw [List.findSome?_cons, e a (hl a List.mem_cons_self), List.find?_cons]
        cases q : nxt s a with
        | none =>
          simp only
          refine ih (fun c hc => hl c (List.mem_cons_of_mem _ hc)) ?_
          obtain ⟨c, hc, s', h1, h2⟩ := hx
          rcases List.mem_cons.mp hc with z | z
          · rw [z, q] at h1; cases h1
          · exact ⟨c, z, s', h1, h2⟩
        | some s' =>
          by_cases ha : ar k s' = n
          · simp [ha, q]
          · simp only [ha, if_false, decide_false]
            refine ih (fun c hc => hl c (List.mem_cons_of_mem _ hc)) ?_
            obtain ⟨c, hc, s1, h1, h2⟩ := hx
            rcases List.mem_cons.mp hc with z | z
            · rw [z, q] at h1; cases h1; exact absurd h2 ha
            · exact ⟨c, z, s1, h1, h2⟩
    have := key (List.range k) (fun c hc => List.mem_range.mp hc) ⟨c0, List.mem_range.mpr hc0, s0, hn0, by omega⟩
    rw [this]
    rfl
theorem mw_ok {k : Nat} (hk : 0 < k) {s : List Nat} : ok k (mw k (ar k s) s) ∧ (mw k (ar k s) s).length = ar k s + 1 ∧ sub (mw k (ar k s) s) s = false := by
  have h := first_is hk (ar k s) s rfl
  have h1 := wordsOf_ok k _ _ (List.mem_of_find?_eq_some h)
  have h2 := List.find?_some h
  exact ⟨h1.1, h1.2, by simpa using h2⟩
end M77

set_option Elab.async false
set_option linter.all false
set_option maxRecDepth 100000
set_option maxHeartbeats 4000000
namespace LC
open PySem L2 DV M77
theorem law_word_eq {l : List Nat} {k : Nat} (hk : 0 < k) (hk3 : k ≤ 3) (hl : l.length ≤ 16777216) : F_law_word [.list (l.map dN), dN k] = some (dW (l.map (· % k))) := by
  rw [F_law_word, callF_2, b_law_word]
  have st : ∀ x ∈ l, o2 ixD (eC (dW [0, 1, 2])) (o2 modD (eW 2) (eW 1)) ([some (.shr (.list (l.map dN))), some (.shr (dN k)), none].set 2 (some (.shr (dN x)))) = some (dW [x % k]) := fun x _ => by
    have c1 := mod_ii (i := (x : Int)) (j := (k : Int)) (by omega)
    have hm : x % k < k := Nat.mod_lt _ hk
    have e : (x : Int) % (k : Int) = ((x % k : Nat) : Int) := by omega
    have c2 := ix_wd (l := [0, 1, 2]) (i := x % k) (by simp; omega) (by decide)
    have c3 : ([0, 1, 2] : List Nat)[x % k]'(by simp; omega) = x % k := by
      have : x % k = 0 ∨ x % k = 1 ∨ x % k = 2 := by omega
      rcases this with z | z | z <;> simp [z]
    rw [c3, ← e] at c2
    simp [c1, c2]
  have lc := lcL_map (a := o2 ixD (eC (dW [0, 1, 2])) (o2 modD (eW 2) (eW 1))) (ρ := [some (.shr (.list (l.map dN))), some (.shr (dN k)), none]) (i := 2) dN (fun x => dW [x % k]) l st
  have e2 : l.map (fun x => dW [x % k]) = (l.map fun x => [x % k]).map dW := by rw [List.map_map]; rfl
  rw [e2] at lc
  have hs : ((l.map fun x => [x % k]).map (·.length)).sum ≤ 16777216 := by
    rw [List.map_map]
    show (l.map fun _ => 1).sum ≤ _
    rw [List.map_const', List.sum_replicate_nat]
    omega
  have hf : (l.map fun x => [x % k]).flatten = l.map (· % k) := by
    clear st lc e2 hs hl
    induction l with
    | nil => rfl
    | cons a l ih => simp [ih]
  have j := join_wd (l.map fun x => [x % k]) hs
  rw [hf] at j
  simp only [List.map_map] at lc j
  simp [List.replicate, abc_wd, nil_wd, itemsD, lcO_s, hl, lc, j]
/-! ### all words of at most a length -/
def upTo (k n : Nat) : List (List Nat) := (List.range (n + 1)).flatMap (M77.wordsOf k)
theorem inner {a0 a1 a2 a3 a4 : Option Sl} {w : List Nat} (hw : w.length + 1 ≤ 16777216) : ∀ (cs : List Nat) (o : Option Sl) (acc : List D), acc.length + cs.length ≤ 16777216 →
    ∃ o', forL (gN 7) L1_law_words (cs.map fun c => dW [c]) [a0, a1, a2, a3, a4, some (.own (.list acc)), some (.shr (dW w)), o] =
      some (.nx [a0, a1, a2, a3, a4, some (.own (.list (acc ++ cs.map fun c => dW (w ++ [c])))), some (.shr (dW w)), o'])
  | [], o, acc, _ => ⟨o, by simp [forL_nil]⟩
  | c :: cs, o, acc, h => by
    simp at h
    obtain ⟨o', e⟩ := inner (a0 := a0) (a1 := a1) (a2 := a2) (a3 := a3) (a4 := a4) hw cs (some (.shr (dW [c]))) (acc ++ [dW (w ++ [c])]) (by simp; omega)
    refine ⟨o', ?_⟩
    rw [List.map_cons, forL_cons]
    have st : L1_law_words ([a0, a1, a2, a3, a4, some (.own (.list acc)), some (.shr (dW w)), o].set 7 (some (.shr (dW [c])))) = some (.nx [a0, a1, a2, a3, a4, some (.own (.list (acc ++ [dW (w ++ [c])]))), some (.shr (dW w)), some (.shr (dW [c]))]) := by
      have c1 := add_wd (l := w) (m := [c]) (by simpa using hw)
      have c2 := appS_s (i := 5) (d := dW (w ++ [c])) (ρ := [a0, a1, a2, a3, a4, some (.own (.list acc)), some (.shr (dW w)), some (.shr (dW [c]))]) (ds := acc) (by omega)
      simp [L1_law_words, c1, c2]
    rw [st, turnS_nx, e]
    simp
theorem middle {a1 a2 a3 a4 : Option Sl} {k n : Nat} (hk : k ≤ 3) (hn : n ≤ 1000) : ∀ (ws : List (List Nat)) (o6 o7 : Option Sl) (acc : List D), (∀ w ∈ ws, w.length = n) → acc.length + ws.length * k ≤ 16777216 →
    ∃ o6' o7', forL (gN 6) L2_law_words (ws.map dW) [some (.shr (dN k)), a1, a2, a3, a4, some (.own (.list acc)), o6, o7] =
      some (.nx [some (.shr (dN k)), a1, a2, a3, a4, some (.own (.list (acc ++ (ws.flatMap fun w => (List.range k).map fun c => w ++ [c]).map dW))), o6', o7'])
  | [], o6, o7, acc, _, _ => ⟨o6, o7, by simp [forL_nil]⟩
  | w :: ws, o6, o7, acc, hw, h => by
    have hw1 := hw w List.mem_cons_self
    rw [List.length_cons, Nat.succ_mul] at h
    obtain ⟨o7', e1⟩ := inner (a0 := some (.shr (dN k))) (a1 := a1) (a2 := a2) (a3 := a3) (a4 := a4) (w := w) (by omega) (List.range k) o7 acc (by simp; omega)
    obtain ⟨o6'', o7'', e2⟩ := middle (a1 := a1) (a2 := a2) (a3 := a3) (a4 := a4) hk hn ws (some (.shr (dW w))) o7' (acc ++ (List.range k).map fun c => dW (w ++ [c])) (fun x hx => hw x (List.mem_cons_of_mem _ hx)) (by simp; omega)
    refine ⟨o6'', o7'', ?_⟩
    rw [List.map_cons, forL_cons]
    have st : L2_law_words ([some (.shr (dN k)), a1, a2, a3, a4, some (.own (.list acc)), o6, o7].set 6 (some (.shr (dW w)))) = some (.nx [some (.shr (dN k)), a1, a2, a3, a4, some (.own (.list (acc ++ (List.range k).map fun c => dW (w ++ [c])))), some (.shr (dW w)), o7']) := by
      have c1 := abc_itm hk
      simp [L2_law_words, abc_wd, c1, e1]
    rw [st, turnS_nx, e2]
    simp [Function.comp_def]
theorem wordsOf_len (k : Nat) : ∀ n, (M77.wordsOf k n).length = k ^ n
  | 0 => rfl
  | n + 1 => by
    have := wordsOf_len k n
    simp only [M77.wordsOf, List.length_flatMap, List.length_map, List.length_range]
    rw [List.map_const', List.sum_replicate_nat, this, Nat.pow_succ]
theorem upTo_succ (k n : Nat) : upTo k (n + 1) = upTo k n ++ M77.wordsOf k (n + 1) := by
  unfold upTo
  rw [List.range_succ (n := n + 1), List.flatMap_append]
  simp
def cnt (k : Nat) : Nat → Nat
  | 0 => 1
  | n + 1 => cnt k n + k ^ (n + 1)
theorem upTo_len (k : Nat) : ∀ n, (upTo k n).length = cnt k n
  | 0 => by simp [upTo, M77.wordsOf, cnt]
  | n + 1 => by rw [upTo_succ, List.length_append, upTo_len k n, wordsOf_len]; rfl
theorem outer {k n : Nat} {a1 : Option Sl} (hk : k ≤ 3) (hn : n ≤ 1000) (hc : cnt k n ≤ 16777216) : ∀ (m i : Nat) (o4 o5 o6 o7 : Option Sl), i + m = n →
    ∃ (a2 : Option Sl) (o3' o4' o5' o6' o7' : Option Sl), forL (gN 4) L3_law_words ((List.range' i m).map dN) [some (.shr (dN k)), a1, some (.shr (.list ((upTo k i).map dW))), some (.shr (.list ((M77.wordsOf k i).map dW))), o4, o5, o6, o7] =
      some (.nx [some (.shr (dN k)), a1, some (.shr (.list ((upTo k n).map dW))), o3', o4', o5', o6', o7'])
  | 0, i, o4, o5, o6, o7, h => ⟨none, _, o4, o5, o6, o7, by
      have : i = n := by omega
      subst this
      simp [forL_nil]
      rfl⟩
  | m + 1, i, o4, o5, o6, o7, h => by
    have mono : ∀ a b, cnt k a ≤ cnt k (a + b) := fun a b => by
      induction b with
      | zero => exact Nat.le_refl _
      | succ b ih => exact Nat.le_trans ih (Nat.le_add_right _ _)
    have h1 : cnt k (i + 1) ≤ 16777216 := by
      have := mono (i + 1) m
      rw [show i + 1 + m = n by omega] at this
      omega
    have h2 : cnt k (i + 1) = cnt k i + k ^ (i + 1) := rfl
    have hwl : (M77.wordsOf k i).length * k = k ^ (i + 1) := by rw [wordsOf_len, Nat.pow_succ]
    obtain ⟨o6', o7', e1⟩ := middle (a1 := a1) (a2 := some (.shr (.list ((upTo k i).map dW)))) (a3 := some (.shr (.list ((M77.wordsOf k i).map dW)))) (a4 := some (.shr (dN i))) (n := i) hk (by omega) (M77.wordsOf k i) o6 o7 [] (fun w hw => (wordsOf_ok k i w hw).2) (by rw [hwl]; simp; omega)
    obtain ⟨a2, o3', o4', o5', o6'', o7'', e2⟩ := outer (a1 := a1) hk hn hc m (i + 1) (some (.shr (dN i))) (some (.shr (.list ((M77.wordsOf k (i + 1)).map dW)))) o6' o7' (by omega)
    refine ⟨a2, o3', o4', o5', o6'', o7'', ?_⟩
    rw [List.range'_succ, List.map_cons, forL_cons]
    have ew : (M77.wordsOf k i).flatMap (fun w => (List.range k).map fun c => w ++ [c]) = M77.wordsOf k (i + 1) := rfl
    rw [ew, List.nil_append] at e1
    have st : L3_law_words ([some (.shr (dN k)), a1, some (.shr (.list ((upTo k i).map dW))), some (.shr (.list ((M77.wordsOf k i).map dW))), o4, o5, o6, o7].set 4 (some (.shr (dN i)))) =
        some (.nx [some (.shr (dN k)), a1, some (.shr (.list ((upTo k (i + 1)).map dW))), some (.shr (.list ((M77.wordsOf k (i + 1)).map dW))), some (.shr (dN i)), some (.shr (.list ((M77.wordsOf k (i + 1)).map dW))), o6', o7']) := by
      have c1 : addD (.list ((upTo k i).map dW)) (.list ((M77.wordsOf k (i + 1)).map dW)) = some (.list ((upTo k (i + 1)).map dW)) := by
        simp only [addD]
        rw [if_pos (by rw [sizeLine_eq, List.length_map, List.length_map, upTo_len, wordsOf_len]; omega), upTo_succ, List.map_append]
      simp [L3_law_words, itemsD, e1, c1]
    rw [st, turnS_nx, e2]
theorem law_words_eq {k n : Nat} (hk : k ≤ 3) (hn : n ≤ 1000) (hc : cnt k n ≤ 16777216) : F_law_words [dN k, dN n] = some (.list ((upTo k n).map dW)) := by
  rw [F_law_words, callF_2, b_law_words]
  obtain ⟨_, o3, o4, o5, o6, o7, e⟩ := outer (a1 := some (.shr (dN n))) hk hn hc n 0 none none none none (by omega)
  have e0 : upTo k 0 = [[]] := by simp [upTo, M77.wordsOf]
  have e1 : M77.wordsOf k 0 = [[]] := rfl
  rw [e0, e1, ← List.range_eq_range'] at e
  simp at e
  simp [List.replicate, nil_wd, rng1_n (show n ≤ 16777216 by omega), e]
/-! ### scattered -/
theorem scat_loop {w : List Nat} {a1 : Option Sl} (hw : w.length ≤ 16777216) : ∀ (t : List Nat) (i : Nat) (o : Option Sl), i ≤ w.length →
    ∃ (j : Nat) (o' : Option Sl), forL (gN 3) L1_law_scattered (t.map fun c => dW [c]) [some (.shr (dW w)), a1, some (.shr (dN i)), o] = some (.nx [some (.shr (dW w)), a1, some (.shr (dN j)), o']) ∧ j ≤ w.length ∧ (j = w.length ↔ sub (w.drop i) t = true)
  | [], i, o, hi => ⟨i, o, rfl, hi, by
      by_cases h : i = w.length
      · subst h; simp [sub_nil]
      · have hlt : i < w.length := by omega
        rw [List.drop_eq_getElem_cons hlt]
        simp [sub, h]⟩
  | c :: t, i, o, hi => by
    rw [List.map_cons, forL_cons]
    by_cases h : i < w.length
    · have c1 := len_wd hw
      have c2 := ix_wd h hw
      by_cases hc : w[i] = c
      · obtain ⟨j, o', e, h1, h2⟩ := scat_loop (a1 := a1) hw t (i + 1) (some (.shr (dW [c]))) h
        refine ⟨j, o', ?_, h1, ?_⟩
        · have st : L1_law_scattered ([some (.shr (dW w)), a1, some (.shr (dN i)), o].set 3 (some (.shr (dW [c])))) = some (.nx [some (.shr (dW w)), a1, some (.shr (dN (i + 1))), some (.shr (dW [c]))]) := by
            simp [L1_law_scattered, c1, c2, eq_wd, h, hc]
          rw [st, turnS_nx, e]
        · rw [h2, List.drop_eq_getElem_cons h]
          simp [sub, hc]
      · obtain ⟨j, o', e, h1, h2⟩ := scat_loop (a1 := a1) hw t i (some (.shr (dW [c]))) hi
        refine ⟨j, o', ?_, h1, ?_⟩
        · have st : L1_law_scattered ([some (.shr (dW w)), a1, some (.shr (dN i)), o].set 3 (some (.shr (dW [c])))) = some (.nx [some (.shr (dW w)), a1, some (.shr (dN i)), some (.shr (dW [c]))]) := by
            simp [L1_law_scattered, c1, c2, eq_wd, h, hc]
          rw [st, turnS_nx, e]
        · have hc' : ¬ c = w[i] := fun z => hc z.symm
          rw [h2, List.drop_eq_getElem_cons h]
          simp [sub, hc']
    · have ei : i = w.length := by omega
      obtain ⟨j, o', e, h1, h2⟩ := scat_loop (a1 := a1) hw t i (some (.shr (dW [c]))) hi
      refine ⟨j, o', ?_, h1, ?_⟩
      · have c1 := len_wd hw
        have st : L1_law_scattered ([some (.shr (dW w)), a1, some (.shr (dN i)), o].set 3 (some (.shr (dW [c])))) = some (.nx [some (.shr (dW w)), a1, some (.shr (dN i)), some (.shr (dW [c]))]) := by
          simp [L1_law_scattered, c1, h]
        rw [st, turnS_nx, e]
      · rw [h2, ei]
        simp [sub_nil]
theorem law_scattered_eq {w t : List Nat} (hw : w.length ≤ 16777216) : F_law_scattered [dW w, dW t] = some (.bool (sub w t)) := by
  rw [F_law_scattered, callF_2, b_law_scattered]
  obtain ⟨j, o', e, h1, h2⟩ := scat_loop (a1 := some (.shr (dW t))) hw t 0 none (by omega)
  have c1 := len_wd hw
  have c2 : decide ((j : Int) = (w.length : Int)) = sub w t := by
    rw [Bool.eq_iff_iff, decide_eq_true_iff]
    rw [List.drop_zero] at h2
    rw [← h2]
    omega
  rw [show dN 0 = PyData.int 0 from rfl] at e
  simp [List.replicate, items_wd, e, c1]
  by_cases h : j = w.length
  · have := h2.mp h
    simp_all
  · have : sub w t = false := by
      cases q : sub w t with
      | false => rfl
      | true => exact absurd (h2.mpr (by simpa using q)) h
    simp_all
end LC

set_option Elab.async false
set_option linter.all false
set_option maxRecDepth 100000
set_option maxHeartbeats 4000000
namespace LC
open PySem L2 DV
theorem kb_NoneType_bool : kitB "NoneType" "bool" = some false := by decide +kernel
@[simp] theorem isi_NoneType_bool : isiD "bool" .none = some (.bool false) := by
  show (kitB "NoneType" "bool").map _ = _
  rw [kb_NoneType_bool]
  rfl
theorem kb_bool_bool : kitB "bool" "bool" = some true := by decide +kernel
@[simp] theorem isi_bool_bool {b : Bool} : isiD "bool" (.bool b) = some (.bool true) := by
  show (kitB "bool" "bool").map _ = _
  rw [kb_bool_bool]
  rfl
theorem kb_int_bool : kitB "int" "bool" = some false := by decide +kernel
@[simp] theorem isi_int_bool {i : Int} : isiD "bool" (.int i) = some (.bool false) := by
  show (kitB "int" "bool").map _ = _
  rw [kb_int_bool]
  rfl
theorem kb_str_bool : kitB "str" "bool" = some false := by decide +kernel
@[simp] theorem isi_str_bool {x : Str} : isiD "bool" (.str x) = some (.bool false) := by
  show (kitB "str" "bool").map _ = _
  rw [kb_str_bool]
  rfl
theorem kb_list_bool : kitB "list" "bool" = some false := by decide +kernel
@[simp] theorem isi_list_bool {ds : List D} : isiD "bool" (.list ds) = some (.bool false) := by
  show (kitB "list" "bool").map _ = _
  rw [kb_list_bool]
  rfl
theorem kb_tuple_bool : kitB "tuple" "bool" = some false := by decide +kernel
@[simp] theorem isi_tuple_bool {ds : List D} : isiD "bool" (.tuple ds) = some (.bool false) := by
  show (kitB "tuple" "bool").map _ = _
  rw [kb_tuple_bool]
  rfl
theorem kb_NoneType_int : kitB "NoneType" "int" = some false := by decide +kernel
@[simp] theorem isi_NoneType_int : isiD "int" .none = some (.bool false) := by
  show (kitB "NoneType" "int").map _ = _
  rw [kb_NoneType_int]
  rfl
theorem kb_bool_int : kitB "bool" "int" = some true := by decide +kernel
@[simp] theorem isi_bool_int {b : Bool} : isiD "int" (.bool b) = some (.bool true) := by
  show (kitB "bool" "int").map _ = _
  rw [kb_bool_int]
  rfl
theorem kb_int_int : kitB "int" "int" = some true := by decide +kernel
@[simp] theorem isi_int_int {i : Int} : isiD "int" (.int i) = some (.bool true) := by
  show (kitB "int" "int").map _ = _
  rw [kb_int_int]
  rfl
theorem kb_str_int : kitB "str" "int" = some false := by decide +kernel
@[simp] theorem isi_str_int {x : Str} : isiD "int" (.str x) = some (.bool false) := by
  show (kitB "str" "int").map _ = _
  rw [kb_str_int]
  rfl
theorem kb_list_int : kitB "list" "int" = some false := by decide +kernel
@[simp] theorem isi_list_int {ds : List D} : isiD "int" (.list ds) = some (.bool false) := by
  show (kitB "list" "int").map _ = _
  rw [kb_list_int]
  rfl
theorem kb_tuple_int : kitB "tuple" "int" = some false := by decide +kernel
@[simp] theorem isi_tuple_int {ds : List D} : isiD "int" (.tuple ds) = some (.bool false) := by
  show (kitB "tuple" "int").map _ = _
  rw [kb_tuple_int]
  rfl
theorem kb_NoneType_str : kitB "NoneType" "str" = some false := by decide +kernel
@[simp] theorem isi_NoneType_str : isiD "str" .none = some (.bool false) := by
  show (kitB "NoneType" "str").map _ = _
  rw [kb_NoneType_str]
  rfl
theorem kb_bool_str : kitB "bool" "str" = some false := by decide +kernel
@[simp] theorem isi_bool_str {b : Bool} : isiD "str" (.bool b) = some (.bool false) := by
  show (kitB "bool" "str").map _ = _
  rw [kb_bool_str]
  rfl
theorem kb_int_str : kitB "int" "str" = some false := by decide +kernel
@[simp] theorem isi_int_str {i : Int} : isiD "str" (.int i) = some (.bool false) := by
  show (kitB "int" "str").map _ = _
  rw [kb_int_str]
  rfl
theorem kb_str_str : kitB "str" "str" = some true := by decide +kernel
@[simp] theorem isi_str_str {x : Str} : isiD "str" (.str x) = some (.bool true) := by
  show (kitB "str" "str").map _ = _
  rw [kb_str_str]
  rfl
theorem kb_list_str : kitB "list" "str" = some false := by decide +kernel
@[simp] theorem isi_list_str {ds : List D} : isiD "str" (.list ds) = some (.bool false) := by
  show (kitB "list" "str").map _ = _
  rw [kb_list_str]
  rfl
theorem kb_tuple_str : kitB "tuple" "str" = some false := by decide +kernel
@[simp] theorem isi_tuple_str {ds : List D} : isiD "str" (.tuple ds) = some (.bool false) := by
  show (kitB "tuple" "str").map _ = _
  rw [kb_tuple_str]
  rfl
theorem kb_NoneType_list : kitB "NoneType" "list" = some false := by decide +kernel
@[simp] theorem isi_NoneType_list : isiD "list" .none = some (.bool false) := by
  show (kitB "NoneType" "list").map _ = _
  rw [kb_NoneType_list]
  rfl
theorem kb_bool_list : kitB "bool" "list" = some false := by decide +kernel
@[simp] theorem isi_bool_list {b : Bool} : isiD "list" (.bool b) = some (.bool false) := by
  show (kitB "bool" "list").map _ = _
  rw [kb_bool_list]
  rfl
theorem kb_int_list : kitB "int" "list" = some false := by decide +kernel
@[simp] theorem isi_int_list {i : Int} : isiD "list" (.int i) = some (.bool false) := by
  show (kitB "int" "list").map _ = _
  rw [kb_int_list]
  rfl
theorem kb_str_list : kitB "str" "list" = some false := by decide +kernel
@[simp] theorem isi_str_list {x : Str} : isiD "list" (.str x) = some (.bool false) := by
  show (kitB "str" "list").map _ = _
  rw [kb_str_list]
  rfl
theorem kb_list_list : kitB "list" "list" = some true := by decide +kernel
@[simp] theorem isi_list_list {ds : List D} : isiD "list" (.list ds) = some (.bool true) := by
  show (kitB "list" "list").map _ = _
  rw [kb_list_list]
  rfl
theorem kb_tuple_list : kitB "tuple" "list" = some false := by decide +kernel
@[simp] theorem isi_tuple_list {ds : List D} : isiD "list" (.tuple ds) = some (.bool false) := by
  show (kitB "tuple" "list").map _ = _
  rw [kb_tuple_list]
  rfl
theorem kb_NoneType_tuple : kitB "NoneType" "tuple" = some false := by decide +kernel
@[simp] theorem isi_NoneType_tuple : isiD "tuple" .none = some (.bool false) := by
  show (kitB "NoneType" "tuple").map _ = _
  rw [kb_NoneType_tuple]
  rfl
theorem kb_bool_tuple : kitB "bool" "tuple" = some false := by decide +kernel
@[simp] theorem isi_bool_tuple {b : Bool} : isiD "tuple" (.bool b) = some (.bool false) := by
  show (kitB "bool" "tuple").map _ = _
  rw [kb_bool_tuple]
  rfl
theorem kb_int_tuple : kitB "int" "tuple" = some false := by decide +kernel
@[simp] theorem isi_int_tuple {i : Int} : isiD "tuple" (.int i) = some (.bool false) := by
  show (kitB "int" "tuple").map _ = _
  rw [kb_int_tuple]
  rfl
theorem kb_str_tuple : kitB "str" "tuple" = some false := by decide +kernel
@[simp] theorem isi_str_tuple {x : Str} : isiD "tuple" (.str x) = some (.bool false) := by
  show (kitB "str" "tuple").map _ = _
  rw [kb_str_tuple]
  rfl
theorem kb_list_tuple : kitB "list" "tuple" = some false := by decide +kernel
@[simp] theorem isi_list_tuple {ds : List D} : isiD "tuple" (.list ds) = some (.bool false) := by
  show (kitB "list" "tuple").map _ = _
  rw [kb_list_tuple]
  rfl
theorem kb_tuple_tuple : kitB "tuple" "tuple" = some true := by decide +kernel
@[simp] theorem isi_tuple_tuple {ds : List D} : isiD "tuple" (.tuple ds) = some (.bool true) := by
  show (kitB "tuple" "tuple").map _ = _
  rw [kb_tuple_tuple]
  rfl

@[simp] theorem eq_bb {a b : Bool} : eqD (.bool a) (.bool b) = some (.bool (decide (a = b))) := rfl
@[simp] theorem eq_ss {a b : Str} : eqD (.str a) (.str b) = some (.bool (decide (a = b))) := rfl
@[simp] theorem eq_nn : eqD .none .none = some (.bool true) := rfl
@[simp] theorem ne_bb {a b : Bool} : neD (.bool a) (.bool b) = some (.bool (!decide (a = b))) := rfl
@[simp] theorem is_n {d : D} : isD d .none = some (.bool (isNb d)) := by
  cases d <;> rfl
@[simp] theorem isn_n {d : D} : isnD d .none = some (.bool (!isNb d)) := by
  cases d <;> rfl
/-- data that _law_same goes through in so many levels -/
def plain : Nat → D → Prop
  | 0, _ => False
  | n + 1, d => match d with
    | .list ds => ds.length ≤ 16777216 ∧ ∀ x ∈ ds, plain n x
    | .tuple ds => ds.length ≤ 16777216 ∧ ∀ x ∈ ds, plain n x
    | .dict _ => False
    | _ => True
theorem plain_list {n : Nat} {ds : List D} : plain (n + 1) (.list ds) ↔ ds.length ≤ 16777216 ∧ ∀ x ∈ ds, plain n x := Iff.rfl
theorem plain_tuple {n : Nat} {ds : List D} : plain (n + 1) (.tuple ds) ↔ ds.length ≤ 16777216 ∧ ∀ x ∈ ds, plain n x := Iff.rfl
theorem rngN {count : Nat} (h : count ≤ 16777216) : rng1 [.int (count : Int)] = some ((List.range count).map fun (i : Nat) => PyData.int (i : Int)) := by
  rw [rng1_i (by omega) (by omega), Int.toNat_natCast]
  simp [rngL]
theorem same_loop {rec : List D → Option D} {x : D} {ds : List D} (hx : ∀ (i : Nat) d, ds[i]? = some d → ixD x (.int (i : Int)) = some d) (hr : ∀ d ∈ ds, rec [d, d] = some (.bool true)) : ∀ (is : List Nat) (o : Option Sl), (∀ i ∈ is, i < ds.length) →
    ∃ o', forL (gN 2) (L1_law_same rec) (is.map fun (i : Nat) => PyData.int (i : Int)) [some (.shr x), some (.shr x), o] = some (.nx [some (.shr x), some (.shr x), o'])
  | [], o, _ => ⟨o, rfl⟩
  | i :: is, o, hi => by
    have hl := hi i List.mem_cons_self
    have hd : ds[i]? = some ds[i] := List.getElem?_eq_getElem hl
    obtain ⟨o', e⟩ := same_loop hx hr is (some (.shr (.int (i : Int)))) fun j hj => hi j (List.mem_cons_of_mem _ hj)
    refine ⟨o', ?_⟩
    rw [List.map_cons, forL_cons]
    have st : L1_law_same rec ([some (.shr x), some (.shr x), o].set 2 (some (.shr (.int (i : Int))))) = some (.nx [some (.shr x), some (.shr x), some (.shr (.int (i : Int)))]) := by
      have c1 := hx i _ hd
      have c2 := hr _ (List.getElem_mem hl)
      simp [L1_law_same, c1, c2]
    rw [st, turnS_nx, e]
theorem law_same_eq : ∀ (n : Nat) (d : D), plain n d → F_law_same n [d, d] = some (.bool true)
  | 0, _, h => h.elim
  | n + 1, d, h => by
    rw [F_law_same, callF_2, b_law_same]
    cases d with
    | none => simp [List.replicate, isNb]
    | bool b => simp [List.replicate, isNb]
    | int i => simp [List.replicate, isNb]
    | str x => simp [List.replicate, isNb]
    | dict kvs => exact h.elim
    | list ds =>
      obtain ⟨h1, h2⟩ := h
      obtain ⟨o', e⟩ := same_loop (rec := F_law_same n) (x := .list ds) (ds := ds) (fun i d => ix_l) (fun d hd => law_same_eq n d (h2 d hd)) (List.range ds.length) none (fun i hi => List.mem_range.mp hi)
      simp [List.replicate, isNb, rngN h1, e]
    | tuple ds =>
      obtain ⟨h1, h2⟩ := h
      obtain ⟨o', e⟩ := same_loop (rec := F_law_same n) (x := .tuple ds) (ds := ds) (fun i d => ix_t) (fun d hd => law_same_eq n d (h2 d hd)) (List.range ds.length) none (fun i hi => List.mem_range.mp hi)
      simp [List.replicate, isNb, rngN h1, e]
end LC

set_option Elab.async false
set_option linter.all false
noncomputable section
namespace LS
open PySem L2 DV
def L1_law_drawn_steps : FS :=
    (sSeq (thenF 10 (sOwn 10 (eLc [14] (iAny (eSl (eW 6) (pS (o2 addD (eC (.int 2)) (o2 mulD (eC (.int 7)) (eW 9)))) (pS (o2 addD (eC (.int 9)) (o2 mulD (eC (.int 7)) (eW 9)))))) (gN 14) tYs (o2 ixD (eW 7) (o2 modD (eW 14) (eCall lenF (lC (eW 7) lN)))))))
    (sSeq (sAsg (eSlS (eW 7) pN pN (pS (o2 subD (eC (.int 1)) (o2 mulD (eC (.int 2)) (o2 modD (o2 fdivD (o2 ixD (eW 6) (eC (.int 15))) (o2 addD (eC (.int 1)) (eW 9))) (eC (.int 2))))))) (gN 11))
    (sSeq (sAsg (eMeth joinF (eC (.str "")) (lC (eW 10) lN)) (gN 12))
    (sApp 8 (eTup (lC (eSl (eW 12) pN (pS (o2 modD (o2 ixD (eW 6) (eC (.int 15))) (eC (.int 3))))) (lC (o2 addD (eMeth joinF (eC (.str "")) (lC (eW 11) lN)) (eSl (eW 12) (pS (eC (.int 2))) (pS (o2 addD (eC (.int 2)) (o2 modD (o2 ixD (eW 6) (eC (.int 14))) (eC (.int 3))))))) (lC (eSl (eW 12) (pS (eC (.int 5))) (pS (o2 addD (eC (.int 5)) (o2 modD (o2 ixD (eW 6) (eC (.int 13))) (eC (.int 3)))))) lN))))))))
def L2_law_drawn_steps : FS :=
    (sSeq (sAsg (eCall LC.F_law_draws (lC (eV 0) (lC (o2 addD (eW 1) (eW 5)) (lC (eC (.int 16)) (lC (eC (.int 5040)) lN))))) (gN 6))
    (sIf (toT (o2 eqD (o2 modD (o2 ixD (eW 6) (eC (.int 0))) (eC (.int 3))) (eC (.int 0)))) (sApp 4 (eTup (lC (eC (.str "letter")) (lC (o2 modD (o2 ixD (eW 6) (eC (.int 1))) (eW 2)) lN)))) (sSeq (sAsg (eLc [13] (iCall rng1 (lC (eV 2) lN)) (gN 13) (toT (o2 eqD (o2 andD (o2 shrD (o2 addD (eC (.int 1)) (o2 modD (o2 ixD (eW 6) (eC (.int 1))) (o2 subD (o2 shlD (eC (.int 1)) (eW 2)) (eC (.int 1))))) (eW 13)) (eC (.int 1))) (eC (.int 1)))) (o2 ixD (eC (.str "abc")) (eW 13))) (gN 7))
    (sSeq (sOwn 8 (eLst lN))
    (sSeq (sFor (iCall rng1 (lC (eC (.int 2)) lN)) (gN 9) L1_law_drawn_steps)
    (sApp 4 (eTup (lC (eC (.str "set")) (lC (o2 ixD (eW 8) (eC (.int 0))) (lC (o2 ixD (eW 8) (eC (.int 1))) lN))))))))))
def b_law_drawn_steps : FS :=
    (sSeq (sOwn 4 (eLst lN))
    (sSeq (sFor (iCall rng1 (lC (eV 3) lN)) (gN 5) L2_law_drawn_steps)
    (sFrz 4 (sRet (eV 4)))))
def F_law_drawn_steps : List D → Option D := callF 15 4 b_law_drawn_steps
end LS
end

set_option Elab.async false
set_option linter.all false
set_option maxRecDepth 100000
set_option maxHeartbeats 4000000
/-! LS: drawn steps of bonds (turned from I79 J79 K79). -/
namespace LS
open PySem L2 DV M77 LC
inductive Stp
  | lt (i : Nat)
  | st (a b c a' b' c' : List Nat)
abbrev encT (a b c : List Nat) : D := .tuple [dW a, dW b, dW c]
def Stp.enc : Stp → D
  | .lt i => .tuple [.str "letter", dN i]
  | .st a b c a' b' c' => .tuple [.str "set", encT a b c, encT a' b' c']
structure GT (A a b c : List Nat) : Prop where
  ha : ∀ x ∈ a, x ∈ A
  hb : ∀ x ∈ b, x ∈ A
  hc : ∀ x ∈ c, x ∈ A
  hA : ∀ x ∈ A, x ∈ b
  la : a.length ≤ 10
  lb : b.length ≤ 10
  lc : c.length ≤ 10
def good (L : Nat) : Stp → Prop
  | .lt i => i < L
  | .st a b c a' b' c' => ∃ A, 0 < A.length ∧ ok L A ∧ GT A a b c ∧ GT A a' b' c'
theorem set_ne : eqD (.str "set") (.str "letter") = some (.bool false) := by
  show some (PyData.bool (decide _)) = _
  rw [decide_eq_false (by decide +kernel)]
theorem let_eq : eqD (.str "letter") (.str "letter") = some (.bool true) := by
  show some (PyData.bool (decide _)) = _
  rw [decide_eq_true rfl]
theorem abc_ix {i : Nat} (h : i < 3) : ixD (dW [0, 1, 2]) (dN i) = some (dW [i]) := by
  have c2 := ix_wd (l := [0, 1, 2]) (i := i) (by simp; omega) (by decide)
  rw [c2]
  have : i = 0 ∨ i = 1 ∨ i = 2 := by omega
  rcases this with z | z | z <;> subst z <;> rfl
/-! ### slices -/
theorem range_pick {α : Type} : ∀ ys : List α, (List.range ys.length).filterMap (ys[·]?) = ys
  | [] => rfl
  | y :: ys => by
    rw [List.length_cons, List.range_succ_eq_map, List.filterMap_cons_some (f := fun x => (y :: ys)[x]?) (a := 0) (b := y) rfl, List.filterMap_map]
    have e : ((fun k => (y :: ys)[k]?) ∘ Nat.succ) = fun k => ys[k]? := by
      funext k
      simp
    rw [e, range_pick ys]
theorem pick_one {α : Type} (xs : List α) : pickD xs none none (some 1) = xs := by
  unfold pickD
  have e1 : sliceBounds none none (some 1) xs.length = (0, (xs.length : Int), 1) := by simp [sliceBounds]
  rw [e1]
  have e2 : sliceRange 0 (xs.length : Int) 1 = List.range xs.length := by
    unfold sliceRange
    by_cases h : (0 : Int) < (xs.length : Int)
    · simp only [h, if_true]
      have : ((xs.length : Int) - 0 + 1 - 1) / 1 = (xs.length : Int) := by omega
      simp only [show (1 : Int) > 0 by decide, if_true, this, Int.toNat_natCast]
      have : (fun (k : Nat) => (0 + 1 * (k : Int)).toNat) = id := by
        funext k
        simp
      rw [this, List.map_id]
    · have : xs.length = 0 := by omega
      rw [this]
      rfl
  show (sliceRange 0 (xs.length : Int) 1).filterMap (xs[·]?) = xs
  rw [e2, range_pick]
theorem fm_congr {α β : Type} {f g : α → Option β} : ∀ {l : List α}, (∀ x ∈ l, f x = g x) → l.filterMap f = l.filterMap g
  | [], _ => rfl
  | x :: l, h => by
    rw [List.filterMap_cons, List.filterMap_cons, h x List.mem_cons_self, fm_congr fun y hy => h y (List.mem_cons_of_mem _ hy)]
theorem pick_rev {α : Type} (xs : List α) : pickD xs none none (some (-1)) = xs.reverse := by
  unfold pickD
  rw [PySem.W.krv_bounds]
  show (sliceRange ((xs.length : Int) - 1) (-1) (-1)).filterMap (xs[·]?) = xs.reverse
  rw [PySem.W.krv_sliceRange, List.filterMap_map]
  have e : (List.range xs.length).filterMap ((xs[·]?) ∘ fun k => xs.length - 1 - k) = (List.range xs.reverse.length).filterMap (xs.reverse[·]?) := by
    rw [List.length_reverse]
    refine fm_congr fun k hk => ?_
    have hk := List.mem_range.mp hk
    simp only [Function.comp_def]
    rw [List.getElem?_reverse hk]
  rw [e, range_pick]
theorem sl_sub {l : List Nat} (lo hi : Option Int) (h : l.length ≤ 1000) : ∃ m : List Nat, slD (dW l) lo hi = some (dW m) ∧ (∀ x ∈ m, x ∈ l) ∧ m.length ≤ l.length := by
  refine ⟨_, sl_wd lo hi (by omega), fun x hx => List.mem_of_mem_drop (List.mem_of_mem_take hx), ?_⟩
  rw [List.length_take, List.length_drop]
  omega
theorem sl_list {l : List Nat} {a b : Nat} (hb : b ≤ l.length) (hab : a ≤ b) : ∃ m : List Nat, slD (.list (l.map dN)) (some (a : Int)) (some (b : Int)) = some (.list (m.map dN)) ∧ m.length = b - a := by
  refine ⟨(l.drop a).take (b - a), ?_, by rw [List.length_take, List.length_drop]; omega⟩
  simp only [slD]
  unfold cutD
  rw [HT.sIx_nat, HT.sIx_nat, List.length_map, List.map_take, List.map_drop]
  rw [Nat.min_eq_left (by omega), Nat.min_eq_left (by omega)]
theorem bit_and : ∀ x : Nat, x < 8 → Builtin.bitAnd (x : Int) 1 = ((x % 2 : Nat) : Int) := by decide +kernel
theorem bit_some : ∀ L, L < 4 → 0 < L → ∀ r, r < 2 ^ L - 1 → ∃ i, i < L ∧ ((1 + r) / 2 ^ i) % 2 = 1 := by decide +kernel
def chosen (L m : Nat) : List Nat := (List.range L).filter fun i => decide ((m / 2 ^ i) % 2 = 1)
theorem pow2 : ∀ L < 4, 0 < L → 2 ^ L - 1 < 8 ∧ 0 < 2 ^ L - 1 := by decide
/-- the letters chosen -/
theorem chosen_eq {L p : Nat} {ρ : DV.Env} (hL : L ≤ 3) (hL0 : 0 < L) {l : List Nat} (h6 : ρ[6]? = some (some (.shr (.list (l.map dN))))) (h2 : ρ[2]? = some (some (.shr (dN L)))) (hp : l[1]? = some p) (hlen : 13 < ρ.length) (ha : ρ.length = 15) :
    lcL (gN 13) (toT (o2 eqD (o2 andD (o2 shrD (o2 addD (eC (.int 1)) (o2 modD (o2 ixD (eW 6) (eC (.int 1))) (o2 subD (o2 shlD (eC (.int 1)) (eW 2)) (eC (.int 1))))) (eW 13)) (eC (.int 1))) (eC (.int 1)))) (o2 ixD (eC (dW [0, 1, 2])) (eW 13)) ρ ((List.range L).map dN) =
      some ((chosen L (1 + p % (2 ^ L - 1))).map fun c => dW [c]) := by
  obtain ⟨q1, q2⟩ := pow2 L (by omega) hL0
  have hm := Nat.mod_lt p q2
  refine lcL_filter dN (fun i => decide (((1 + p % (2 ^ L - 1)) / 2 ^ i) % 2 = 1)) (fun c => dW [c]) (List.range L) (fun i hi => ?_) (fun i hi _ => ?_)
  · have hi := List.mem_range.mp hi
    have g6 : (ρ.set 13 (some (.shr (dN i))))[6]? = some (some (.shr (.list (l.map dN)))) := by rw [List.getElem?_set_ne (by omega), h6]
    have g2 : (ρ.set 13 (some (.shr (dN i))))[2]? = some (some (.shr (dN L))) := by rw [List.getElem?_set_ne (by omega), h2]
    have g13 : (ρ.set 13 (some (.shr (dN i))))[13]? = some (some (.shr (dN i))) := by rw [List.getElem?_set_self hlen]
    have c1 : ixD (.list (l.map dN)) (.int 1) = some (dN p) := ix_l (i := 1) (by rw [List.getElem?_map, hp]; rfl)
    have c2 : shlD (.int 1) (dN L) = some (.int ((2 ^ L : Nat) : Int)) := by
      simp only [shlD]
      rw [if_pos ⟨by omega, by omega, by decide⟩]
      simp
    have e3 : ((2 ^ L : Nat) : Int) - 1 = ((2 ^ L - 1 : Nat) : Int) := by omega
    have c4 : modD (dN p) (dN (2 ^ L - 1)) = some (dN (p % (2 ^ L - 1))) := mod_ii (by omega)
    have e5 : (1 : Int) + ((p % (2 ^ L - 1) : Nat) : Int) = ((1 + p % (2 ^ L - 1) : Nat) : Int) := by omega
    have c6 : shrD (dN (1 + p % (2 ^ L - 1))) (dN i) = some (dN ((1 + p % (2 ^ L - 1)) / 2 ^ i)) := by
      simp only [shrD]
      rw [if_pos (by omega), Int.toNat_natCast]
      congr 2
    have h8 : (1 + p % (2 ^ L - 1)) / 2 ^ i < 8 := Nat.lt_of_le_of_lt (Nat.div_le_self _ _) (by omega)
    have c7 : andD (dN ((1 + p % (2 ^ L - 1)) / 2 ^ i)) (.int 1) = some (dN ((1 + p % (2 ^ L - 1)) / 2 ^ i % 2)) := by
      show some (PyData.int (Builtin.bitAnd _ _)) = _
      rw [bit_and _ h8]
    have c8 : eqD (dN ((1 + p % (2 ^ L - 1)) / 2 ^ i % 2)) (.int 1) = some (.bool (decide ((1 + p % (2 ^ L - 1)) / 2 ^ i % 2 = 1))) := by
      rw [eq_ii]
      congr 2
      refine decide_eq_decide.mpr ?_
      omega
    have c4' : modD (dN p) (.int ((2 ^ L - 1 : Nat) : Int)) = some (dN (p % (2 ^ L - 1))) := c4
    simp only [toT_e, o2_e, eW_e, eC_e, g6, g2, g13, getW_s, ap2_s, c1, c2, sub_ii, e3, c4', add_ii, e5, c6, c7, c8, Option.bind_some, asB_b]
  · have hi := List.mem_range.mp hi
    have g13 : (ρ.set 13 (some (.shr (dN i))))[13]? = some (some (.shr (dN i))) := by rw [List.getElem?_set_self hlen]
    have c1 := abc_ix (i := i) (by omega)
    simp only [o2_e, eC_e, eW_e, g13, getW_s, ap2_s, c1]
theorem chosen_ok (L m : Nat) : ok L (chosen L m) := fun x hx => List.mem_range.mp (List.mem_filter.mp hx).1
theorem chosen_len (L m : Nat) : (chosen L m).length ≤ L := by
  have := List.length_filter_le (fun i => decide ((m / 2 ^ i) % 2 = 1)) (List.range L)
  simpa [chosen] using this
theorem chosen_ne {L p : Nat} (hL : L ≤ 3) (hL0 : 0 < L) : 0 < (chosen L (1 + p % (2 ^ L - 1))).length := by
  obtain ⟨q1, q2⟩ := pow2 L (by omega) hL0
  obtain ⟨i, hi, e⟩ := bit_some L (by omega) hL0 _ (Nat.mod_lt p q2)
  exact List.length_pos_of_mem (List.mem_filter.mpr ⟨List.mem_range.mpr hi, decide_eq_true e⟩)
theorem flat_ones (l : List Nat) : (l.map fun x => [x]).flatten = l := by
  induction l with
  | nil => rfl
  | cons a l ih => simp [ih]
theorem join_ones {l : List Nat} (h : l.length ≤ 1000) : joinF (dW []) [.list (l.map fun x => dW [x])] = some (dW l) := by
  have := join_wd (l.map fun x => [x]) (by
    rw [List.map_map]
    show (l.map fun _ => 1).sum ≤ _
    rw [List.map_const', List.sum_replicate_nat]
    omega)
  rw [flat_ones, List.map_map] at this
  exact this
/-- one side of a set -/
theorem side_step {a0 a1 a2 a3 a4 a5 a10 a11 a12 a13 a14 : Option Sl} {l cs : List Nat} {ws : List D} {sd : Nat} (hl : l.length = 16) (hc0 : 0 < cs.length) (hc : cs.length ≤ 3) (hsd : sd < 2) (hws : ws.length ≤ 100) :
    ∃ (a b c : List Nat) (b10 b11 b12 : Option Sl), GT cs a b c ∧ L1_law_drawn_steps [a0, a1, a2, a3, a4, a5, some (.shr (.list (l.map dN))), some (.shr (.list (cs.map fun c => dW [c]))), some (.own (.list ws)), some (.shr (dN sd)), a10, a11, a12, a13, a14] =
      some (.nx [a0, a1, a2, a3, a4, a5, some (.shr (.list (l.map dN))), some (.shr (.list (cs.map fun c => dW [c]))), some (.own (.list (ws ++ [encT a b c]))), some (.shr (dN sd)), b10, b11, b12, a13, a14]) := by
  obtain ⟨seg, s1, s2⟩ := sl_list (l := l) (a := 2 + 7 * sd) (b := 9 + 7 * sd) (by omega) (by omega)
  have e1 : (7 : Int) * (sd : Int) = ((7 * sd : Nat) : Int) := by omega
  have e2 : (2 : Int) + ((7 * sd : Nat) : Int) = ((2 + 7 * sd : Nat) : Int) := by omega
  have e3 : (9 : Int) + ((7 * sd : Nat) : Int) = ((9 + 7 * sd : Nat) : Int) := by omega
  have m1 : mulD (.int 7) (dN sd) = some (.int ((7 * sd : Nat) : Int)) := by rw [mul_ii (.inl ⟨by decide, by decide⟩), e1]
  have clen : lenF [.list (cs.map fun c => dW [c])] = some (dN cs.length) := by rw [len_l, List.length_map]
  -- the spare letters
  let sp : List Nat := seg.map fun p => cs.getD (p % cs.length) 0
  have hspm : ∀ x ∈ sp, x ∈ cs := fun x hx => by
    obtain ⟨p, _, rfl⟩ := List.mem_map.mp hx
    have := Nat.mod_lt p hc0
    rw [List.getD_eq_getElem?_getD, List.getElem?_eq_getElem this]
    exact List.getElem_mem _
  have hspl : sp.length = 7 := by
    show (seg.map _).length = 7
    rw [List.length_map, s2]
    omega
  have lsp : lcL (gN 14) tYs (o2 ixD (eW 7) (o2 modD (eW 14) (eCall lenF (lC (eW 7) lN)))) [a0, a1, a2, a3, a4, a5, some (.shr (.list (l.map dN))), some (.shr (.list (cs.map fun c => dW [c]))), some (.own (.list ws)), some (.shr (dN sd)), a10, a11, a12, a13, none] (seg.map dN) = some (sp.map fun x => dW [x]) := by
    have := lcL_map (i := 14) (a := o2 ixD (eW 7) (o2 modD (eW 14) (eCall lenF (lC (eW 7) lN)))) (ρ := [a0, a1, a2, a3, a4, a5, some (.shr (.list (l.map dN))), some (.shr (.list (cs.map fun c => dW [c]))), some (.own (.list ws)), some (.shr (dN sd)), a10, a11, a12, a13, none]) dN (fun p => dW [cs.getD (p % cs.length) 0]) seg fun p _ => by
      have hp := Nat.mod_lt p hc0
      have c1 : modD (dN p) (dN cs.length) = some (dN (p % cs.length)) := mod_ii (by omega)
      have c2 : ixD (.list (cs.map fun c => dW [c])) (dN (p % cs.length)) = some (dW [cs.getD (p % cs.length) 0]) := ix_l (by
        rw [List.getElem?_map, List.getD_eq_getElem?_getD, List.getElem?_eq_getElem hp]
        rfl)
      simp only [o2_e, eW_e, eCall_e, lC_e, lN_e, List.set_cons_succ, List.set_cons_zero, List.getElem?_cons_succ, List.getElem?_cons_zero, getW_s, consO_s, Option.bind_some, clen, ap2_s, c1, c2]
    rw [this]
    show _ = some ((seg.map _).map _)
    rw [List.map_map]
    rfl
  -- numbers drawn
  have ixn : ∀ i : Nat, i < 16 → ixD (.list (l.map dN)) (dN i) = some (dN (l.getD i 0)) := fun i hi => ix_l (by
    rw [List.getElem?_map, List.getD_eq_getElem?_getD, List.getElem?_eq_getElem (by omega)]
    rfl)
  have i15 : ixD (.list (l.map dN)) (.int 15) = some (dN (l.getD 15 0)) := ixn 15 (by decide)
  have i14 : ixD (.list (l.map dN)) (.int 14) = some (dN (l.getD 14 0)) := ixn 14 (by decide)
  have i13 : ixD (.list (l.map dN)) (.int 13) = some (dN (l.getD 13 0)) := ixn 13 (by decide)
  have e4 : (1 : Int) + (sd : Int) = ((1 + sd : Nat) : Int) := by omega
  have d1 : fdivD (dN (l.getD 15 0)) (.int ((1 + sd : Nat) : Int)) = some (dN (l.getD 15 0 / (1 + sd))) := fdiv_ii (by omega) (by omega)
  have d2 : modD (dN (l.getD 15 0 / (1 + sd))) (.int 2) = some (dN (l.getD 15 0 / (1 + sd) % 2)) := mod_ii (by decide)
  have d3 : mulD (.int 2) (dN (l.getD 15 0 / (1 + sd) % 2)) = some (.int (2 * ((l.getD 15 0 / (1 + sd) % 2 : Nat) : Int))) := mul_ii (.inl ⟨by decide, by decide⟩)
  obtain ⟨t, ht, hm, htl⟩ : ∃ t : List Nat, slsD (.list (cs.map fun c => dW [c])) none none (some (1 - 2 * ((l.getD 15 0 / (1 + sd) % 2 : Nat) : Int))) = some (.list (t.map fun c => dW [c])) ∧ (∀ x, x ∈ t ↔ x ∈ cs) ∧ t.length = cs.length := by
    have h2 := Nat.mod_lt (l.getD 15 0 / (1 + sd)) (show 0 < 2 by decide)
    rcases (show l.getD 15 0 / (1 + sd) % 2 = 0 ∨ l.getD 15 0 / (1 + sd) % 2 = 1 by omega) with z | z
    · refine ⟨cs, ?_, fun x => Iff.rfl, rfl⟩
      rw [z]
      simp only [slsD]
      rw [if_neg (by decide)]
      show some (PyData.list (pickD _ none none (some 1))) = _
      rw [pick_one]
    · refine ⟨cs.reverse, ?_, fun x => List.mem_reverse, List.length_reverse⟩
      rw [z]
      simp only [slsD]
      rw [if_neg (by decide)]
      show some (PyData.list (pickD _ none none (some (-1)))) = _
      rw [pick_rev, List.map_reverse]
  have j1 := join_ones (l := sp) (by omega)
  have j2 := join_ones (l := t) (by omega)
  have n1 : modD (dN (l.getD 15 0)) (.int 3) = some (dN (l.getD 15 0 % 3)) := mod_ii (by decide)
  have n2 : modD (dN (l.getD 14 0)) (.int 3) = some (dN (l.getD 14 0 % 3)) := mod_ii (by decide)
  have n3 : modD (dN (l.getD 13 0)) (.int 3) = some (dN (l.getD 13 0 % 3)) := mod_ii (by decide)
  obtain ⟨a, ea, ha, hal⟩ := sl_sub (l := sp) none (some ((l.getD 15 0 % 3 : Nat) : Int)) (by omega)
  obtain ⟨b, eb, hb, hbl⟩ := sl_sub (l := sp) (some 2) (some (2 + ((l.getD 14 0 % 3 : Nat) : Int))) (by omega)
  obtain ⟨c, ec, hcm, hcl⟩ := sl_sub (l := sp) (some 5) (some (5 + ((l.getD 13 0 % 3 : Nat) : Int))) (by omega)
  have ad := add_wd (l := t) (m := b) (by omega)
  refine ⟨a, t ++ b, c, some (.shr (.list (sp.map fun x => dW [x]))), some (.shr (.list (t.map fun c => dW [c]))), some (.shr (dW sp)), ⟨fun x hx => hspm x (ha x hx), fun x hx => ?_, fun x hx => hspm x (hcm x hx), fun x hx => List.mem_append_left _ ((hm x).mpr hx), by omega, by simp; omega, by omega⟩, ?_⟩
  · rcases List.mem_append.mp hx with z | z
    · exact (hm x).mp z
    · exact hspm x (hb x z)
  have ap := appS_s (i := 8) (d := encT a (t ++ b) c) (ρ := [a0, a1, a2, a3, a4, a5, some (.shr (.list (l.map dN))), some (.shr (.list (cs.map fun c => dW [c]))), some (.own (.list ws)), some (.shr (dN sd)), some (.shr (.list (sp.map fun x => dW [x]))), some (.shr (.list (t.map fun c => dW [c]))), some (.shr (dW sp)), a13, a14]) (ds := ws) (by omega)
  have lc0 : lcO (some (seg.map dN)) (gN 14) tYs (o2 ixD (eW 7) (o2 modD (eW 14) (eCall lenF (lC (eW 7) lN)))) [a0, a1, a2, a3, a4, a5, some (.shr (.list (l.map dN))), some (.shr (.list (cs.map fun c => dW [c]))), some (.own (.list ws)), some (.shr (dN sd)), a10, a11, a12, a13, none] = some (.list (sp.map fun x => dW [x])) := by
    rw [lcO_s (by simp; omega), lsp]
    rfl
  rw [L1_law_drawn_steps]
  simp only [sSeq_e, thenF_e, sOwn_e, eLc_e, iAny_e, eSl_e, eW_e, pS_e, pN_e, o2_e, eC_e, List.getElem?_cons_succ, List.getElem?_cons_zero, getW_s, getW_o, ap2_s, m1, add_ii, e2, e3, Option.bind_some, asI_i, Option.map_some, ap3_s, s1, itemsD, wipeE_cons, wipeE_nil, List.set_cons_succ, List.set_cons_zero, lc0, ownO_s, thenFO_nx, frzE_e, frzS_o, thenS_nx, sAsg_e, eSlS, e4, i15, d1, d2, d3, sub_ii, ht, asgO_s, gN_e, nxO_s, eMeth_e, lC_e, lN_e, consO_s, apM_s, nil_wd, j1, j2, sApp_e, eTup_e, n1, n2, n3, i14, i13, ea, eb, ec, ad, tupO_3, appO_s, ap]
theorem drawn_step (ns : List Int) {k L j : Nat} {a3 a5 a6 a7 a8 a9 a10 a11 a12 a13 a14 : Option Sl} {ds : List D} (hL : L ≤ 3) (hL0 : 0 < L) (hds : ds.length ≤ 100) :
    ∃ (s : Stp) (b6 b7 b8 b9 b10 b11 b12 b13 b14 : Option Sl), good L s ∧ L2_law_drawn_steps [some (.shr (scrD ns)), some (.shr (dN k)), some (.shr (dN L)), a3, some (.own (.list ds)), some (.shr (dN j)), a6, a7, a8, a9, a10, a11, a12, a13, a14] =
      some (.nx [some (.shr (scrD ns)), some (.shr (dN k)), some (.shr (dN L)), a3, some (.own (.list (ds ++ [s.enc]))), some (.shr (dN j)), b6, b7, b8, b9, b10, b11, b12, b13, b14]) := by
  obtain ⟨l, d1, d2, _⟩ := draws_eq ns (k + j) 16 5040 (by decide) (by decide) (by decide)
  rw [show dN 16 = PyData.int 16 from rfl, show dN 5040 = PyData.int 5040 from rfl] at d1
  have e1 : (k : Int) + (j : Int) = ((k + j : Nat) : Int) := by omega
  have i0 : ixD (.list (l.map dN)) (.int 0) = some (dN (l.getD 0 0)) := ix_l (i := 0) (by
    rw [List.getElem?_map, List.getD_eq_getElem?_getD, List.getElem?_eq_getElem (by omega)]
    rfl)
  have i1 : ixD (.list (l.map dN)) (.int 1) = some (dN (l.getD 1 0)) := ix_l (i := 1) (by
    rw [List.getElem?_map, List.getD_eq_getElem?_getD, List.getElem?_eq_getElem (by omega)]
    rfl)
  have hp : l[1]? = some (l.getD 1 0) := by
    rw [List.getD_eq_getElem?_getD, List.getElem?_eq_getElem (by omega)]
    rfl
  have m0 : modD (dN (l.getD 0 0)) (.int 3) = some (dN (l.getD 0 0 % 3)) := mod_ii (by decide)
  have q0 : eqD (dN (l.getD 0 0 % 3)) (.int 0) = some (.bool (decide (l.getD 0 0 % 3 = 0))) := by
    rw [eq_ii]
    congr 2
    refine decide_eq_decide.mpr ?_
    omega
  by_cases h : l.getD 0 0 % 3 = 0
  · have hd : decide (l.getD 0 0 % 3 = 0) = true := decide_eq_true h
    have m1 : modD (dN (l.getD 1 0)) (dN L) = some (dN (l.getD 1 0 % L)) := mod_ii (by omega)
    have ap := appS_s (i := 4) (d := (Stp.lt (l.getD 1 0 % L)).enc) (ρ := [some (.shr (scrD ns)), some (.shr (dN k)), some (.shr (dN L)), a3, some (.own (.list ds)), some (.shr (dN j)), some (.shr (.list (l.map dN))), a7, a8, a9, a10, a11, a12, a13, a14]) (ds := ds) (by omega)
    refine ⟨.lt (l.getD 1 0 % L), some (.shr (.list (l.map dN))), a7, a8, a9, a10, a11, a12, a13, a14, Nat.mod_lt _ hL0, ?_⟩
    rw [L2_law_drawn_steps]
    simp only [sSeq_e, sAsg_e, eCall_e, lC_e, lN_e, eV_e, eW_e, eC_e, o2_e, List.getElem?_cons_succ, List.getElem?_cons_zero, getV_s, getW_s, ap2_s, add_ii, e1, consO_s, Option.bind_some, d1, asgO_s, gN_e, nxO_s, thenS_nx, List.set_cons_succ, List.set_cons_zero, sIf_e, toT_e, i0, i1, m0, m1, q0, asB_b, hd, iteS_t, sApp_e, eTup_e, tupO_2, appO_s]
    exact ap
  · have hd : decide (l.getD 0 0 % 3 = 0) = false := decide_eq_false h
    let cs := chosen L (1 + l.getD 1 0 % (2 ^ L - 1))
    have c0 : 0 < cs.length := chosen_ne hL hL0
    have cl : cs.length ≤ 3 := Nat.le_trans (chosen_len _ _) hL
    have cok : ok L cs := chosen_ok _ _
    have ce := chosen_eq (L := L) (p := l.getD 1 0) (ρ := [some (.shr (scrD ns)), some (.shr (dN k)), some (.shr (dN L)), a3, some (.own (.list ds)), some (.shr (dN j)), some (.shr (.list (l.map dN))), a7, a8, a9, a10, a11, a12, none, a14]) hL hL0 rfl rfl hp (by simp) rfl
    have r1 := rng1_n (show L ≤ 16777216 by omega)
    have r2 : rng1 [.int 2] = some [dN 0, dN 1] := by
      have := rng1_n (count := 2) (by decide)
      exact this
    obtain ⟨a, b, c, b10, b11, b12, g1, s1⟩ := side_step (a0 := some (.shr (scrD ns))) (a1 := some (.shr (dN k))) (a2 := some (.shr (dN L))) (a3 := a3) (a4 := some (.own (.list ds))) (a5 := some (.shr (dN j))) (a10 := a10) (a11 := a11) (a12 := a12) (a13 := a13) (a14 := a14) (l := l) (cs := cs) (ws := []) (sd := 0) d2 c0 cl (by decide) (by simp)
    obtain ⟨a', b', c', b10', b11', b12', g2, s2⟩ := side_step (a0 := some (.shr (scrD ns))) (a1 := some (.shr (dN k))) (a2 := some (.shr (dN L))) (a3 := a3) (a4 := some (.own (.list ds))) (a5 := some (.shr (dN j))) (a10 := b10) (a11 := b11) (a12 := b12) (a13 := a13) (a14 := a14) (l := l) (cs := cs) (ws := [encT a b c]) (sd := 1) d2 c0 cl (by decide) (by simp)
    have fl : forL (gN 9) L1_law_drawn_steps [dN 0, dN 1] [some (.shr (scrD ns)), some (.shr (dN k)), some (.shr (dN L)), a3, some (.own (.list ds)), some (.shr (dN j)), some (.shr (.list (l.map dN))), some (.shr (.list (cs.map fun c => dW [c]))), some (.own (.list [])), a9, a10, a11, a12, a13, a14] =
        some (.nx [some (.shr (scrD ns)), some (.shr (dN k)), some (.shr (dN L)), a3, some (.own (.list ds)), some (.shr (dN j)), some (.shr (.list (l.map dN))), some (.shr (.list (cs.map fun c => dW [c]))), some (.own (.list [encT a b c, encT a' b' c'])), some (.shr (dN 1)), b10', b11', b12', a13, a14]) := by
      rw [forL_cons]
      show turnS (L1_law_drawn_steps [some (.shr (scrD ns)), some (.shr (dN k)), some (.shr (dN L)), a3, some (.own (.list ds)), some (.shr (dN j)), some (.shr (.list (l.map dN))), some (.shr (.list (cs.map fun c => dW [c]))), some (.own (.list [])), some (.shr (dN 0)), a10, a11, a12, a13, a14]) _ = _
      rw [s1, turnS_nx, forL_cons]
      show turnS (L1_law_drawn_steps [some (.shr (scrD ns)), some (.shr (dN k)), some (.shr (dN L)), a3, some (.own (.list ds)), some (.shr (dN j)), some (.shr (.list (l.map dN))), some (.shr (.list (cs.map fun c => dW [c]))), some (.own (.list [encT a b c])), some (.shr (dN 1)), b10, b11, b12, a13, a14]) _ = _
      rw [s2, turnS_nx]
      rfl
    have x0 : ixD (.list [encT a b c, encT a' b' c']) (.int 0) = some (encT a b c) := ix_l (i := 0) rfl
    have x1 : ixD (.list [encT a b c, encT a' b' c']) (.int 1) = some (encT a' b' c') := ix_l (i := 1) rfl
    have lc0 : lcO (some ((List.range L).map dN)) (gN 13) (toT (o2 eqD (o2 andD (o2 shrD (o2 addD (eC (.int 1)) (o2 modD (o2 ixD (eW 6) (eC (.int 1))) (o2 subD (o2 shlD (eC (.int 1)) (eW 2)) (eC (.int 1))))) (eW 13)) (eC (.int 1))) (eC (.int 1)))) (o2 ixD (eC (dW [0, 1, 2])) (eW 13))
        [some (.shr (scrD ns)), some (.shr (dN k)), some (.shr (dN L)), a3, some (.own (.list ds)), some (.shr (dN j)), some (.shr (.list (l.map dN))), a7, a8, a9, a10, a11, a12, none, a14] = some (.list (cs.map fun c => dW [c])) := by
      rw [lcO_s (by simp; omega), ce]
      rfl
    have ap := appS_s (i := 4) (d := (Stp.st a b c a' b' c').enc) (ρ := [some (.shr (scrD ns)), some (.shr (dN k)), some (.shr (dN L)), a3, some (.own (.list ds)), some (.shr (dN j)), some (.shr (.list (l.map dN))), some (.shr (.list (cs.map fun c => dW [c]))), some (.own (.list [encT a b c, encT a' b' c'])), some (.shr (dN 1)), b10', b11', b12', a13, a14]) (ds := ds) (by omega)
    refine ⟨.st a b c a' b' c', some (.shr (.list (l.map dN))), some (.shr (.list (cs.map fun c => dW [c]))), some (.own (.list [encT a b c, encT a' b' c'])), some (.shr (dN 1)), b10', b11', b12', a13, a14, ⟨cs, c0, cok, g1, g2⟩, ?_⟩
    rw [L2_law_drawn_steps]
    simp only [sSeq_e, sAsg_e, eCall_e, lC_e, lN_e, eV_e, eW_e, eC_e, o2_e, List.getElem?_cons_succ, List.getElem?_cons_zero, getV_s, getW_s, ap2_s, add_ii, e1, consO_s, Option.bind_some, d1, asgO_s, gN_e, nxO_s, thenS_nx, List.set_cons_succ, List.set_cons_zero, sIf_e, toT_e, i0, m0, q0, asB_b, hd, iteS_f]
    simp only [sSeq_e, sAsg_e, eLc_e, iCall_e, lC_e, lN_e, eV_e, List.getElem?_cons_succ, List.getElem?_cons_zero, getV_s, consO_s, Option.bind_some, r1, wipeE_cons, wipeE_nil, List.set_cons_succ, List.set_cons_zero, abc_wd, lc0, asgO_s, gN_e, nxO_s, thenS_nx, sOwn_e, eLst_e, lstO_0, ownO_s, sFor_e, eC_e, r2, forO_s, fl, sApp_e, eTup_e, o2_e, eW_e, getW_o, ap2_s, x0, x1, tupO_3, appO_s]
    exact ap
theorem drawn_loop (ns : List Int) {k L : Nat} {a3 : Option Sl} (hL : L ≤ 3) (hL0 : 0 < L) : ∀ (js : List Nat) (ss : List Stp) (a5 a6 a7 a8 a9 a10 a11 a12 a13 a14 : Option Sl), (∀ s ∈ ss, good L s) → ss.length + js.length ≤ 10 →
    ∃ (ss' : List Stp) (b5 b6 b7 b8 b9 b10 b11 b12 b13 b14 : Option Sl), forL (gN 5) L2_law_drawn_steps (js.map dN) [some (.shr (scrD ns)), some (.shr (dN k)), some (.shr (dN L)), a3, some (.own (.list (ss.map Stp.enc))), a5, a6, a7, a8, a9, a10, a11, a12, a13, a14] =
      some (.nx [some (.shr (scrD ns)), some (.shr (dN k)), some (.shr (dN L)), a3, some (.own (.list (ss'.map Stp.enc))), b5, b6, b7, b8, b9, b10, b11, b12, b13, b14]) ∧ (∀ s ∈ ss', good L s) ∧ ss'.length = ss.length + js.length
  | [], ss, a5, a6, a7, a8, a9, a10, a11, a12, a13, a14, hg, _ => ⟨ss, a5, a6, a7, a8, a9, a10, a11, a12, a13, a14, rfl, hg, rfl⟩
  | j :: js, ss, a5, a6, a7, a8, a9, a10, a11, a12, a13, a14, hg, hl => by
    simp at hl
    obtain ⟨s, b6, b7, b8, b9, b10, b11, b12, b13, b14, g, st⟩ := drawn_step ns (k := k) (j := j) (a3 := a3) (a5 := a5) (a6 := a6) (a7 := a7) (a8 := a8) (a9 := a9) (a10 := a10) (a11 := a11) (a12 := a12) (a13 := a13) (a14 := a14) (ds := ss.map Stp.enc) hL hL0 (by simp; omega)
    obtain ⟨ss', c5, c6, c7, c8, c9, c10, c11, c12, c13, c14, e, hg', hl'⟩ := drawn_loop ns (a3 := a3) hL hL0 js (ss ++ [s]) (some (.shr (dN j))) b6 b7 b8 b9 b10 b11 b12 b13 b14 (fun x hx => by
      rcases List.mem_append.mp hx with z | z
      · exact hg x z
      · rw [List.mem_singleton.mp z]; exact g) (by simp; omega)
    refine ⟨ss', c5, c6, c7, c8, c9, c10, c11, c12, c13, c14, ?_, hg', by rw [hl']; simp; omega⟩
    rw [List.map_cons, forL_cons]
    show turnS (L2_law_drawn_steps [some (.shr (scrD ns)), some (.shr (dN k)), some (.shr (dN L)), a3, some (.own (.list (ss.map Stp.enc))), some (.shr (dN j)), a6, a7, a8, a9, a10, a11, a12, a13, a14]) _ = _
    rw [st, turnS_nx]
    rw [List.map_append] at e
    exact e
theorem drawn_steps_eq (ns : List Int) {k L cnt : Nat} (hL : L ≤ 3) (hL0 : 0 < L) (hc : cnt ≤ 10) : ∃ ss : List Stp, F_law_drawn_steps [scrD ns, dN k, dN L, dN cnt] = some (.list (ss.map Stp.enc)) ∧ (∀ s ∈ ss, good L s) ∧ ss.length = cnt := by
  obtain ⟨ss, b5, b6, b7, b8, b9, b10, b11, b12, b13, b14, e, hg, hl⟩ := drawn_loop ns (k := k) (a3 := some (.shr (dN cnt))) hL hL0 (List.range cnt) [] none none none none none none none none none none (fun s hs => by cases hs) (by simpa using hc)
  refine ⟨ss, ?_, hg, by simpa using hl⟩
  have r1 := rng1_n (show cnt ≤ 16777216 by omega)
  rw [List.map_nil] at e
  rw [F_law_drawn_steps, callF_4, b_law_drawn_steps]
  simp only [bind0_e, List.map_cons, List.map_nil, List.length_cons, List.length_nil, List.replicate, List.cons_append, List.nil_append]
  simp only [sSeq_e, sOwn_e, eLst_e, lN_e, Option.bind_some, lstO_0, ownO_s, thenS_nx, List.set_cons_succ, List.set_cons_zero, sFor_e, iCall_e, lC_e, eV_e, List.getElem?_cons_succ, List.getElem?_cons_zero, getV_s, consO_s, r1, forO_s, e, sFrz_e, frzE_e, frzS_o, sRet_e, rtO_s, endF_rt]
theorem plain_T (a b c : List Nat) (n : Nat) : plain (n + 2) (encT a b c) := plain_tuple.mpr ⟨by simp, fun x hx => by
  simp at hx
  rcases hx with rfl | rfl | rfl <;> exact trivial⟩
theorem plain_S (s : Stp) : plain 3 s.enc := by
  cases s with
  | lt i => exact plain_tuple.mpr ⟨by simp, fun x hx => by
      simp at hx
      rcases hx with rfl | rfl <;> exact trivial⟩
  | st a b c a' b' c' => exact plain_tuple.mpr ⟨by simp, fun x hx => by
      simp at hx
      rcases hx with rfl | rfl | rfl
      · exact trivial
      · exact plain_T a b c 0
      · exact plain_T a' b' c' 0⟩
end LS

set_option Elab.async false
set_option linter.all false
/-! MM: machines in plain Lean. -/
namespace MM
structure Mc where
  L : Nat
  rows : List (List Nat)
  fin : List Nat
def Mc.n (m : Mc) : Nat := m.rows.length
def Mc.to (m : Mc) (q i : Nat) : Nat := (m.rows.getD q []).getD i 0
structure Mc.Ok (m : Mc) : Prop where
  L1 : 0 < m.L
  L3 : m.L ≤ 3
  pos : 0 < m.n
  big : m.n ≤ 1000
  row : ∀ r ∈ m.rows, r.length = m.L
  st : ∀ r ∈ m.rows, ∀ q ∈ r, q < m.n
def okw (L : Nat) (w : List Nat) : Prop := ∀ c ∈ w, c < L
def Mc.run (m : Mc) (q : Nat) (w : List Nat) : Nat := w.foldl m.to q
def Mc.acc (m : Mc) (w : List Nat) : Bool := decide (m.run 0 w ∈ m.fin)
section
variable {m : Mc}
theorem Mc.Ok.row_at (h : m.Ok) {q : Nat} (hq : q < m.n) : m.rows[q]? = some (m.rows.getD q []) ∧ (m.rows.getD q []).length = m.L := by
  have e : m.rows[q]? = some m.rows[q] := List.getElem?_eq_getElem hq
  have g : m.rows.getD q [] = m.rows[q] := by rw [List.getD_eq_getElem?_getD, e]; rfl
  rw [g]
  exact ⟨e, h.row _ (List.getElem_mem hq)⟩
theorem Mc.Ok.to_at (h : m.Ok) {q i : Nat} (hq : q < m.n) (hi : i < m.L) : (m.rows.getD q [])[i]? = some (m.to q i) := by
  obtain ⟨_, h2⟩ := h.row_at hq
  unfold Mc.to
  rw [List.getD_eq_getElem?_getD (l := m.rows.getD q []), List.getElem?_eq_getElem (by rw [h2]; exact hi)]
  rfl
theorem Mc.Ok.to_lt (h : m.Ok) {q i : Nat} (hq : q < m.n) (hi : i < m.L) : m.to q i < m.n := by
  obtain ⟨h1, h2⟩ := h.row_at hq
  have h3 := h.to_at hq hi
  exact h.st _ (List.mem_of_getElem? h1) _ (List.mem_of_getElem? h3)
theorem run_nil (q : Nat) : m.run q [] = q := rfl
theorem run_cons (q c : Nat) (w : List Nat) : m.run q (c :: w) = m.run (m.to q c) w := rfl
theorem run_app (q : Nat) (u v : List Nat) : m.run q (u ++ v) = m.run (m.run q u) v := List.foldl_append ..
theorem run_snoc (q : Nat) (u : List Nat) (c : Nat) : m.run q (u ++ [c]) = m.to (m.run q u) c := by rw [run_app]; rfl
theorem Mc.Ok.run_lt (h : m.Ok) : ∀ (w : List Nat) {q : Nat}, q < m.n → okw m.L w → m.run q w < m.n
  | [], q, hq, _ => hq
  | c :: w, q, hq, hw => h.run_lt w (h.to_lt hq (hw c List.mem_cons_self)) fun x hx => hw x (List.mem_cons_of_mem _ hx)
theorem okw.app {L : Nat} {u v : List Nat} (h1 : okw L u) (h2 : okw L v) : okw L (u ++ v) := fun c hc => (List.mem_append.mp hc).elim (h1 c) (h2 c)
theorem okw.one {L c : Nat} (h : c < L) : okw L [c] := fun x hx => by rw [List.mem_singleton.mp hx]; exact h
theorem okw.nil {L : Nat} : okw L [] := fun x hx => by cases hx
/-! ### deeds -/
def Mc.deed (m : Mc) (w : List Nat) : List Nat := (List.range m.n).map fun q => m.run q w
theorem deed_len (w : List Nat) : (m.deed w).length = m.n := by simp [Mc.deed]
theorem deed_at {w : List Nat} {q : Nat} (hq : q < m.n) : (m.deed w)[q]? = some (m.run q w) := by simp [Mc.deed, hq]
theorem deed_get {w : List Nat} {q : Nat} (hq : q < m.n) : (m.deed w).getD q 0 = m.run q w := by rw [List.getD_eq_getElem?_getD, deed_at hq]; rfl
/-- the first deed, then the second one -/
def comp (p d : List Nat) : List Nat := p.map fun q => d.getD q 0
def pw (d : List Nat) : Nat → List Nat
  | 0 => List.range d.length
  | c + 1 => comp (pw d c) d
theorem comp_len (p d : List Nat) : (comp p d).length = p.length := by simp [comp]
theorem pw_len (d : List Nat) : ∀ c, (pw d c).length = d.length
  | 0 => by simp [pw]
  | c + 1 => by rw [pw, comp_len, pw_len d c]
theorem comp_lt {p d : List Nat} {n : Nat} (hp : ∀ x ∈ p, x < d.length) (hd : ∀ x ∈ d, x < n) : ∀ x ∈ comp p d, x < n := fun x hx => by
  obtain ⟨q, hq, rfl⟩ := List.mem_map.mp hx
  have h := hp q hq
  rw [List.getD_eq_getElem?_getD, List.getElem?_eq_getElem h]
  exact hd _ (List.getElem_mem h)
theorem pw_lt {d : List Nat} (hd : ∀ x ∈ d, x < d.length) : ∀ c, ∀ x ∈ pw d c, x < d.length
  | 0, x, hx => List.mem_range.mp hx
  | c + 1, x, hx => comp_lt (pw_lt hd c) hd x hx
theorem pw_one (d : List Nat) : pw d 1 = d := by
  show (List.range d.length).map (fun q => d.getD q 0) = d
  apply List.ext_getElem?
  intro i
  by_cases h : i < d.length
  · rw [List.getElem?_map, List.getElem?_range h]
    simp [List.getD_eq_getElem?_getD, List.getElem?_eq_getElem h]
  · rw [List.getElem?_eq_none (by simpa using h), List.getElem?_eq_none (by simpa using h)]
def lists (n : Nat) : Nat → List (List Nat)
  | 0 => [[]]
  | k + 1 => (lists n k).flatMap fun l => (List.range n).map fun x => x :: l
theorem mem_lists {n : Nat} : ∀ {l : List Nat}, (∀ x ∈ l, x < n) → l ∈ lists n l.length
  | [], _ => by simp [lists]
  | x :: l, h => by
    rw [List.length_cons, lists]
    exact List.mem_flatMap.mpr ⟨l, mem_lists fun y hy => h y (List.mem_cons_of_mem _ hy), List.mem_map.mpr ⟨x, List.mem_range.mpr (h x List.mem_cons_self), rfl⟩⟩
theorem per_all : ∀ n < 5, ∀ d ∈ lists n n, pw d 16 = pw d 4 := by decide +kernel
theorem per {d : List Nat} (h4 : d.length ≤ 4) (hd : ∀ x ∈ d, x < d.length) : pw d 16 = pw d 4 := per_all d.length (by omega) d (mem_lists hd)
theorem Mc.Ok.deed_lt (h : m.Ok) {w : List Nat} (hw : okw m.L w) : ∀ x ∈ m.deed w, x < (m.deed w).length := fun x hx => by
  obtain ⟨q, hq, rfl⟩ := List.mem_map.mp hx
  rw [deed_len]
  exact h.run_lt w (List.mem_range.mp hq) hw
end
end MM

set_option Elab.async false
set_option linter.all false
noncomputable section
namespace LM
open PySem L2 DV
def L1_is_word : FS :=
    (sIf (toT (o2 ninD (eW 2) (eSl (eC (.str "abc")) pN (pS (eV 0))))) (sRet (eC (.bool false))) sNx)
def b_is_word : FS :=
    (sSeq (sFor (iAny (eV 1)) (gN 2) L1_is_word)
    (sRet (eC (.bool true))))
def F_is_word : List D → Option D := callF 3 2 b_is_word
def b_letter_index : FS :=
    (sRet (eMeth indexF (eC (.str "abc")) (lC (eW 0) lN)))
def F_letter_index : List D → Option D := callF 1 1 b_letter_index
def L1_state_behind : FS :=
    (sAsg (o2 ixD (o2 ixD (o2 ixD (eW 0) (eC (.int 1))) (eW 1)) (eCall F_letter_index (lC (eV 3) lN))) (gN 1))
def b_state_behind : FS :=
    (sSeq (sFor (iAny (eV 2)) (gN 3) L1_state_behind)
    (sRet (eV 1)))
def F_state_behind : List D → Option D := callF 4 3 b_state_behind
def b_is_final : FS :=
    (sRet (o2 inD (eW 1) (o2 ixD (eW 0) (eC (.int 2)))))
def F_is_final : List D → Option D := callF 2 2 b_is_final
def b_deed_on : FS :=
    (sRet (eCall tupF (lC (eLc [2] (iCall rng1 (lC (eCall lenF (lC (o2 ixD (eW 0) (eC (.int 1))) lN)) lN)) (gN 2) tYs (eCall F_state_behind (lC (eV 0) (lC (eV 2) (lC (eV 1) lN))))) lN)))
def F_deed_on : List D → Option D := callF 3 2 b_deed_on
def b_product : FS :=
    (sRet (eCall tupF (lC (eLc [2] (iAny (eV 0)) (gN 2) tYs (o2 ixD (eW 1) (eW 2))) lN)))
def F_product : List D → Option D := callF 3 2 b_product
def L1_law_machine : FS :=
    (sApp 5 (eCall tupF (lC (eLc [8] (iAny (eSl (eW 4) (pS (o2 mulD (eW 6) (eW 2))) (pS (o2 addD (o2 mulD (eW 6) (eW 2)) (eW 2))))) (gN 8) tYs (o2 modD (eW 8) (eW 3))) lN)))
def b_law_machine : FS :=
    (sSeq (sAsg (eCall LC.F_law_draws (lC (eV 0) (lC (eV 1) (lC (o2 addD (o2 mulD (eW 3) (eW 2)) (eW 3)) (lC (o2 mulD (eW 3) (eC (.int 2))) lN))))) (gN 4))
    (sSeq (sOwn 5 (eLst lN))
    (sSeq (sFor (iCall rng1 (lC (eV 3) lN)) (gN 6) L1_law_machine)
    (sSeq (thenF 7 (sOwn 7 (eLc [6] (iCall rng1 (lC (eV 3) lN)) (gN 6) (toT (o2 eqD (o2 modD (o2 ixD (eW 4) (o2 addD (o2 mulD (eW 3) (eW 2)) (eW 6))) (eC (.int 2))) (eC (.int 1)))) (eV 6))))
    (sRet (eTup (lC (eV 2) (lC (eCall tupF (lC (eW 5) lN)) (lC (eCall tupF (lC (eW 7) lN)) lN)))))))))
def F_law_machine : List D → Option D := callF 9 4 b_law_machine
def L1_law_state : FS :=
    (sAsg (o2 ixD (o2 ixD (o2 ixD (eW 0) (eC (.int 1))) (eW 1)) (eMeth indexF (eC (.str "abc")) (lC (eW 3) lN))) (gN 1))
def b_law_state : FS :=
    (sSeq (sFor (iAny (eV 2)) (gN 3) L1_law_state)
    (sRet (eV 1)))
def F_law_state : List D → Option D := callF 4 3 b_law_state
end LM
end

set_option Elab.async false
set_option linter.all false
set_option maxRecDepth 100000
set_option maxHeartbeats 4000000
/-! LM: what the functions of machines answer. -/
namespace LM
open PySem L2 DV LC MM
abbrev eR (r : List Nat) : D := .tuple (r.map dN)
def eT (m : Mc) : D := .tuple (m.rows.map eR)
def eM (m : Mc) : D := .tuple [dN m.L, eT m, .tuple (m.fin.map dN)]
section
variable {m : Mc} {q i : Nat}
theorem ix_M0 : ixD (eM m) (.int 0) = some (dN m.L) := ix_t0
theorem ix_M1 : ixD (eM m) (.int 1) = some (eT m) := ix_t1
theorem ix_M2 : ixD (eM m) (.int 2) = some (.tuple (m.fin.map dN)) := ix_t2
theorem ix_T (h : m.Ok) (hq : q < m.n) : ixD (eT m) (dN q) = some (eR (m.rows.getD q [])) := ix_t (by rw [List.getElem?_map, (h.row_at hq).1]; rfl)
theorem ix_R (h : m.Ok) (hq : q < m.n) (hi : i < m.L) : ixD (eR (m.rows.getD q [])) (dN i) = some (dN (m.to q i)) := ix_t (by rw [List.getElem?_map, h.to_at hq hi]; rfl)
theorem ix_nums {l : List Nat} {x : Nat} (h : l[i]? = some x) : ixD (.tuple (l.map dN)) (dN i) = some (dN x) := ix_t (by rw [List.getElem?_map, h]; rfl)
theorem ix_numsL {l : List Nat} {x : Nat} (h : l[i]? = some x) : ixD (.list (l.map dN)) (dN i) = some (dN x) := ix_l (by rw [List.getElem?_map, h]; rfl)
theorem len_T : lenF [eT m] = some (dN m.n) := by
  show some (PyData.int ((m.rows.map eR).length : Int)) = _
  rw [List.length_map]
  rfl
theorem inV_nums (x : Nat) (l : List Nat) : inV (toV (dN x)) ((l.map dN).map toV) = decide (x ∈ l) := by
  induction l with
  | nil => rfl
  | cons y l ih =>
    rw [List.map_cons, List.map_cons]
    have e : inV (toV (dN x)) (toV (dN y) :: (l.map dN).map toV) = (((y : Int) == (x : Int)) || inV (toV (dN x)) ((l.map dN).map toV)) := rfl
    rw [e, ih, Bool.eq_iff_iff]
    simp
    constructor
    · rintro (h | h)
      · exact .inl (by omega)
      · exact .inr h
    · rintro (h | h)
      · exact .inl (by omega)
      · exact .inr h
theorem in_numsT (x : Nat) (l : List Nat) : inB (dN x) (.tuple (l.map dN)) = some (decide (x ∈ l)) := by
  have hf : (l.map dN).all flatD = true := by
    rw [List.all_map, List.all_eq_true]
    exact fun _ _ => rfl
  show inT (dN x) (l.map dN) = _
  unfold inT
  rw [if_pos ⟨rfl, hf⟩, inV_nums]
theorem in_numsL (x : Nat) (l : List Nat) : inB (dN x) (.list (l.map dN)) = some (decide (x ∈ l)) := by
  have hf : (l.map dN).all flatD = true := by
    rw [List.all_map, List.all_eq_true]
    exact fun _ _ => rfl
  show inL (dN x) (l.map dN) = _
  unfold inL
  rw [if_pos ⟨rfl, hf⟩, inV_nums]
theorem inD_T (x : Nat) (l : List Nat) : inD (dN x) (.tuple (l.map dN)) = some (.bool (decide (x ∈ l))) := by rw [inD, in_numsT]; rfl
theorem inD_L (x : Nat) (l : List Nat) : inD (dN x) (.list (l.map dN)) = some (.bool (decide (x ∈ l))) := by rw [inD, in_numsL]; rfl
theorem ninD_T (x : Nat) (l : List Nat) : ninD (dN x) (.tuple (l.map dN)) = some (.bool (!decide (x ∈ l))) := by rw [ninD, in_numsT]; rfl
theorem ninD_L (x : Nat) (l : List Nat) : ninD (dN x) (.list (l.map dN)) = some (.bool (!decide (x ∈ l))) := by rw [ninD, in_numsL]; rfl
theorem ix0 : indexF (dW [0, 1, 2]) [dW [0]] = some (dN 0) := by
  have e : Builtin.Str.occurrences (wd [0, 1, 2]) (wd [0]) 0 (wd [0, 1, 2]).length 1 = [0] := by decide +kernel
  show (match Builtin.Str.occurrences (wd [0, 1, 2]) (wd [0]) 0 (wd [0, 1, 2]).length 1 with | i :: _ => some (PyData.int (i : Nat)) | [] => none) = _
  rw [e]
theorem ix1 : indexF (dW [0, 1, 2]) [dW [1]] = some (dN 1) := by
  have e : Builtin.Str.occurrences (wd [0, 1, 2]) (wd [1]) 0 (wd [0, 1, 2]).length 1 = [1] := by decide +kernel
  show (match Builtin.Str.occurrences (wd [0, 1, 2]) (wd [1]) 0 (wd [0, 1, 2]).length 1 with | i :: _ => some (PyData.int (i : Nat)) | [] => none) = _
  rw [e]
theorem ix2 : indexF (dW [0, 1, 2]) [dW [2]] = some (dN 2) := by
  have e : Builtin.Str.occurrences (wd [0, 1, 2]) (wd [2]) 0 (wd [0, 1, 2]).length 1 = [2] := by decide +kernel
  show (match Builtin.Str.occurrences (wd [0, 1, 2]) (wd [2]) 0 (wd [0, 1, 2]).length 1 with | i :: _ => some (PyData.int (i : Nat)) | [] => none) = _
  rw [e]
theorem index_abc (h : i < 3) : indexF (dW [0, 1, 2]) [dW [i]] = some (dN i) := by
  have : ∀ j < 3, indexF (dW [0, 1, 2]) [dW [j]] = some (dN j) := by
    intro j hj
    have : j = 0 ∨ j = 1 ∨ j = 2 := by omega
    rcases this with rfl | rfl | rfl
    · exact ix0
    · exact ix1
    · exact ix2
  exact this i h
theorem letter_index_eq (h : i < 3) : F_letter_index [dW [i]] = some (dN i) := by
  rw [F_letter_index, callF_1, b_letter_index]
  simp only [dv, dv0, abc_wd, index_abc h]
theorem state_behind_eq (h : m.Ok) {w : List Nat} (hq : q < m.n) (hw : okw m.L w) : F_state_behind [eM m, dN q, dW w] = some (dN (m.run q w)) := by
  rw [F_state_behind, callF_3, b_state_behind]
  obtain ⟨ρ, e, o, rfl⟩ := for_list (i := 3) (s := L1_state_behind) (fun c => dW [c]) w (fun p ρ => ∃ o, ρ = [some (.shr (eM m)), some (.shr (dN (m.run q p))), some (.shr (dW w)), o]) (fun p c r ρ hs ⟨o, hr⟩ => by
    subst hr
    have hc : c < m.L := hw c (by rw [hs]; simp)
    have hp : m.run q p < m.n := h.run_lt p hq fun x hx => hw x (by rw [hs]; simp [hx])
    have h3 := h.L3
    refine ⟨[some (.shr (eM m)), some (.shr (dN (m.run q (p ++ [c])))), some (.shr (dW w)), some (.shr (dW [c]))], ?_, _, rfl⟩
    rw [run_snoc]
    simp only [L1_state_behind, dv, ix_M1, ix_T h hp, ix_R h hp hc, letter_index_eq (show c < 3 by omega)]) (ρ := [some (.shr (eM m)), some (.shr (dN q)), some (.shr (dW w)), none]) ⟨_, rfl⟩
  simp only [dv, dv0, items_wd, e]
theorem law_state_eq (h : m.Ok) {w : List Nat} (hq : q < m.n) (hw : okw m.L w) : F_law_state [eM m, dN q, dW w] = some (dN (m.run q w)) := by
  rw [F_law_state, callF_3, b_law_state]
  obtain ⟨ρ, e, o, rfl⟩ := for_list (i := 3) (s := L1_law_state) (fun c => dW [c]) w (fun p ρ => ∃ o, ρ = [some (.shr (eM m)), some (.shr (dN (m.run q p))), some (.shr (dW w)), o]) (fun p c r ρ hs ⟨o, hr⟩ => by
    subst hr
    have hc : c < m.L := hw c (by rw [hs]; simp)
    have hp : m.run q p < m.n := h.run_lt p hq fun x hx => hw x (by rw [hs]; simp [hx])
    have h3 := h.L3
    refine ⟨[some (.shr (eM m)), some (.shr (dN (m.run q (p ++ [c])))), some (.shr (dW w)), some (.shr (dW [c]))], ?_, _, rfl⟩
    rw [run_snoc]
    simp only [L1_law_state, dv, abc_wd, ix_M1, ix_T h hp, ix_R h hp hc, index_abc (show c < 3 by omega)]) (ρ := [some (.shr (eM m)), some (.shr (dN q)), some (.shr (dW w)), none]) ⟨_, rfl⟩
  simp only [dv, dv0, items_wd, e]
theorem is_final_eq : F_is_final [eM m, dN q] = some (.bool (decide (q ∈ m.fin))) := by
  rw [F_is_final, callF_2, b_is_final]
  simp only [dv, dv0, ix_M2, inD_T]
theorem deed_on_eq (h : m.Ok) {w : List Nat} (hw : okw m.L w) : F_deed_on [eM m, dW w] = some (.tuple ((m.deed w).map dN)) := by
  rw [F_deed_on, callF_2, b_deed_on]
  have hb := h.big
  have r1 := rng1_n (count := m.n) (by omega)
  have lc : lcL (gN 2) tYs (eCall F_state_behind (lC (eV 0) (lC (eV 2) (lC (eV 1) lN)))) [some (.shr (eM m)), some (.shr (dW w)), none] ((List.range m.n).map dN) = some (((List.range m.n).map fun q => m.run q w).map dN) := by
    rw [List.map_map]
    exact lcL_map dN _ _ fun q hq => by
      simp only [dv, state_behind_eq h (List.mem_range.mp hq) hw]
      rfl
  simp only [dv, dv0, ix_M1, len_T, r1]
  rw [lcO_s (by simp; omega), lc]
  rfl
theorem product_eq {p d : List Nat} (hp : ∀ x ∈ p, x < d.length) (hz : p.length ≤ 1000) : F_product [.tuple (p.map dN), .tuple (d.map dN)] = some (.tuple ((comp p d).map dN)) := by
  rw [F_product, callF_2, b_product]
  have lc : lcL (gN 2) tYs (o2 ixD (eW 1) (eW 2)) [some (.shr (.tuple (p.map dN))), some (.shr (.tuple (d.map dN))), none] (p.map dN) = some ((p.map fun q => d.getD q 0).map dN) := by
    rw [List.map_map]
    exact lcL_map dN _ _ fun q hq => by
      have hq := hp q hq
      have e : ixD (.tuple (d.map dN)) (dN q) = some (dN (d.getD q 0)) := ix_nums (by rw [List.getD_eq_getElem?_getD, List.getElem?_eq_getElem hq]; rfl)
      simp only [dv, e]
      rfl
  simp only [dv, dv0, itemsD]
  rw [lcO_s (by simp; omega), lc]
  rfl
end
end LM

set_option Elab.async false
set_option linter.all false
set_option maxRecDepth 100000
set_option maxHeartbeats 4000000
/-! LMm: drawn machines. -/
namespace LM
open PySem L2 DV LC MM
theorem law_machine_eq (ns : List Int) {k L n : Nat} (hL : L ≤ 3) (hL0 : 0 < L) (hn : n ≤ 1000) (hn0 : 0 < n) :
    ∃ m : Mc, F_law_machine [scrD ns, dN k, dN L, dN n] = some (eM m) ∧ m.Ok ∧ m.L = L ∧ m.n = n ∧ ∃ f : Nat → Bool, m.fin = (List.range n).filter f := by
  have hz : n * L ≤ 1000 * 3 := Nat.mul_le_mul hn hL
  obtain ⟨l, d1, d2, d3⟩ := draws_eq ns k (n * L + n) (n * 2) (by omega) (by omega) (by omega)
  have mu : ∀ a b : Nat, a ≤ 1000 → b ≤ 1000 → mulD (dN a) (dN b) = some (dN (a * b)) := fun a b ha hb => by
    rw [mul_ii (.inl ⟨by omega, by omega⟩)]
    congr 2
  have ad : ∀ a b : Nat, addD (dN a) (dN b) = some (dN (a + b)) := fun a b => by
    rw [add_ii]
    congr 2
  have m2 : mulD (dN n) (.int 2) = some (dN (n * 2)) := mu n 2 hn (by decide)
  have r1 := rng1_n (count := n) (by omega)
  rw [F_law_machine, callF_4, b_law_machine]
  obtain ⟨ρ, e, rows, o6, rfl, h1, h2⟩ := for_list (i := 6) (s := L1_law_machine) dN (List.range n) (fun p ρ => ∃ rows o6, ρ = [some (.shr (scrD ns)), some (.shr (dN k)), some (.shr (dN L)), some (.shr (dN n)), some (.shr (.list (l.map dN))), some (.own (.list (rows.map eR))), o6, none, none] ∧ rows.length = p.length ∧ ∀ r ∈ rows, r.length = L ∧ ∀ q ∈ r, q < n) (fun p x r ρ hs ⟨rows, o6, hr, h1, h2⟩ => by
    subst hr
    have hx : x < n := List.mem_range.mp (by rw [hs]; simp)
    have hp : p.length < n := by
      have := congrArg List.length hs
      simp at this
      omega
    have hxl : (x + 1) * L ≤ n * L := Nat.mul_le_mul_right L hx
    rw [Nat.succ_mul] at hxl
    obtain ⟨sg, s1, s2⟩ := LS.sl_list (l := l) (a := x * L) (b := x * L + L) (by omega) (by omega)
    have lc : ∀ w : List D, lcL (gN 8) tYs (o2 modD (eW 8) (eW 3)) [some (.shr (scrD ns)), some (.shr (dN k)), some (.shr (dN L)), some (.shr (dN n)), some (.shr (.list (l.map dN))), some (.own (.list w)), some (.shr (dN x)), none, none] (sg.map dN) = some ((sg.map fun y => y % n).map dN) := fun w => by
      rw [List.map_map]
      exact lcL_map dN _ _ fun y _ => by
        have := mod_ii (i := (y : Int)) (j := (n : Int)) (by omega)
        simp only [dv, this]
        rfl
    have lo : ∀ w : List D, lcO (some (sg.map dN)) (gN 8) tYs (o2 modD (eW 8) (eW 3)) [some (.shr (scrD ns)), some (.shr (dN k)), some (.shr (dN L)), some (.shr (dN n)), some (.shr (.list (l.map dN))), some (.own (.list w)), some (.shr (dN x)), none, none] = some (.list ((sg.map fun y => y % n).map dN)) := fun w => by
      rw [lcO_s (by simp; omega), lc]
      rfl
    have tp : tupF [.list ((sg.map fun y => y % n).map dN)] = some (eR (sg.map fun y => y % n)) := rfl
    have it : itemsD (.list (sg.map dN)) = some (sg.map dN) := rfl
    have ap := appS_s (i := 5) (d := eR (sg.map fun y => y % n)) (ρ := [some (.shr (scrD ns)), some (.shr (dN k)), some (.shr (dN L)), some (.shr (dN n)), some (.shr (.list (l.map dN))), some (.own (.list (rows.map eR))), some (.shr (dN x)), none, none]) (ds := rows.map eR) (by simp; omega)
    have a2 := ad (x * L) L
    refine ⟨_, ?_, rows ++ [sg.map fun y => y % n], some (.shr (dN x)), rfl, by simp [h1], fun r hr => ?_⟩
    · simp only [L1_law_machine, dv, mu x L (by omega) (by omega), a2, s1, it, lo, tp, ap]
      rw [List.map_append]
      rfl
    · rcases List.mem_append.mp hr with z | z
      · exact h2 r z
      · rw [List.mem_singleton.mp z]
        refine ⟨by simp [s2], fun q hq => ?_⟩
        obtain ⟨y, _, rfl⟩ := List.mem_map.mp hq
        exact Nat.mod_lt _ hn0) (ρ := [some (.shr (scrD ns)), some (.shr (dN k)), some (.shr (dN L)), some (.shr (dN n)), some (.shr (.list (l.map dN))), some (.own (.list [])), none, none, none]) ⟨[], none, rfl, rfl, fun r hr => by cases hr⟩
  let f : Nat → Bool := fun p => decide (l.getD (n * L + p) 0 % 2 = 1)
  have lc : ∀ (w : D), lcL (gN 6) (toT (o2 eqD (o2 modD (o2 ixD (eW 4) (o2 addD (o2 mulD (eW 3) (eW 2)) (eW 6))) (eC (.int 2))) (eC (.int 1)))) (eV 6) [some (.shr (scrD ns)), some (.shr (dN k)), some (.shr (dN L)), some (.shr (dN n)), some (.shr (.list (l.map dN))), some (.own w), none, none, none] ((List.range n).map dN) = some (((List.range n).filter f).map dN) := fun w => by
    refine lcL_filter dN f dN (List.range n) (fun p hp => ?_) (fun p hp _ => by simp only [dv])
    have hp := List.mem_range.mp hp
    have i1 : ixD (.list (l.map dN)) (dN (n * L + p)) = some (dN (l.getD (n * L + p) 0)) := ix_numsL (by
      rw [List.getD_eq_getElem?_getD, List.getElem?_eq_getElem (by omega)]
      rfl)
    have i2 := mod_ii (i := ((l.getD (n * L + p) 0 : Nat) : Int)) (j := 2) (by decide)
    have i3 : eqD (.int (((l.getD (n * L + p) 0 : Nat) : Int) % 2)) (.int 1) = some (.bool (f p)) := by
      rw [eq_ii]
      congr 2
      exact decide_eq_decide.mpr (by omega)
    have ec : ((n * L : Nat) : Int) + (p : Int) = ((n * L + p : Nat) : Int) := by omega
    simp only [dv, mu n L hn (by omega), ec, i1, i2, i3]
  have lo : ∀ w : D, lcO (some ((List.range n).map dN)) (gN 6) (toT (o2 eqD (o2 modD (o2 ixD (eW 4) (o2 addD (o2 mulD (eW 3) (eW 2)) (eW 6))) (eC (.int 2))) (eC (.int 1)))) (eV 6) [some (.shr (scrD ns)), some (.shr (dN k)), some (.shr (dN L)), some (.shr (dN n)), some (.shr (.list (l.map dN))), some (.own w), none, none, none] = some (.list (((List.range n).filter f).map dN)) := fun w => by
    rw [lcO_s (by simp; omega), lc]
    rfl
  refine ⟨⟨L, rows, (List.range n).filter f⟩, ?_, ⟨hL0, hL, ?_, ?_, fun r hr => (h2 r hr).1, fun r hr q hq => ?_⟩, rfl, ?_, f, rfl⟩
  · have e9 := ad (n * L) n
    have tp : tupF [.list (rows.map eR)] = some (.tuple (rows.map eR)) := rfl
    have tq : tupF [.list (((List.range n).filter f).map dN)] = some (.tuple (((List.range n).filter f).map dN)) := rfl
    simp only [dv, dv0, mu n L hn (by omega), e9, m2, d1, r1, e, lo, tp, tq]
    rfl
  · show 0 < rows.length
    rw [h1, List.length_range]
    exact hn0
  · show rows.length ≤ 1000
    rw [h1, List.length_range]
    exact hn
  · show q < rows.length
    rw [h1, List.length_range]
    exact (h2 r hr).2 q hq
  · show rows.length = n
    rw [h1, List.length_range]
end LM

set_option Elab.async false
set_option linter.all false
/-! MN: least machines in plain Lean: states that no word parts; what a least machine is. -/
namespace MN
open MM
section
variable {m : Mc}
def sim (m : Mc) (p q : Nat) : Prop := ∀ w, okw m.L w → (m.run p w ∈ m.fin ↔ m.run q w ∈ m.fin)
theorem sim.refl (p : Nat) : sim m p p := fun _ _ => Iff.rfl
theorem sim.symm {p q : Nat} (h : sim m p q) : sim m q p := fun w hw => (h w hw).symm
theorem sim.trans {p q r : Nat} (h : sim m p q) (g : sim m q r) : sim m p r := fun w hw => (h w hw).trans (g w hw)
theorem sim.fin {p q : Nat} (h : sim m p q) : p ∈ m.fin ↔ q ∈ m.fin := h [] okw.nil
theorem sim.to {p q i : Nat} (h : sim m p q) (hi : i < m.L) : sim m (m.to p i) (m.to q i) := fun w hw => h (i :: w) fun c hc => by
  rcases List.mem_cons.mp hc with rfl | hc
  · exact hi
  · exact hw c hc
def reach (m : Mc) (q : Nat) : Prop := ∃ w, okw m.L w ∧ m.run 0 w = q
theorem reach.zero : reach m 0 := ⟨[], okw.nil, rfl⟩
theorem reach.to {q i : Nat} (h : reach m q) (hi : i < m.L) : reach m (m.to q i) := by
  obtain ⟨w, hw, rfl⟩ := h
  exact ⟨w ++ [i], hw.app (okw.one hi), run_snoc ..⟩
theorem reach.lt {q : Nat} (h : reach m q) (ok : m.Ok) : q < m.n := by
  obtain ⟨w, hw, rfl⟩ := h
  exact ok.run_lt w ok.pos hw
/-- closed lists of states -/
theorem closed_run {R : List Nat} (h0 : 0 ∈ R) (hc : ∀ q ∈ R, ∀ i < m.L, m.to q i ∈ R) : ∀ (w : List Nat), okw m.L w → m.run 0 w ∈ R := by
  have gen : ∀ (w : List Nat) (q : Nat), q ∈ R → okw m.L w → m.run q w ∈ R := by
    intro w
    induction w with
    | nil => exact fun q hq _ => hq
    | cons c w ih => exact fun q hq hw => ih _ (hc q hq c (hw c List.mem_cons_self)) fun x hx => hw x (List.mem_cons_of_mem _ hx)
  exact fun w hw => gen w 0 h0 hw
/-- a congruence that minds the final states is within sim -/
theorem sim_of {R : List Nat} {E : Nat → Nat → Prop} (hR : ∀ q ∈ R, ∀ i < m.L, m.to q i ∈ R) (hf : ∀ p ∈ R, ∀ q ∈ R, E p q → (p ∈ m.fin ↔ q ∈ m.fin)) (hE : ∀ p ∈ R, ∀ q ∈ R, E p q → ∀ i < m.L, E (m.to p i) (m.to q i)) :
    ∀ (w : List Nat) (p q : Nat), p ∈ R → q ∈ R → E p q → okw m.L w → (m.run p w ∈ m.fin ↔ m.run q w ∈ m.fin)
  | [], p, q, hp, hq, e, _ => hf p hp q hq e
  | c :: w, p, q, hp, hq, e, hw => sim_of hR hf hE w _ _ (hR p hp c (hw c List.mem_cons_self)) (hR q hq c (hw c List.mem_cons_self)) (hE p hp q hq e c (hw c List.mem_cons_self)) fun x hx => hw x (List.mem_cons_of_mem _ hx)
/-! ### what a least machine is -/
structure LeastOf (m s : Mc) : Prop where
  ok : s.Ok
  L : s.L = m.L
  lang : ∀ w, okw m.L w → (s.run 0 w ∈ s.fin ↔ m.run 0 w ∈ m.fin)
  reach : ∀ q, q < s.n → ∃ w, okw m.L w ∧ s.run 0 w = q
  dist : ∀ p q, p < s.n → q < s.n → sim s p q → p = q
  finlt : ∀ q ∈ s.fin, q < s.n
def made (m : Mc) (ch : List Nat) (idx : Nat → Nat) : Mc :=
  ⟨m.L, ch.map fun c => (List.range m.L).map fun i => idx (m.to c i), (List.range ch.length).filter fun j => decide (ch.getD j 0 ∈ m.fin)⟩
theorem made_to {ch : List Nat} {idx : Nat → Nat} {j i : Nat} (hj : j < ch.length) (hi : i < m.L) : (made m ch idx).to j i = idx (m.to (ch.getD j 0) i) := by
  have e1 : (ch.map fun c => (List.range m.L).map fun i => idx (m.to c i)).getD j [] = (List.range m.L).map fun i => idx (m.to (ch.getD j 0) i) := by
    rw [List.getD_eq_getElem?_getD, List.getElem?_map, List.getD_eq_getElem?_getD, List.getElem?_eq_getElem hj]
    rfl
  show (List.getD ((ch.map fun c => (List.range m.L).map fun i => idx (m.to c i)).getD j []) i 0) = _
  rw [e1, List.getD_eq_getElem?_getD, List.getElem?_map, List.getElem?_range hi]
  rfl
theorem made_fin {ch : List Nat} {idx : Nat → Nat} {j : Nat} (hj : j < ch.length) : j ∈ (made m ch idx).fin ↔ ch.getD j 0 ∈ m.fin := by
  unfold made
  simp [hj]
theorem least_of (ok : m.Ok) {ch : List Nat} {idx : Nat → Nat} (hlen : ch.length ≤ 1000) (h0 : idx 0 = 0) (hidx : ∀ q, MN.reach m q → idx q < ch.length ∧ sim m (ch.getD (idx q) 0) q) (hch : ∀ j, j < ch.length → MN.reach m (ch.getD j 0))
    (hd : ∀ j k, j < ch.length → k < ch.length → sim m (ch.getD j 0) (ch.getD k 0) → j = k) : LeastOf m (made m ch idx) := by
  have hn : (made m ch idx).n = ch.length := by simp [made, Mc.n]
  -- states with the same words have the same index
  have same : ∀ p q, MN.reach m p → MN.reach m q → sim m p q → idx p = idx q := fun p q hp hq s => by
    obtain ⟨a1, a2⟩ := hidx p hp
    obtain ⟨b1, b2⟩ := hidx q hq
    exact hd _ _ a1 b1 ((a2.trans s).trans b2.symm)
  have step : ∀ (w : List Nat) (q : Nat), MN.reach m q → okw m.L w → (made m ch idx).run (idx q) w = idx (m.run q w) := by
    intro w
    induction w with
    | nil => exact fun q _ _ => rfl
    | cons c w ih =>
      intro q hq hw
      have hc := hw c List.mem_cons_self
      obtain ⟨a1, a2⟩ := hidx q hq
      rw [run_cons, run_cons, made_to a1 hc, same _ _ ((hch _ a1).to hc) (hq.to hc) (a2.to hc)]
      exact ih _ (hq.to hc) fun x hx => hw x (List.mem_cons_of_mem _ hx)
  have back : ∀ j, j < ch.length → idx (ch.getD j 0) = j := fun j hj => by
    obtain ⟨a1, a2⟩ := hidx _ (hch j hj)
    exact hd _ _ a1 hj a2
  have fin : ∀ q, MN.reach m q → (idx q ∈ (made m ch idx).fin ↔ q ∈ m.fin) := fun q hq => by
    obtain ⟨a1, a2⟩ := hidx q hq
    rw [made_fin a1]
    exact a2.fin
  have lang : ∀ (w : List Nat) (q : Nat), MN.reach m q → okw m.L w → ((made m ch idx).run (idx q) w ∈ (made m ch idx).fin ↔ m.run q w ∈ m.fin) := fun w q hq hw => by
    rw [step w q hq hw]
    obtain ⟨u, hu, rfl⟩ := hq
    exact fin _ ⟨u ++ w, hu.app hw, run_app ..⟩
  refine ⟨⟨ok.L1, ok.L3, ?_, by rw [hn]; exact hlen, fun r hr => ?_, fun r hr q hq => ?_⟩, rfl, fun w hw => ?_, fun q hq => ?_, fun p q hp hq s => ?_, fun q hq => ?_⟩
  · rw [hn]
    exact Nat.lt_of_le_of_lt (Nat.zero_le _) (hidx 0 reach.zero).1
  · obtain ⟨c, _, rfl⟩ := List.mem_map.mp hr
    simp [made]
  · obtain ⟨c, hc, rfl⟩ := List.mem_map.mp hr
    obtain ⟨i, hi, rfl⟩ := List.mem_map.mp hq
    obtain ⟨j, hj, e⟩ := List.mem_iff_getElem.mp hc
    have hcr := hch j hj
    rw [List.getD_eq_getElem?_getD, List.getElem?_eq_getElem hj] at hcr
    simp only [Option.getD_some] at hcr
    rw [e] at hcr
    rw [hn]
    exact (hidx _ (hcr.to (List.mem_range.mp hi))).1
  · have := lang w 0 reach.zero hw
    rwa [h0] at this
  · rw [hn] at hq
    obtain ⟨w, hw, e⟩ := hch q hq
    refine ⟨w, hw, ?_⟩
    have := step w 0 reach.zero hw
    rw [h0] at this
    rw [this, e, back q hq]
  · rw [hn] at hp hq
    refine hd p q hp hq fun w hw => ?_
    have h1 := lang w _ (hch p hp) hw
    have h2 := lang w _ (hch q hq) hw
    rw [back p hp] at h1
    rw [back q hq] at h2
    rw [← h1, ← h2]
    exact s w hw
  · rw [hn]
    exact List.mem_range.mp (List.mem_filter.mp hq).1
/-! ### deeds of words on a least machine -/
theorem deed_iff {s : Mc} (h : LeastOf m s) {u v : List Nat} (hu : okw m.L u) (hv : okw m.L v) : s.deed u = s.deed v ↔ ∀ x y, okw m.L x → okw m.L y → (m.run 0 (x ++ u ++ y) ∈ m.fin ↔ m.run 0 (x ++ v ++ y) ∈ m.fin) := by
  have hL := h.L
  constructor
  · intro e x y hx hy
    rw [← h.lang _ ((hx.app hu).app hy), ← h.lang _ ((hx.app hv).app hy), run_app, run_app, run_app, run_app]
    have hq : s.run 0 x < s.n := h.ok.run_lt x h.ok.pos (by rw [hL]; exact hx)
    have e1 := deed_at (w := u) hq
    rw [e, deed_at hq] at e1
    rw [Option.some.inj e1]
  · intro g
    refine List.map_congr_left fun q hq => ?_
    have hq := List.mem_range.mp hq
    obtain ⟨x, hx, e⟩ := h.reach q hq
    refine h.dist _ _ (h.ok.run_lt u hq (by rw [hL]; exact hu)) (h.ok.run_lt v hq (by rw [hL]; exact hv)) fun y hy => ?_
    rw [hL] at hy
    have := g x y hx hy
    rw [← h.lang _ ((hx.app hu).app hy), ← h.lang _ ((hx.app hv).app hy), run_app, run_app, run_app, run_app, e] at this
    exact this
end
/-! ### first occurrences -/
section
variable {α : Type} [DecidableEq α]
def ded : List α → List α
  | [] => []
  | x :: l => x :: (ded l).filter fun y => !decide (y = x)
theorem mem_ded : ∀ {l : List α} {x : α}, x ∈ ded l ↔ x ∈ l
  | [], x => by simp [ded]
  | y :: l, x => by
    rw [ded, List.mem_cons, List.mem_cons, List.mem_filter, mem_ded (l := l)]
    by_cases e : x = y
    · simp [e]
    · simp [e]
theorem nodup_ded : ∀ l : List α, (ded l).Nodup
  | [] => .nil
  | y :: l => by
    rw [ded, List.nodup_cons]
    exact ⟨by simp, (nodup_ded l).filter _⟩
theorem ded_len_le : ∀ l : List α, (ded l).length ≤ l.length
  | [] => Nat.le_refl _
  | y :: l => by
    rw [ded, List.length_cons, List.length_cons]
    exact Nat.succ_le_succ (Nat.le_trans (List.length_filter_le _ _) (ded_len_le l))
theorem len_le : ∀ {l m : List α}, l.Nodup → (∀ x ∈ l, x ∈ m) → l.length ≤ m.length
  | [], _, _, _ => Nat.zero_le _
  | x :: l, m, hn, h => by
    rw [List.nodup_cons] at hn
    have hx := h x List.mem_cons_self
    have := len_le (l := l) (m := m.erase x) hn.2 fun y hy => by
      have e : y ≠ x := fun e => hn.1 (e ▸ hy)
      exact (List.mem_erase_of_ne e).mpr (h y (List.mem_cons_of_mem _ hy))
    rw [List.length_erase_of_mem hx] at this
    have hp := List.length_pos_of_mem hx
    rw [List.length_cons]
    omega
/-- a finer map with no more values is no finer -/
theorem fine {R : List Nat} {f g : Nat → Nat} (h : ∀ p ∈ R, ∀ q ∈ R, g p = g q → f p = f q) (hl : (ded (R.map g)).length ≤ (ded (R.map f)).length) : ∀ p ∈ R, ∀ q ∈ R, f p = f q → g p = g q := by
  intro p hp q hq e
  refine Classical.not_not.mp fun hne => ?_
  -- a value of f for each value of g
  let r : Nat → Nat := fun v => f ((R.find? fun x => decide (g x = v)).getD 0)
  have hr : ∀ x ∈ R, r (g x) = f x := fun x hx => by
    show f ((R.find? fun y => decide (g y = g x)).getD 0) = f x
    cases hf : R.find? (fun y => decide (g y = g x)) with
    | none =>
      have := List.find?_eq_none.mp hf x hx
      simp at this
    | some y =>
      have h1 := List.find?_some hf
      have h2 := List.mem_of_find?_eq_some hf
      exact h y h2 x hx (by simpa using h1)
  have hsub : ∀ y ∈ ded (R.map f), y ∈ ((ded (R.map g)).erase (g q)).map r := fun y hy => by
    obtain ⟨x, hx, rfl⟩ := List.mem_map.mp (mem_ded.mp hy)
    by_cases ex : g x = g q
    · refine List.mem_map.mpr ⟨g p, (List.mem_erase_of_ne hne).mpr (mem_ded.mpr (List.mem_map.mpr ⟨p, hp, rfl⟩)), ?_⟩
      rw [hr p hp, e]
      exact h q hq x hx ex.symm
    · exact List.mem_map.mpr ⟨g x, (List.mem_erase_of_ne ex).mpr (mem_ded.mpr (List.mem_map.mpr ⟨x, hx, rfl⟩)), hr x hx⟩
  have h1 := len_le (nodup_ded _) hsub
  have hq' : g q ∈ ded (R.map g) := mem_ded.mpr (List.mem_map.mpr ⟨q, hq, rfl⟩)
  rw [List.length_map, List.length_erase_of_mem hq'] at h1
  have := List.length_pos_of_mem hq'
  omega
end
end MN

set_option Elab.async false
set_option linter.all false
/-! MO: least machines numbered in the short order. -/
namespace MN
open MM
section
variable {α β : Type} [DecidableEq α] [DecidableEq β]
theorem ded_map {g : α → β} : ∀ {l : List α}, (∀ x ∈ l, ∀ y ∈ l, g x = g y → x = y) → ded (l.map g) = (ded l).map g
  | [], _ => rfl
  | x :: l, h => by
    rw [List.map_cons, ded, ded, List.map_cons, ded_map (l := l) fun a ha b hb => h a (List.mem_cons_of_mem _ ha) b (List.mem_cons_of_mem _ hb)]
    congr 1
    rw [List.filter_map]
    congr 1
    refine List.filter_congr fun y hy => ?_
    have hy := mem_ded.mp hy
    simp only [Function.comp_def]
    congr 1
    refine decide_eq_decide.mpr ⟨fun e => h y (List.mem_cons_of_mem _ hy) x List.mem_cons_self e, fun e => by rw [e]⟩
theorem ded_snoc : ∀ (l : List α) (x : α), ded (l ++ [x]) = if x ∈ l then ded l else ded l ++ [x]
  | [], x => by simp [ded]
  | y :: l, x => by
    rw [List.cons_append, ded, ded_snoc l x]
    by_cases h : x ∈ l
    · rw [if_pos h, if_pos (List.mem_cons_of_mem _ h)]
      rfl
    · rw [if_neg h]
      by_cases e : x = y
      · subst e
        rw [if_pos List.mem_cons_self, List.filter_append, ded]
        simp
      · rw [if_neg (by simp [e, h]), List.filter_append, ded]
        simp [e]
theorem ded_pre : ∀ (r l : List α), ∃ t, ded (l ++ r) = ded l ++ t
  | [], l => ⟨[], by simp⟩
  | x :: r, l => by
    obtain ⟨t, e⟩ := ded_pre r (l ++ [x])
    rw [List.append_assoc, List.singleton_append] at e
    rw [e, ded_snoc]
    split
    · exact ⟨t, rfl⟩
    · exact ⟨x :: t, by simp⟩
end
section
variable {α : Type} [BEq α] [LawfulBEq α]
theorem idx_inj {l : List α} {x y : α} (hx : x ∈ l) (h : l.idxOf x = l.idxOf y) : x = y := by
  have h1 := List.getElem_idxOf (List.idxOf_lt_length_of_mem hx)
  have h2 : l.idxOf y < l.length := h ▸ List.idxOf_lt_length_of_mem hx
  have h3 := List.getElem_idxOf h2
  rw [← h1, ← h3]
  congr 1
theorem idx_app_mem {l t : List α} {x : α} (h : x ∈ l) : (l ++ t).idxOf x = l.idxOf x := by
  rw [List.idxOf_append, if_pos h]
theorem idx_app_new {l t : List α} {x : α} (h : x ∉ l) : (l ++ x :: t).idxOf x = l.length := by
  rw [List.idxOf_append, if_neg h, List.idxOf_cons_self]
  omega
theorem nodup_ix {α : Type} {l : List α} (hn : l.Nodup) {i j : Nat} (hi : i < l.length) (hj : j < l.length) (e : l[i] = l[j]) : i = j := by
  have h := List.pairwise_iff_getElem.mp hn
  rcases Nat.lt_trichotomy i j with z | z | z
  · exact absurd e (h i j hi hj z)
  · exact z
  · exact absurd e.symm (h j i hj hi z)
theorem idx_at {l : List α} (hn : l.Nodup) {j : Nat} (h : j < l.length) : l.idxOf l[j] = j := by
  have h1 : l.idxOf l[j] < l.length := List.idxOf_lt_length_of_mem (List.getElem_mem h)
  have h2 := List.getElem_idxOf h1
  exact nodup_ix hn h1 h h2
theorem map_idx {l : List α} (hn : l.Nodup) : l.map (fun x => l.idxOf x) = List.range l.length := by
  apply List.ext_getElem?
  intro j
  by_cases h : j < l.length
  · rw [List.getElem?_map, List.getElem?_eq_getElem h, List.getElem?_range h, Option.map_some, idx_at hn h]
  · rw [List.getElem?_eq_none (by simpa using h), List.getElem?_eq_none (by simpa using h)]
end
/-- states are numbered as they come up first in the rows -/
def canon (s : Mc) : Prop := ded (0 :: s.rows.flatten) = List.range s.n ∧ s.fin = (List.range s.n).filter fun q => decide (q ∈ s.fin)
/-- what comes up in the rows of chosen states -/
def comes (m : Mc) (f : Nat → Nat) (ch : List Nat) : List Nat := f 0 :: ch.flatMap fun c => (List.range m.L).map fun i => f (m.to c i)
def idxF (f : Nat → Nat) (ch : List Nat) (q : Nat) : Nat := (ch.map f).idxOf (f q)
theorem least_of_f {m : Mc} (ok : m.Ok) {f : Nat → Nat} {ch : List Nat} (hf : ∀ p q, reach m p → reach m q → (f p = f q ↔ sim m p q)) (hch : ∀ c ∈ ch, reach m c) (h : ch.map f = ded (comes m f ch)) (hlen : ch.length ≤ 1000) :
    LeastOf m (made m ch (idxF f ch)) ∧ canon (made m ch (idxF f ch)) := by
  have nd : (ch.map f).Nodup := by rw [h]; exact nodup_ded _
  have mem0 : f 0 ∈ ch.map f := by rw [h, mem_ded]; exact List.mem_cons_self
  have hcl : ∀ c ∈ ch, ∀ i < m.L, f (m.to c i) ∈ ch.map f := fun c hc i hi => by
    rw [h, mem_ded]
    exact List.mem_cons_of_mem _ (List.mem_flatMap.mpr ⟨c, hc, List.mem_map.mpr ⟨i, List.mem_range.mpr hi, rfl⟩⟩)
  have rep : ∀ q, reach m q → f q ∈ ch.map f := fun q ⟨w, hw, e⟩ => by
    subst e
    have gen : ∀ (w : List Nat) (p : Nat), reach m p → f p ∈ ch.map f → okw m.L w → f (m.run p w) ∈ ch.map f := by
      intro w
      induction w with
      | nil => exact fun p _ hp _ => hp
      | cons c w ih =>
        intro p hr hp hw
        have hc := hw c List.mem_cons_self
        obtain ⟨d, hd, e⟩ := List.mem_map.mp hp
        have hs := (hf d p (hch d hd) hr).mp e
        have e2 := (hf _ _ ((hch d hd).to hc) (hr.to hc)).mpr (hs.to hc)
        exact ih _ (hr.to hc) (e2 ▸ hcl d hd c hc) fun x hx => hw x (List.mem_cons_of_mem _ hx)
    exact gen w 0 reach.zero mem0 hw
  have at_ : ∀ j (hj : j < ch.length), ch.getD j 0 = ch[j] := fun j hj => by rw [List.getD_eq_getElem?_getD, List.getElem?_eq_getElem hj]; rfl
  have hidx : ∀ q, reach m q → idxF f ch q < ch.length ∧ sim m (ch.getD (idxF f ch q) 0) q := fun q hq => by
    have h1 := rep q hq
    have h2 : (ch.map f).idxOf (f q) < (ch.map f).length := List.idxOf_lt_length_of_mem h1
    have h3 := List.getElem_idxOf h2
    rw [List.getElem_map] at h3
    have h2' : idxF f ch q < ch.length := by
      show (ch.map f).idxOf (f q) < ch.length
      simpa using h2
    refine ⟨h2', ?_⟩
    rw [at_ _ h2']
    exact (hf _ _ (hch _ (List.getElem_mem h2')) hq).mp h3
  have hn : (made m ch (idxF f ch)).n = ch.length := by simp [made, Mc.n]
  refine ⟨least_of ok hlen ?_ hidx (fun j hj => by rw [at_ j hj]; exact hch _ (List.getElem_mem hj)) fun j k hj hk s => ?_, ?_⟩
  · show (ch.map f).idxOf (f 0) = 0
    rw [h]
    unfold comes
    rw [ded, List.idxOf_cons_self]
  · rw [at_ j hj, at_ k hk] at s
    have e := (hf _ _ (hch _ (List.getElem_mem hj)) (hch _ (List.getElem_mem hk))).mpr s
    have : (ch.map f)[j]'(by simpa using hj) = (ch.map f)[k]'(by simpa using hk) := by rw [List.getElem_map, List.getElem_map, e]
    exact nodup_ix nd _ _ this
  · unfold canon
    rw [hn]
    refine ⟨?_, List.filter_congr fun j hj => decide_eq_decide.mpr (by rw [made_fin (List.mem_range.mp hj)])⟩
    have e : 0 :: (made m ch (idxF f ch)).rows.flatten = (comes m f ch).map fun v => (ch.map f).idxOf v := by
      unfold comes
      rw [List.map_cons]
      congr 1
      · rw [h]
        unfold comes
        rw [ded, List.idxOf_cons_self]
      · unfold made
        show (ch.map fun c => (List.range m.L).map fun i => idxF f ch (m.to c i)).flatten = _
        rw [List.map_flatMap, List.flatMap_def]
        congr 1
        refine List.map_congr_left fun c _ => ?_
        rw [List.map_map]
        rfl
    rw [e, ded_map fun x hx y hy hxy => idx_inj (by rw [h]; exact mem_ded.mpr hx) hxy, ← h, map_idx nd, List.length_map]
end MN

set_option Elab.async false
set_option linter.all false
set_option maxRecDepth 100000
/-! MU: two least machines of one language that are numbered in the short order are the same. -/
namespace MN
open MM
section
variable {m s t : Mc}
/-- words that lead to one state of the one lead to one state of the other -/
theorem follow (h : LeastOf m s) (g : LeastOf m t) {u v : List Nat} (hu : okw m.L u) (hv : okw m.L v) (e : s.run 0 u = s.run 0 v) : t.run 0 u = t.run 0 v := by
  have lu : ∀ {w}, okw m.L w → okw t.L w := fun {w} hw => by rw [g.L]; exact hw
  refine g.dist _ _ (g.ok.run_lt u g.ok.pos (lu hu)) (g.ok.run_lt v g.ok.pos (lu hv)) fun w hw => ?_
  have hw : okw m.L w := by rw [g.L] at hw; exact hw
  rw [← run_app, ← run_app, g.lang _ (hu.app hw), g.lang _ (hv.app hw), ← h.lang _ (hu.app hw), ← h.lang _ (hv.app hw), run_app, run_app, e]
theorem exists_map (h : LeastOf m s) (g : LeastOf m t) : ∃ f : Nat → Nat, ∀ w, okw m.L w → f (s.run 0 w) = t.run 0 w := by
  classical
  refine ⟨fun q => if hq : ∃ w, okw m.L w ∧ s.run 0 w = q then t.run 0 hq.choose else 0, fun w hw => ?_⟩
  have hq : ∃ w', okw m.L w' ∧ s.run 0 w' = s.run 0 w := ⟨w, hw, rfl⟩
  show (if hq : ∃ w', okw m.L w' ∧ s.run 0 w' = s.run 0 w then t.run 0 hq.choose else 0) = _
  rw [dif_pos hq]
  exact follow h g hq.choose_spec.1 hw hq.choose_spec.2
theorem n_le (h : LeastOf m s) (g : LeastOf m t) : s.n ≤ t.n := by
  obtain ⟨f, hf⟩ := exists_map h g
  have inj : ∀ p q, p < s.n → q < s.n → f p = f q → p = q := fun p q hp hq e => by
    obtain ⟨u, hu, rfl⟩ := h.reach p hp
    obtain ⟨v, hv, rfl⟩ := h.reach q hq
    rw [hf u hu, hf v hv] at e
    exact follow g h hu hv e
  have nd : ((List.range s.n).map f).Nodup := by
    refine List.Pairwise.map f (R := fun a b => a < s.n ∧ b < s.n ∧ a ≠ b) (fun a b ⟨ha, hb, hab⟩ e => hab (inj a b ha hb e)) ?_
    refine List.Pairwise.imp_of_mem (fun {a b} ha hb hab => ⟨List.mem_range.mp ha, List.mem_range.mp hb, hab⟩) (List.nodup_range (n := s.n))
  have := len_le (m := List.range t.n) nd fun x hx => by
    obtain ⟨q, hq, rfl⟩ := List.mem_map.mp hx
    obtain ⟨u, hu, rfl⟩ := h.reach q (List.mem_range.mp hq)
    rw [hf u hu]
    exact List.mem_range.mpr (g.ok.run_lt u g.ok.pos (by rw [g.L]; exact hu))
  simpa using this
theorem rows_at (ok : m.Ok) {q : Nat} (hq : q < m.n) : m.rows[q]? = some ((List.range m.L).map (m.to q)) := by
  rw [(ok.row_at hq).1]
  refine congrArg some (List.ext_getElem? fun i => ?_)
  by_cases hi : i < m.L
  · rw [ok.to_at hq hi, List.getElem?_map, List.getElem?_range hi]
    rfl
  · rw [List.getElem?_eq_none (by rw [(ok.row_at hq).2]; omega), List.getElem?_eq_none (by simp; omega)]
theorem range_pre {c n : Nat} {e l : List Nat} (h : List.range n = l ++ e) (hl : l.length = c) : l = List.range c := by
  have h1 := congrArg (List.take c) h
  rw [List.take_left' hl, List.take_range] at h1
  have h2 := congrArg List.length h
  rw [List.length_range, List.length_append] at h2
  rw [← h1, Nat.min_eq_left (by omega)]
/-- the states that come up in the first rows -/
theorem ded_take {s : Mc} (hc : canon s) (k : Nat) : ded (0 :: (s.rows.take k).flatten) = List.range (ded (0 :: (s.rows.take k).flatten)).length := by
  obtain ⟨e, he⟩ := ded_pre (s.rows.drop k).flatten (0 :: (s.rows.take k).flatten)
  rw [List.cons_append, ← List.flatten_append, List.take_append_drop, hc.1] at he
  exact range_pre he rfl
theorem all_same (h : LeastOf m s) (g : LeastOf m t) (hc : canon s) (gc : canon t) {f : Nat → Nat} (hf : ∀ w, okw m.L w → f (s.run 0 w) = t.run 0 w) : ∀ k, k < s.n → ∀ j, j ≤ k → f j = j := by
  have en : s.n = t.n := Nat.le_antisymm (n_le h g) (n_le g h)
  have step : ∀ q i, q < s.n → i < m.L → f (s.to q i) = t.to (f q) i := fun q i hq hi => by
    obtain ⟨u, hu, rfl⟩ := h.reach q hq
    rw [← run_snoc, hf _ (hu.app (okw.one hi)), run_snoc, hf u hu]
  have inj : ∀ p q, p < s.n → q < s.n → f p = f q → p = q := fun p q hp hq e => by
    obtain ⟨u, hu, rfl⟩ := h.reach p hp
    obtain ⟨v, hv, rfl⟩ := h.reach q hq
    rw [hf u hu, hf v hv] at e
    exact follow g h hu hv e
  intro k
  induction k with
  | zero =>
    intro _ j hj
    have : j = 0 := by omega
    subst this
    exact hf [] okw.nil
  | succ k ih =>
    intro hk j hj
    by_cases hjk : j ≤ k
    · exact ih (by omega) j hjk
    have : j = k + 1 := by omega
    subst this
    have ih := ih (by omega)
    -- the first rows
    have erow : ∀ n, n ≤ k + 1 → t.rows.take n = (s.rows.take n).map fun r => r.map f := by
      intro n
      induction n with
      | zero => intro _; simp
      | succ n ihn =>
        intro hn
        have hns : n < s.n := by omega
        rw [List.take_add_one, List.take_add_one, ihn (by omega), List.map_append, rows_at h.ok hns, rows_at g.ok (by omega)]
        congr 1
        show [(List.range t.L).map (t.to n)] = [((List.range s.L).map (s.to n)).map f]
        rw [g.L, h.L, List.map_map]
        congr 1
        refine List.map_congr_left fun i hi => ?_
        show t.to n i = f (s.to n i)
        rw [step n i hns (List.mem_range.mp hi), ih n (by omega)]
    have hlt : ∀ x ∈ 0 :: (s.rows.take (k + 1)).flatten, x < s.n := fun x hx => by
      rcases List.mem_cons.mp hx with rfl | hx
      · exact h.ok.pos
      · obtain ⟨r, hr, hxr⟩ := List.mem_flatten.mp hx
        exact h.ok.st r (List.mem_of_mem_take hr) x hxr
    have el : 0 :: (t.rows.take (k + 1)).flatten = (0 :: (s.rows.take (k + 1)).flatten).map f := by
      rw [erow (k + 1) (Nat.le_refl _), List.map_cons, show f 0 = 0 from hf [] okw.nil, List.map_flatten]
    have e1 := ded_map (g := f) (l := 0 :: (s.rows.take (k + 1)).flatten) fun x hx y hy e => inj x y (hlt x hx) (hlt y hy) e
    rw [← el] at e1
    have d1 := ded_take hc (k + 1)
    have d2 := ded_take gc (k + 1)
    generalize hcn : (ded (0 :: (s.rows.take (k + 1)).flatten)).length = c at d1
    -- the state comes up in these rows
    have hck : k + 1 < c := by
      rcases Nat.lt_or_ge (k + 1) c with z | z
      · exact z
      · exfalso
        have cl : ∀ w, okw m.L w → s.run 0 w < c := fun w hw => by
          have hm := closed_run (m := s) (R := List.range c) (by
            rw [← d1, mem_ded]
            exact List.mem_cons_self) (fun q hq i hi => by
            have hqc := List.mem_range.mp hq
            have hqn : q < s.n := by omega
            rw [← d1, mem_ded]
            refine List.mem_cons_of_mem _ (List.mem_flatten.mpr ⟨_, List.mem_of_getElem? (i := q) (by rw [List.getElem?_take_of_lt (by omega)]; exact rows_at h.ok hqn), List.mem_map.mpr ⟨i, List.mem_range.mpr hi, rfl⟩⟩)) w (by rw [h.L]; exact hw)
          exact List.mem_range.mp hm
        obtain ⟨w, hw, e⟩ := h.reach (k + 1) hk
        have := cl w hw
        omega
    rw [d1] at e1
    rw [d2] at e1
    have l2 : (ded (0 :: (t.rows.take (k + 1)).flatten)).length = c := by
      have := congrArg List.length e1
      simpa using this
    rw [l2] at e1
    have := congrArg (fun l => l[k + 1]?) e1
    simp only [List.getElem?_map, List.getElem?_range hck] at this
    exact (Option.some.inj this).symm
theorem canon_uniq (h : LeastOf m s) (g : LeastOf m t) (hc : canon s) (gc : canon t) : s = t := by
  have en : s.n = t.n := Nat.le_antisymm (n_le h g) (n_le g h)
  obtain ⟨f, hf⟩ := exists_map h g
  have hid := all_same h g hc gc hf
  have id' : ∀ q, q < s.n → f q = q := fun q hq => hid q hq q (Nat.le_refl _)
  have erun : ∀ w, okw m.L w → s.run 0 w = t.run 0 w := fun w hw => by
    rw [← hf w hw, id' _ (h.ok.run_lt w h.ok.pos (by rw [h.L]; exact hw))]
  have eto : ∀ q i, q < s.n → i < m.L → s.to q i = t.to q i := fun q i hq hi => by
    obtain ⟨u, hu, rfl⟩ := h.reach q hq
    rw [← run_snoc, erun _ (hu.app (okw.one hi)), run_snoc, erun u hu]
  have eL : s.L = t.L := h.L.trans g.L.symm
  have erows : s.rows = t.rows := by
    refine List.ext_getElem? fun q => ?_
    by_cases hq : q < s.n
    · rw [rows_at h.ok hq, rows_at g.ok (by omega), eL]
      refine congrArg some (List.map_congr_left fun i hi => eto q i hq ?_)
      rw [← g.L]
      exact List.mem_range.mp hi
    · rw [List.getElem?_eq_none (show s.rows.length ≤ q by have : s.n = s.rows.length := rfl; omega), List.getElem?_eq_none (show t.rows.length ≤ q by have : t.n = t.rows.length := rfl; have : s.n = s.rows.length := rfl; omega)]
  have efin : ∀ q, q < s.n → (q ∈ s.fin ↔ q ∈ t.fin) := fun q hq => by
    obtain ⟨u, hu, rfl⟩ := h.reach q hq
    have e := erun u hu
    rw [h.lang u hu, ← g.lang u hu, e]
  have ef : s.fin = t.fin := by
    rw [hc.2, gc.2, ← en]
    exact List.filter_congr fun q hq => decide_eq_decide.mpr (by
      have hq := List.mem_range.mp hq
      exact efin q hq)
  cases s
  cases t
  cases eL
  cases erows
  cases ef
  rfl
end
end MN

set_option Elab.async false
set_option linter.all false
noncomputable section
namespace LN
open PySem L2 DV
def b_law_accepts : FS :=
    (sRet (o2 inD (eCall LM.F_law_state (lC (eV 0) (lC (eC (.int 0)) (lC (eV 1) lN)))) (o2 ixD (eW 0) (eC (.int 2)))))
def F_law_accepts : List D → Option D := callF 2 2 b_law_accepts
def L1_access_from : FS :=
    (sSeq (sAsg (o2 ixD (o2 ixD (o2 ixD (eW 0) (eC (.int 1))) (eW 5)) (eW 6)) (gN 7))
    (sIf (toT (o2 isD (o2 ixD (eW 2) (eW 7)) (eC .none))) (sSeq (sPut 2 (eV 7) (o2 addD (o2 ixD (eW 2) (eW 5)) (o2 ixD (eC (.str "abc")) (eW 6))))
    (sApp 3 (eV 7))) sNx))
def L2_access_from : FS :=
    (sSeq (sAsg (o2 ixD (eW 3) (eW 4)) (gN 5))
    (sSeq (sFor (iCall rng1 (lC (o2 ixD (eW 0) (eC (.int 0))) lN)) (gN 6) L1_access_from)
    (sAsg (o2 addD (eW 4) (eC (.int 1))) (gN 4))))
def b_access_from : FS :=
    (sSeq (sOwn 2 (eLc [5] (iAny (o2 ixD (eW 0) (eC (.int 1)))) (gN 5) tYs (eC .none)))
    (sSeq (sPut 2 (eV 1) (eC (.str "")))
    (sSeq (sOwn 3 (eLst (lC (eV 1) lN)))
    (sSeq (sAsg (eC (.int 0)) (gN 4))
    (sSeq (sWh 1000000 (toT (o2 ltD (eW 4) (eCall lenF (lC (eW 3) lN)))) L2_access_from)
    (sFrz 2 (sRet (eV 2))))))))
def F_access_from : List D → Option D := callF 8 2 b_access_from
def b_access_words : FS :=
    (sRet (eCall LN.F_access_from (lC (eV 0) (lC (eC (.int 0)) lN))))
def F_access_words : List D → Option D := callF 1 1 b_access_words
def b_reachable : FS :=
    (sSeq (sAsg (eCall LN.F_access_words (lC (eV 0) lN)) (gN 1))
    (sRet (eLc [2] (iCall rng1 (lC (eCall lenF (lC (eW 1) lN)) lN)) (gN 2) (toT (o2 isnD (o2 ixD (eW 1) (eW 2)) (eC .none))) (eV 2))))
def F_reachable : List D → Option D := callF 3 1 b_reachable
def b_first_parts : FS :=
    (sRet (eDc [2] (iAny (eV 1)) (gN 2) tYs (eV 2) (eCall intF (lC (eCall LM.F_is_final (lC (eV 0) (lC (eV 2) lN))) lN))))
def F_first_parts : List D → Option D := callF 3 2 b_first_parts
def L1_finer_parts : FS :=
    (sSeq (sAsg (eTup (lC (o2 ixD (eW 1) (eW 4)) (lC (eCall tupF (lC (eLc [6] (iAny (o2 ixD (o2 ixD (eW 0) (eC (.int 1))) (eW 4))) (gN 6) tYs (o2 ixD (eW 1) (eW 6))) lN)) lN))) (gN 5))
    (sSeq (sIf (toT (o2 ninND (eW 5) (eW 2))) (sPutN 2 (eV 5) (o1 lenND (eW 2))) sNx)
    (sPut 3 (eV 4) (o2 ixND (eW 2) (eW 5)))))
def b_finer_parts : FS :=
    (sSeq (sOwn 2 (eC (.dict [(.none, .int 2)])))
    (sSeq (sOwn 3 (eC (.dict [(.none, .int 0)])))
    (sSeq (sFor (iAny (eV 1)) (gN 4) L1_finer_parts)
    (sFrz 3 (sRet (eV 3))))))
def F_finer_parts : List D → Option D := callF 7 2 b_finer_parts
def b_part_count : FS :=
    (sRet (o1 lsetD (o1 valsD (eW 0))))
def F_part_count : List D → Option D := callF 1 1 b_part_count
def L1_same_parts : FS :=
    (sSeq (sAsg (eV 2) (gN 1))
    (sAsg (eCall LN.F_finer_parts (lC (eV 0) (lC (eV 1) lN))) (gN 2)))
def b_same_parts : FS :=
    (sSeq (sAsg (eCall LN.F_first_parts (lC (eV 0) (lC (eCall LN.F_reachable (lC (eV 0) lN)) lN))) (gN 1))
    (sSeq (sAsg (eCall LN.F_finer_parts (lC (eV 0) (lC (eV 1) lN))) (gN 2))
    (sSeq (sWh 1000000 (toT (o2 gtD (eCall LN.F_part_count (lC (eV 2) lN)) (eCall LN.F_part_count (lC (eV 1) lN)))) L1_same_parts)
    (sRet (eV 1)))))
def F_same_parts : List D → Option D := callF 3 1 b_same_parts
def L1_numbered_states : FS :=
    (sIf (toT (o2 ninD (o2 ixD (eW 1) (eW 5)) (eW 3))) (sSeq (sPut 3 (o2 ixD (eW 1) (eW 5)) (eC (.bool true)))
    (sApp 2 (eV 5))) sNx)
def L2_numbered_states : FS :=
    (sSeq (sFor (iAny (o2 ixD (o2 ixD (eW 0) (eC (.int 1))) (o2 ixD (eW 2) (eW 4)))) (gN 5) L1_numbered_states)
    (sAsg (o2 addD (eW 4) (eC (.int 1))) (gN 4)))
def b_numbered_states : FS :=
    (sSeq (sOwn 2 (eLst (lC (eC (.int 0)) lN)))
    (sSeq (sOwn 3 (eD1 (o2 ixD (eW 1) (eC (.int 0))) (eC (.bool true))))
    (sSeq (sAsg (eC (.int 0)) (gN 4))
    (sSeq (sWh 1000000 (toT (o2 ltD (eW 4) (eCall lenF (lC (eW 2) lN)))) L2_numbered_states)
    (sFrz 2 (sRet (eV 2)))))))
def F_numbered_states : List D → Option D := callF 6 2 b_numbered_states
def b_least : FS :=
    (sSeq (sAsg (eCall LN.F_same_parts (lC (eV 0) lN)) (gN 1))
    (sSeq (sAsg (eCall LN.F_numbered_states (lC (eV 0) (lC (eV 1) lN))) (gN 2))
    (sSeq (sAsg (eDc [6] (iCall rng1 (lC (eCall lenF (lC (eW 2) lN)) lN)) (gN 6) tYs (o2 ixD (eW 1) (o2 ixD (eW 2) (eW 6))) (eV 6)) (gN 3))
    (sSeq (thenF 4 (sOwn 4 (eLc [7] (iAny (eV 2)) (gN 7) tYs (eCall tupF (lC (eLc [8] (iAny (o2 ixD (o2 ixD (eW 0) (eC (.int 1))) (eW 7))) (gN 8) tYs (o2 ixD (eW 3) (o2 ixD (eW 1) (eW 8)))) lN)))))
    (sSeq (thenF 5 (sOwn 5 (eLc [6] (iCall rng1 (lC (eCall lenF (lC (eW 2) lN)) lN)) (gN 6) (toT (eCall LM.F_is_final (lC (eV 0) (lC (o2 ixD (eW 2) (eW 6)) lN)))) (eV 6))))
    (sRet (eTup (lC (o2 ixD (eW 0) (eC (.int 0))) (lC (eCall tupF (lC (eW 4) lN)) (lC (eCall tupF (lC (eW 5) lN)) lN))))))))))
def F_least : List D → Option D := callF 9 1 b_least
def L1_parting_from : FS :=
    (sSeq (sAsg (eTup (lC (o2 ixD (o2 ixD (o2 ixD (eW 0) (eC (.int 1))) (eW 7)) (eW 10)) (lC (o2 ixD (o2 ixD (o2 ixD (eW 1) (eC (.int 1))) (eW 8)) (eW 10)) lN))) (gN 11))
    (sIf (toT (o2 ninD (eW 11) (eW 4))) (sSeq (sPut 4 (eV 11) (o2 addD (eW 9) (o2 ixD (eC (.str "abc")) (eW 10))))
    (sApp 5 (eV 11))) sNx))
def L2_parting_from : FS :=
    (sSeq (sAsg (o2 ixD (eW 5) (eW 6)) (gT 2 (gsC (gN 7) (gsC (gN 8) gsN))))
    (sSeq (sAsg (o2 ixD (eW 4) (eTup (lC (eV 7) (lC (eV 8) lN)))) (gN 9))
    (sSeq (sIf (toT (o2 neD (eCall LM.F_is_final (lC (eV 0) (lC (eV 7) lN))) (eCall LM.F_is_final (lC (eV 1) (lC (eV 8) lN))))) (sRet (eV 9)) sNx)
    (sSeq (sFor (iCall rng1 (lC (o2 ixD (eW 0) (eC (.int 0))) lN)) (gN 10) L1_parting_from)
    (sAsg (o2 addD (eW 6) (eC (.int 1))) (gN 6))))))
def b_parting_from : FS :=
    (sSeq (sOwn 4 (eD1T (eTup (lC (eV 2) (lC (eV 3) lN))) (eC (.str ""))))
    (sSeq (sOwn 5 (eLst (lC (eTup (lC (eV 2) (lC (eV 3) lN))) lN)))
    (sSeq (sAsg (eC (.int 0)) (gN 6))
    (sSeq (sWh 1000000 (toT (o2 ltD (eW 6) (eCall lenF (lC (eW 5) lN)))) L2_parting_from)
    (sRet (eC .none))))))
def F_parting_from : List D → Option D := callF 12 4 b_parting_from
def b_telling_word : FS :=
    (sRet (eCall LN.F_parting_from (lC (eV 0) (lC (eV 0) (lC (eV 1) (lC (eV 2) lN))))))
def F_telling_word : List D → Option D := callF 3 3 b_telling_word
def L1_law_parted : FS :=
    (sIf (toT (o2 inD (eTup (lC (o2 ixD (o2 ixD (o2 ixD (eW 0) (eC (.int 1))) (eW 4)) (eW 7)) (lC (o2 ixD (o2 ixD (o2 ixD (eW 0) (eC (.int 1))) (eW 5)) (eW 7)) lN))) (eW 2))) (sAsg (eC (.bool true)) (gN 6)) sNx)
def L2_law_parted : FS :=
    (sSeq (sAsg (o2 neD (o2 inD (eW 4) (o2 ixD (eW 0) (eC (.int 2)))) (o2 inD (eW 5) (o2 ixD (eW 0) (eC (.int 2))))) (gN 6))
    (sSeq (sFor (iCall rng1 (lC (o2 ixD (eW 0) (eC (.int 0))) lN)) (gN 7) L1_law_parted)
    (sIf (toT (eV 6)) (sPut 2 (eTup (lC (eV 4) (lC (eV 5) lN))) (eC (.bool true))) sNx)))
def L3_law_parted : FS :=
    (sFor (iAny (eV 1)) (gN 5) L2_law_parted)
def L4_law_parted : FS :=
    (sSeq (sAsg (o1 lenTD (eW 2)) (gN 3))
    (sFor (iAny (eV 1)) (gN 4) L3_law_parted))
def b_law_parted : FS :=
    (sSeq (sOwn 2 (eC (.dict [(.none, .int 1)])))
    (sSeq (sAsg (o2 subD (eC (.int 0)) (eC (.int 1))) (gN 3))
    (sSeq (sWh 1000000 (toT (o2 gtD (o1 lenTD (eW 2)) (eW 3))) L4_law_parted)
    (sFrz 2 (sRet (eV 2))))))
def F_law_parted : List D → Option D := callF 8 2 b_law_parted
def L1_law_least : FS :=
    (sIf (toT (o2 ninD (eW 3) (eW 1))) (sApp 1 (eV 3)) sNx)
def L2_law_least : FS :=
    (sSeq (sFor (iAny (o2 ixD (o2 ixD (eW 0) (eC (.int 1))) (o2 ixD (eW 1) (eW 2)))) (gN 3) L1_law_least)
    (sAsg (o2 addD (eW 2) (eC (.int 1))) (gN 2)))
def L3_law_least : FS :=
    (sIf (toT (o2 eqD (eCall lenF (lC (eLc [3] (iAnyB (eW 5)) (gN 3) (toT (o2 ninD (eTup (lC (eV 6) (lC (eV 3) lN))) (eW 4))) (eV 3)) lN)) (eC (.int 0)))) (sApp 5 (eV 6)) sNx)
def L4_law_least : FS :=
    (sSeq (sAsg (o2 ixD (eLc [10] (iAnyB (eW 5)) (gN 10) (toT (o2 ninD (eTup (lC (eV 8) (lC (eV 10) lN))) (eW 4))) (eV 10)) (eC (.int 0))) (gN 3))
    (sIf (toT (o2 ninD (eW 3) (eW 7))) (sApp 7 (eV 3)) sNx))
def L5_law_least : FS :=
    (sSeq (sFor (iAny (o2 ixD (o2 ixD (eW 0) (eC (.int 1))) (o2 ixD (eW 7) (eW 2)))) (gN 8) L4_law_least)
    (sAsg (o2 addD (eW 2) (eC (.int 1))) (gN 2)))
def L6_law_least : FS :=
    (sApp 9 (eCall tupF (lC (eLc [3] (iAny (o2 ixD (o2 ixD (eW 0) (eC (.int 1))) (eW 6))) (gN 3) tYs (o2 ixD (eLc [11] (iCall rng1 (lC (eCall lenF (lC (eW 7) lN)) lN)) (gN 11) (toT (o2 ninD (eTup (lC (eV 3) (lC (o2 ixD (eW 7) (eW 11)) lN))) (eW 4))) (eV 11)) (eC (.int 0)))) lN)))
def b_law_least : FS :=
    (sSeq (sOwn 1 (eLst (lC (eC (.int 0)) lN)))
    (sSeq (sAsg (eC (.int 0)) (gN 2))
    (sSeq (sWh 1000000 (toT (o2 ltD (eW 2) (eCall lenF (lC (eW 1) lN)))) L2_law_least)
    (sSeq (sFrz 1 (sAsg (eCall LN.F_law_parted (lC (eV 0) (lC (eV 1) lN))) (gN 4)))
    (sSeq (sOwn 5 (eLst lN))
    (sSeq (sFrz 1 (sFor (iAny (eV 1)) (gN 6) L3_law_least))
    (sSeq (sOwn 7 (eLst (lC (o2 ixD (eW 5) (eC (.int 0))) lN)))
    (sSeq (sAsg (eC (.int 0)) (gN 2))
    (sSeq (sWh 1000000 (toT (o2 ltD (eW 2) (eCall lenF (lC (eW 7) lN)))) L5_law_least)
    (sSeq (sOwn 9 (eLst lN))
    (sSeq (sFrz 7 (sFor (iAny (eV 7)) (gN 6) L6_law_least))
    (sRet (eTup (lC (o2 ixD (eW 0) (eC (.int 0))) (lC (eCall tupF (lC (eW 9) lN)) (lC (eCall tupF (lC (eLc [11] (iCall rng1 (lC (eCall lenF (lC (eW 7) lN)) lN)) (gN 11) (toT (o2 inD (o2 ixD (eW 7) (eW 11)) (o2 ixD (eW 0) (eC (.int 2))))) (eV 11)) lN)) lN))))))))))))))))
def F_law_least : List D → Option D := callF 12 1 b_law_least
end LN
end

set_option Elab.async false
set_option linter.all false
set_option maxRecDepth 100000
set_option maxHeartbeats 4000000
/-! LN1: first words to states; reachable states. -/
namespace LN
open PySem L2 DV LC MM LM MN
def encO : Option (List Nat) → D
  | none => .none
  | some w => dW w
structure BF (m : Mc) (start : Nat) (fo : List (Option (List Nat))) (wt : List Nat) : Prop where
  len : fo.length = m.n
  nd : wt.Nodup
  lt : ∀ q ∈ wt, q < m.n
  sm : ∀ q w, fo[q]? = some (some w) → q ∈ wt ∧ okw m.L w ∧ m.run start w = q ∧ w.length < wt.length
  no : ∀ q, fo[q]? = some none → q ∉ wt
  st : start ∈ wt
theorem nodup_lt {l : List Nat} {n : Nat} (h : l.Nodup) (hl : ∀ q ∈ l, q < n) : l.length ≤ n := by
  have := len_le (m := List.range n) h fun q hq => List.mem_range.mpr (hl q hq)
  rwa [List.length_range] at this
theorem BF.wl {m : Mc} {start : Nat} {fo : List (Option (List Nat))} {wt : List Nat} (b : BF m start fo wt) : wt.length ≤ m.n := nodup_lt b.nd b.lt
theorem BF.word {m : Mc} {start : Nat} {fo : List (Option (List Nat))} {wt : List Nat} (b : BF m start fo wt) {q : Nat} (hq : q ∈ wt) : ∃ w, fo[q]? = some (some w) := by
  have hl := b.lt q hq
  rw [← b.len] at hl
  cases e : fo[q]? with
  | none => rw [List.getElem?_eq_getElem hl] at e; cases e
  | some x =>
    cases x with
    | none => exact absurd hq (b.no q e)
    | some w => exact ⟨w, rfl⟩
theorem BF.add {m : Mc} {start : Nat} {fo : List (Option (List Nat))} {wt : List Nat} (b : BF m start fo wt) (ok : m.Ok) {q i : Nat} {w : List Nat} (hq : fo[q]? = some (some w)) (hi : i < m.L) (hn : fo[m.to q i]? = some none) : BF m start (fo.set (m.to q i) (some (w ++ [i]))) (wt ++ [m.to q i]) := by
  obtain ⟨q1, q2, q3, q4⟩ := b.sm q w hq
  have hl : m.to q i < fo.length := (List.getElem?_eq_some_iff.mp hn).1
  have hnot := b.no _ hn
  refine ⟨by rw [List.length_set, b.len], ?_, fun x hx => ?_, fun x v hx => ?_, fun x hx => ?_, List.mem_append_left _ b.st⟩
  · rw [List.nodup_append]
    exact ⟨b.nd, by simp, fun a ha c hc => by
      rw [List.mem_singleton.mp hc]
      exact fun z => hnot (z ▸ ha)⟩
  · rcases List.mem_append.mp hx with z | z
    · exact b.lt x z
    · rw [List.mem_singleton.mp z]
      exact ok.to_lt (b.lt q q1) hi
  · by_cases e : m.to q i = x
    · subst e
      rw [List.getElem?_set_self hl] at hx
      cases hx
      exact ⟨by simp, q2.app (okw.one hi), by rw [run_snoc, q3], by simp; omega⟩
    · rw [List.getElem?_set_ne e] at hx
      obtain ⟨a1, a2, a3, a4⟩ := b.sm x v hx
      exact ⟨List.mem_append_left _ a1, a2, a3, by simp; omega⟩
  · by_cases e : m.to q i = x
    · subst e
      rw [List.getElem?_set_self hl] at hx
      cases hx
    · rw [List.getElem?_set_ne e] at hx
      intro z
      rcases List.mem_append.mp z with z | z
      · exact b.no x hx z
      · exact e (List.mem_singleton.mp z).symm
theorem put_l {ds : List D} {j : Nat} {v : D} (h : j < ds.length) : putO (.list ds) (dN j) v = some (.list (ds.set j v)) := by
  show (ixN ds.length (j : Int)).map (fun n => PyData.list (ds.set n v)) = _
  unfold ixN
  rw [if_pos (by omega), if_pos (by omega), Int.toNat_natCast]
  rfl
theorem isNb_encO (x : Option (List Nat)) : isNb (encO x) = x.isNone := by cases x <;> rfl
theorem lt_nn {a b : Nat} : ltD (dN a) (dN b) = some (.bool (decide (a < b))) := by
  rw [lt_ii]
  congr 2
  exact decide_eq_decide.mpr (by omega)
def shD (d : D) : Option Sl := some (.shr d)
def owD (d : D) : Option Sl := some (.own d)
/-- closed up to a place -/
def CL (m : Mc) (wt : List Nat) (at_ : Nat) : Prop := ∀ j < at_, ∀ q, wt[j]? = some q → ∀ i < m.L, m.to q i ∈ wt
section
variable {m : Mc} {start : Nat}
theorem access_turn (ok : m.Ok) {fo : List (Option (List Nat))} {wt : List Nat} {at_ q : Nat} {o5 o6 o7 : Option Sl} (b : BF m start fo wt) (hq : wt[at_]? = some q) (hc : CL m wt at_) :
    ∃ fo' wt' o6' o7', L2_access_from [shD (eM m), shD (dN start), owD (.list (fo.map encO)), owD (.list (wt.map dN)), shD (dN at_), o5, o6, o7] =
      some (.nx [shD (eM m), shD (dN start), owD (.list (fo'.map encO)), owD (.list (wt'.map dN)), shD (dN (at_ + 1)), shD (dN q), o6', o7']) ∧ BF m start fo' wt' ∧ CL m wt' (at_ + 1) ∧ at_ + 1 ≤ wt'.length := by
  have hqm : q ∈ wt := List.mem_of_getElem? hq
  have hql := b.lt q hqm
  have hal : at_ < wt.length := (List.getElem?_eq_some_iff.mp hq).1
  have hbig := ok.big
  have h3 := ok.L3
  obtain ⟨ρ, e, fo', wt', o6', o7', rfl, b', hx', hp'⟩ := for_list (i := 6) (s := L1_access_from) dN (List.range m.L) (fun p ρ => ∃ (fo' : List (Option (List Nat))) (wt' : List Nat) (o6' o7' : Option Sl), ρ = [shD (eM m), shD (dN start), owD (.list (fo'.map encO)), owD (.list (wt'.map dN)), shD (dN at_), shD (dN q), o6', o7'] ∧ BF m start fo' wt' ∧ (∃ ext, wt' = wt ++ ext) ∧ ∀ i ∈ p, m.to q i ∈ wt') (fun p i r ρ hs ⟨fo', wt', o6', o7', hr, b', ⟨ext, hx⟩, hp⟩ => by
    subst hr
    have hi : i < m.L := List.mem_range.mp (by rw [hs]; simp)
    have hf := ok.to_lt hql hi
    have hfl : m.to q i < fo'.length := by rw [b'.len]; exact hf
    have hqm' : q ∈ wt' := by rw [hx]; exact List.mem_append_left _ hqm
    obtain ⟨w, hw⟩ := b'.word hqm'
    have x1 : ixD (.list (fo'.map encO)) (dN (m.to q i)) = some (encO fo'[m.to q i]) := ix_l (by rw [List.getElem?_map, List.getElem?_eq_getElem hfl]; rfl)
    have x2 : ixD (.list (fo'.map encO)) (dN q) = some (dW w) := ix_l (by rw [List.getElem?_map, hw]; rfl)
    have wlen : w.length < wt'.length := (b'.sm q w hw).2.2.2
    have wl := b'.wl
    have ad := add_wd (l := w) (m := [i]) (by simp; omega)
    have abi := LS.abc_ix (i := i) (by omega)
    have isn : isD (encO fo'[m.to q i]) .none = some (.bool (fo'[m.to q i]).isNone) := by rw [is_n, isNb_encO]
    cases hcase : fo'[m.to q i] with
    | some v =>
      rw [hcase] at x1 isn
      refine ⟨[shD (eM m), shD (dN start), owD (.list (fo'.map encO)), owD (.list (wt'.map dN)), shD (dN at_), shD (dN q), shD (dN i), shD (dN (m.to q i))], ?_, fo', wt', _, _, rfl, b', ⟨ext, hx⟩, fun j hj => ?_⟩
      · simp only [L1_access_from, shD, owD, dv, ix_M1, ix_T ok hql, ix_R ok hql hi, x1, isn, Option.isNone_some]
      · rcases List.mem_append.mp hj with z | z
        · exact hp j z
        · rw [List.mem_singleton.mp z]
          exact (b'.sm _ v (by rw [List.getElem?_eq_getElem hfl, hcase])).1
    | none =>
      rw [hcase] at x1 isn
      have hno : fo'[m.to q i]? = some none := by rw [List.getElem?_eq_getElem hfl, hcase]
      have b2 := b'.add ok hw hi hno
      have pu := put_l (ds := fo'.map encO) (j := m.to q i) (v := dW (w ++ [i])) (by rw [List.length_map]; exact hfl)
      have ap := appS_s (i := 3) (d := dN (m.to q i)) (ρ := [shD (eM m), shD (dN start), owD (.list ((fo'.map encO).set (m.to q i) (dW (w ++ [i])))), owD (.list (wt'.map dN)), shD (dN at_), shD (dN q), shD (dN i), shD (dN (m.to q i))]) (ds := wt'.map dN) (by simp; omega)
      refine ⟨[shD (eM m), shD (dN start), owD (.list ((fo'.set (m.to q i) (some (w ++ [i]))).map encO)), owD (.list ((wt' ++ [m.to q i]).map dN)), shD (dN at_), shD (dN q), shD (dN i), shD (dN (m.to q i))], ?_, _, _, _, _, rfl, b2, ⟨ext ++ [m.to q i], by rw [hx]; simp⟩, fun j hj => ?_⟩
      · simp only [shD, owD] at ap
        simp only [L1_access_from, shD, owD, dv, abc_wd, ix_M1, ix_T ok hql, ix_R ok hql hi, x1, x2, isn, Option.isNone_none, abi, ad, pu, ap]
        rw [List.map_append, List.map_set]
        rfl
      · rcases List.mem_append.mp hj with z | z
        · exact List.mem_append_left _ (hp j z)
        · rw [List.mem_singleton.mp z]
          simp) (ρ := [shD (eM m), shD (dN start), owD (.list (fo.map encO)), owD (.list (wt.map dN)), shD (dN at_), shD (dN q), o6, o7]) ⟨fo, wt, o6, o7, rfl, b, ⟨[], by simp⟩, fun i hi => by cases hi⟩
  obtain ⟨ext, hx⟩ := hx'
  have r1 := rng1_n (count := m.L) (by omega)
  have xq : ixD (.list (wt.map dN)) (dN at_) = some (dN q) := ix_numsL hq
  refine ⟨fo', wt', o6', o7', ?_, b', fun j hj x hxj i hi => ?_, by rw [hx]; simp; omega⟩
  · simp only [shD, owD] at e
    simp only [L2_access_from, shD, owD, dv, xq, ix_M0, r1, e]
    rfl
  · by_cases hja : j < at_
    · have hjl : j < wt.length := by omega
      rw [hx, List.getElem?_append_left hjl] at hxj
      rw [hx]
      exact List.mem_append_left _ (hc j hja x hxj i hi)
    · have : j = at_ := by omega
      subst this
      rw [hx, List.getElem?_append_left hal, hq] at hxj
      cases hxj
      exact hp' i (List.mem_range.mpr hi)
theorem access_from_eq (ok : m.Ok) (hs : start < m.n) : ∃ fo : List (Option (List Nat)), F_access_from [eM m, dN start] = some (.list (fo.map encO)) ∧ fo.length = m.n ∧ (∀ q w, fo[q]? = some (some w) → okw m.L w ∧ m.run start w = q ∧ w.length < m.n) ∧
    ∀ q, fo[q]? = some none → ∀ w, okw m.L w → m.run start w ≠ q := by
  rw [F_access_from, callF_2, b_access_from]
  have hbig := ok.big
  have it : itemsD (eT m) = some (m.rows.map eR) := rfl
  have lc : lcL (gN 5) tYs (eC .none) [shD (eM m), shD (dN start), none, none, none, none, none, none] (m.rows.map eR) = some (m.rows.map fun _ => PyData.none) := lcL_map eR _ _ fun r _ => by simp only [dv]
  have lo : lcO (some (m.rows.map eR)) (gN 5) tYs (eC .none) [shD (eM m), shD (dN start), none, none, none, none, none, none] = some (.list (m.rows.map fun _ => PyData.none)) := by
    rw [lcO_s (by rw [List.length_map]; show m.n ≤ _; omega), lc]
    rfl
  have e0 : (m.rows.map fun _ => PyData.none) = ((List.replicate m.n (none : Option (List Nat))).map encO) := by
    rw [List.map_replicate, List.map_const']
    rfl
  have pu := put_l (ds := (List.replicate m.n (none : Option (List Nat))).map encO) (j := start) (v := dW []) (by simp; exact hs)
  let fo0 : List (Option (List Nat)) := (List.replicate m.n none).set start (some [])
  have efo : ((List.replicate m.n (none : Option (List Nat))).map encO).set start (dW []) = fo0.map encO := by
    show _ = ((List.replicate m.n none).set start (some [])).map encO
    rw [List.map_set]
    rfl
  have b0 : BF m start fo0 [start] := by
    have hl : start < (List.replicate m.n (none : Option (List Nat))).length := by simp; exact hs
    refine ⟨by simp [fo0], by simp, fun q hq => by rw [List.mem_singleton.mp hq]; exact hs, fun q w hq => ?_, fun q hq => ?_, by simp⟩
    · by_cases e : start = q
      · subst e
        simp only [fo0] at hq
        rw [List.getElem?_set_self hl] at hq
        cases hq
        exact ⟨by simp, okw.nil, rfl, by simp⟩
      · simp only [fo0] at hq
        rw [List.getElem?_set_ne e] at hq
        have := List.mem_of_getElem? hq
        rw [List.mem_replicate] at this
        cases this.2
    · intro z
      rw [List.mem_singleton.mp z] at hq
      simp only [fo0] at hq
      rw [List.getElem?_set_self hl] at hq
      cases hq
  obtain ⟨o, e, fo, wt, o4, o5, o6, o7, ho, b, hc⟩ := while_inv (c := toT (o2 ltD (eW 4) (eCall lenF (lC (eW 3) lN)))) (s := L2_access_from)
    (fun k ρ => ∃ (fo : List (Option (List Nat))) (wt : List Nat) (at_ : Nat) (o5 o6 o7 : Option Sl), k + at_ = m.n ∧ at_ ≤ wt.length ∧ BF m start fo wt ∧ CL m wt at_ ∧ ρ = [shD (eM m), shD (dN start), owD (.list (fo.map encO)), owD (.list (wt.map dN)), shD (dN at_), o5, o6, o7])
    (fun o => ∃ (fo : List (Option (List Nat))) (wt : List Nat) (o4 o5 o6 o7 : Option Sl), o = .nx [shD (eM m), shD (dN start), owD (.list (fo.map encO)), owD (.list (wt.map dN)), o4, o5, o6, o7] ∧ BF m start fo wt ∧ CL m wt wt.length)
    (fun k ρ ⟨fo, wt, at_, o5, o6, o7, hk, ha, b, hc, hr⟩ => by
      subst hr
      have wl := b.wl
      have ll : lenF [.list (wt.map dN)] = some (dN wt.length) := by rw [len_l, List.length_map]
      by_cases hlt : at_ < wt.length
      · have hq : wt[at_]? = some wt[at_] := List.getElem?_eq_getElem hlt
        obtain ⟨fo', wt', o6', o7', e, b', hc', ha'⟩ := access_turn (start := start) (o5 := o5) (o6 := o6) (o7 := o7) ok b hq hc
        have wl' := b'.wl
        refine .inr ⟨?_, .inl ⟨_, e, k - 1, by omega, fo', wt', at_ + 1, _, _, _, by omega, ha', b', hc', rfl⟩⟩
        have := lt_nn (a := at_) (b := wt.length)
        rw [decide_eq_true hlt] at this
        simp only [shD, owD, dv, ll, this]
      · have : at_ = wt.length := by omega
        subst this
        refine .inl ⟨?_, fo, wt, _, _, _, _, rfl, b, hc⟩
        have := lt_nn (a := wt.length) (b := wt.length)
        rw [decide_eq_false (Nat.lt_irrefl _)] at this
        simp only [shD, owD, dv, ll, this]) m.n 1000000 [shD (eM m), shD (dN start), owD (.list (fo0.map encO)), owD (.list ([start].map dN)), shD (dN 0), none, none, none] (by omega) ⟨fo0, [start], 0, _, _, _, by omega, by simp, b0, fun j hj => absurd hj (by omega), rfl⟩
  subst ho
  refine ⟨fo, ?_, b.len, fun q w hq => ⟨(b.sm q w hq).2.1, (b.sm q w hq).2.2.1, Nat.lt_of_lt_of_le (b.sm q w hq).2.2.2 b.wl⟩, fun q hq w hw er => ?_⟩
  · simp only [shD, owD] at e lo
    rw [e0] at lo
    have e' : whileL (toT (o2 ltD (eW 4) (eCall lenF (lC (eW 3) lN)))) L2_access_from 1000000 [some (.shr (eM m)), some (.shr (dN start)), some (.own (.list (fo0.map encO))), some (.own (.list [dN start])), some (.shr (.int 0)), none, none, none] = _ := e
    simp only [dv, dv0, nil_wd, ix_M1, it, lo, pu, efo, sWh, e']
  · have gen : ∀ (w : List Nat) (p : Nat), p ∈ wt → okw m.L w → m.run p w ∈ wt := by
      intro w
      induction w with
      | nil => exact fun p hp _ => hp
      | cons c w ih =>
        intro p hp hw
        obtain ⟨j, hj, e⟩ := List.mem_iff_getElem.mp hp
        exact ih _ (hc j hj p (by rw [List.getElem?_eq_getElem hj, e]) c (hw c List.mem_cons_self)) fun x hx => hw x (List.mem_cons_of_mem _ hx)
    exact b.no q hq (er ▸ gen w start b.st hw)
theorem access_words_eq (ok : m.Ok) : ∃ fo : List (Option (List Nat)), F_access_words [eM m] = some (.list (fo.map encO)) ∧ fo.length = m.n ∧ (∀ q w, fo[q]? = some (some w) → okw m.L w ∧ m.run 0 w = q ∧ w.length < m.n) ∧
    ∀ q, fo[q]? = some none → ∀ w, okw m.L w → m.run 0 w ≠ q := by
  obtain ⟨fo, e, h⟩ := access_from_eq (start := 0) ok ok.pos
  refine ⟨fo, ?_, h⟩
  rw [F_access_words, callF_1, b_access_words]
  have e' : F_access_from [eM m, .int 0] = _ := e
  simp only [dv, dv0, e']
/-- the states that words lead to, ascending -/
theorem reachable_eq (ok : m.Ok) : ∃ R : List Nat, F_reachable [eM m] = some (.list (R.map dN)) ∧ R.Nodup ∧ (∀ q, q ∈ R ↔ reach m q) ∧ ∃ f : Nat → Bool, R = (List.range m.n).filter f := by
  obtain ⟨fo, e, hl, h1, h2⟩ := access_words_eq ok
  have hbig := ok.big
  let f : Nat → Bool := fun q => !(fo.getD q none).isNone
  refine ⟨(List.range m.n).filter f, ?_, List.nodup_range.filter _, fun q => ?_, f, rfl⟩
  · rw [F_reachable, callF_1, b_reachable]
    have r1 := rng1_n (count := fo.length) (by omega)
    have ll : lenF [.list (fo.map encO)] = some (dN fo.length) := by rw [len_l, List.length_map]
    have lc : lcL (gN 2) (toT (o2 isnD (o2 ixD (eW 1) (eW 2)) (eC .none))) (eV 2) [shD (eM m), shD (.list (fo.map encO)), none] ((List.range fo.length).map dN) = some (((List.range fo.length).filter f).map dN) :=
      lcL_filter dN f dN _ (fun q hq => by
        have hq := List.mem_range.mp hq
        have x : ixD (.list (fo.map encO)) (dN q) = some (encO (fo.getD q none)) := ix_l (by
          rw [List.getElem?_map, List.getD_eq_getElem?_getD, List.getElem?_eq_getElem hq]
          rfl)
        have isn : isnD (encO (fo.getD q none)) .none = some (.bool (f q)) := by rw [isn_n, isNb_encO]
        simp only [shD, dv, x, isn]) (fun q _ _ => by simp only [shD, dv])
    simp only [shD] at lc
    simp only [dv, dv0, e, ll, r1]
    rw [lcO_s (by simp; omega), lc, hl]
    rfl
  · rw [List.mem_filter, List.mem_range]
    constructor
    · rintro ⟨hq, hf⟩
      cases hx : fo[q]? with
      | none => rw [List.getElem?_eq_getElem (by omega)] at hx; cases hx
      | some x =>
        cases x with
        | none =>
          simp only [f, List.getD_eq_getElem?_getD, hx] at hf
          cases hf
        | some w => exact ⟨w, (h1 q w hx).1, (h1 q w hx).2.1⟩
    · rintro ⟨w, hw, e⟩
      have hq : q < m.n := e ▸ ok.run_lt w ok.pos hw
      refine ⟨hq, ?_⟩
      cases hx : fo[q]? with
      | none => rw [List.getElem?_eq_getElem (by omega)] at hx; cases hx
      | some x =>
        cases x with
        | none => exact absurd e (h2 q hx w hw)
        | some w => simp [f, List.getD_eq_getElem?_getD, hx]
end
end LN

set_option Elab.async false
set_option linter.all false
set_option maxRecDepth 100000
set_option maxHeartbeats 4000000
/-! LN2: parts of states, made finer. -/
namespace LN
open PySem L2 DV LC MM LM MN
abbrev dNf : Nat → D := fun n => .int (n : Int)
def ptL (R : List Nat) (f : Nat → Nat) : List (Nat × Nat) := R.map fun q => (q, f q)
def encPt (R : List Nat) (f : Nat → Nat) : D := dM dNf dNf (ptL R f)
theorem pt_keys (R : List Nat) (f : Nat → Nat) : (ptL R f).map (·.1) = R := by
  unfold ptL
  rw [List.map_map]
  exact List.map_id _
theorem pt_get {R : List Nat} {f : Nat → Nat} (hn : R.Nodup) {q : Nat} (h : q ∈ R) : mget (ptL R f) q = some (f q) := mget_of_mem (by rw [pt_keys]; exact hn) (List.mem_map.mpr ⟨q, h, rfl⟩)
theorem ix_pt {R : List Nat} {f : Nat → Nat} (hn : R.Nodup) {q : Nat} (h : q ∈ R) : ixD (encPt R f) (dN q) = some (dN (f q)) := ix_dM key_nat (pt_get hn h)
theorem items_pt (R : List Nat) (f : Nat → Nat) : itemsD (encPt R f) = some (R.map dN) := by
  have := items_dM (ek := dNf) (ev := dNf) (ptL R f)
  rw [pt_keys] at this
  exact this
theorem fold_pt (vf : Nat → Nat) {R : List Nat} (hn : R.Nodup) : R.foldl (fun m x => mput m x (vf x)) [] = ptL R vf := by
  have h := foldl_copy (ptL R vf) [] (by rw [List.nil_append, pt_keys]; exact hn)
  rw [List.nil_append] at h
  rw [← h]
  unfold ptL
  rw [List.foldl_map]
section
variable {m : Mc}
def sig (m : Mc) (f : Nat → Nat) (q : Nat) : Nat × List Nat := (f q, (List.range m.L).map fun i => f (m.to q i))
def gOf (m : Mc) (R : List Nat) (f : Nat → Nat) (q : Nat) : Nat := (ded (R.map (sig m f))).idxOf (sig m f q)
theorem gOf_iff {R : List Nat} {f : Nat → Nat} {p q : Nat} (hp : p ∈ R) : gOf m R f p = gOf m R f q ↔ f p = f q ∧ ∀ i < m.L, f (m.to p i) = f (m.to q i) := by
  have e : sig m f p = sig m f q ↔ f p = f q ∧ ∀ i < m.L, f (m.to p i) = f (m.to q i) := by
    unfold sig
    rw [Prod.mk.injEq, List.map_inj_left]
    simp
  rw [← e]
  unfold gOf
  exact ⟨fun h => idx_inj (mem_ded.mpr (List.mem_map.mpr ⟨p, hp, rfl⟩)) h, fun h => by rw [h]⟩
theorem row_eq (ok : m.Ok) {q : Nat} (hq : q < m.n) : m.rows.getD q [] = (List.range m.L).map (m.to q) := by
  have h2 := (ok.row_at hq).2
  apply List.ext_getElem?
  intro i
  by_cases hi : i < m.L
  · rw [ok.to_at hq hi, List.getElem?_map, List.getElem?_range hi]
    rfl
  · rw [List.getElem?_eq_none (by omega), List.getElem?_eq_none (by simp; omega)]
theorem items_row (ok : m.Ok) {q : Nat} (hq : q < m.n) : itemsD (eR (m.rows.getD q [])) = some (((List.range m.L).map (m.to q)).map dN) := by
  rw [row_eq ok hq]
  rfl
/-- the final states have one part, the others another -/
def fin0 (m : Mc) (q : Nat) : Nat := if q ∈ m.fin then 1 else 0
theorem first_parts_eq {R : List Nat} (hn : R.Nodup) (hl : R.length ≤ 1000) : F_first_parts [eM m, .list (R.map dN)] = some (encPt R (fin0 m)) := by
  rw [F_first_parts, callF_2, b_first_parts]
  have dc := dcL_map (ek := dNf) (ev := dNf) key_nat (i := 2) (ρ := [shD (eM m), shD (.list (R.map dN)), none]) (fk := eV 2) (fv := eCall intF (lC (eCall LM.F_is_final (lC (eV 0) (lC (eV 2) lN))) lN)) dNf (fun q => q) (fin0 m) R [] (fun q _ => by simp only [shD, dv]) (fun q _ => by
    have e1 := is_final_eq (m := m) (q := q)
    have e2 : intF [.bool (decide (q ∈ m.fin))] = some (dNf (fin0 m q)) := by
      show some (PyData.int _) = _
      unfold fin0
      by_cases h : q ∈ m.fin
      · rw [decide_eq_true h, if_pos h]
        rfl
      · rw [decide_eq_false h, if_neg h]
        rfl
    simp only [shD, dv, e1, e2])
  rw [fold_pt _ hn] at dc
  have it : itemsD (.list (R.map dN)) = some (R.map dN) := rfl
  simp only [shD] at dc
  have e0 : enM dNf dNf ([] : List (Nat × Nat)) = [] := rfl
  rw [e0] at dc
  simp only [dv, dv0, it]
  rw [dcO_s (by simp; omega), dc]
  rfl
/-! ### finer -/
def nkS (s : Nat × List Nat) : NestedKey := .tup [.num (s.1 : Int), .tup (s.2.map fun (x : Nat) => NestedKey.num (x : Int))]
theorem key_S : KeyN nkS := ⟨fun a b h => by
    obtain ⟨a1, a2⟩ := a
    obtain ⟨b1, b2⟩ := b
    injection h with h
    injection h with h1 h2
    injection h2 with h2 _
    injection h1 with h1
    injection h2 with h2
    have e1 : a1 = b1 := by omega
    have e2 : a2 = b2 := (List.map_inj_right fun x y hxy => by
      injection hxy with hxy
      omega).mp h2
    rw [e1, e2], fun a => ⟨_, rfl⟩, fun a => by
    have h1 : (NestedKey.tup (a.2.map fun (x : Nat) => NestedKey.num (x : Int))).depth ≤ 1 := ndepth_tup fun k hk => by
      obtain ⟨x, _, rfl⟩ := List.mem_map.mp hk
      exact Nat.le_refl 0
    have h2 : (nkS a).depth ≤ 2 := ndepth_tup fun k hk => by
      simp at hk
      rcases hk with rfl | rfl
      · exact Nat.zero_le _
      · exact h1
    omega⟩
theorem nkD_S (s : Nat × List Nat) : nkD (nkS s) = .tuple [dN s.1, .tuple (s.2.map dN)] := by
  show PyData.tuple (nkDs _) = _
  rw [nkDs_map, List.map_cons, List.map_cons, List.map_nil]
  show PyData.tuple [.int (s.1 : Int), PyData.tuple (nkDs _)] = _
  rw [nkDs_map, List.map_map]
  rfl
def numL (l : List (Nat × List Nat)) : List ((Nat × List Nat) × Nat) := (ded l).map fun s => (s, (ded l).idxOf s)
theorem num_keys (l : List (Nat × List Nat)) : (numL l).map (·.1) = ded l := by
  unfold numL
  rw [List.map_map]
  exact List.map_id _
theorem num_get {l : List (Nat × List Nat)} {s : Nat × List Nat} (h : s ∈ l) : mget (numL l) s = some ((ded l).idxOf s) := mget_of_mem (by rw [num_keys]; exact nodup_ded l) (List.mem_map.mpr ⟨s, mem_ded.mpr h, rfl⟩)
theorem num_new {l : List (Nat × List Nat)} {s : Nat × List Nat} (h : s ∉ l) : numL (l ++ [s]) = numL l ++ [(s, (ded l).length)] := by
  have hs : s ∉ ded l := fun z => h (mem_ded.mp z)
  unfold numL
  rw [ded_snoc, if_neg h, List.map_append]
  congr 1
  · exact List.map_congr_left fun x hx => by rw [idx_app_mem hx]
  · simp only [List.map_cons, List.map_nil]
    rw [idx_app_new hs]
theorem num_old {l : List (Nat × List Nat)} {s : Nat × List Nat} (h : s ∈ l) : numL (l ++ [s]) = numL l := by
  unfold numL
  rw [ded_snoc, if_pos h]
theorem finer_parts_eq (ok : m.Ok) {R : List Nat} {f : Nat → Nat} (hn : R.Nodup) (hl : R.length ≤ 1000) (hR : ∀ q ∈ R, q < m.n) (hc : ∀ q ∈ R, ∀ i < m.L, m.to q i ∈ R) : F_finer_parts [eM m, encPt R f] = some (encPt R (gOf m R f)) := by
  rw [F_finer_parts, callF_2, b_finer_parts]
  have h3 := ok.L3
  obtain ⟨ρ, e, o4, o5, rfl⟩ := for_list (i := 4) (s := L1_finer_parts) dN R (fun p ρ => ∃ o4 o5, ρ = [shD (eM m), shD (encPt R f), owD (dN2 nkS dNf (numL (p.map (sig m f)))), owD (encPt p (gOf m R f)), o4, o5, none]) (fun p q r ρ hs ⟨o4, o5, hr⟩ => by
    subst hr
    have hq : q ∈ R := by rw [hs]; simp
    have hql := hR q hq
    have hqp : q ∉ p := fun z => by
      rw [hs, List.nodup_append] at hn
      exact hn.2.2 q z q (by simp) rfl
    have hpl : p.length ≤ 1000 := by
      have := congrArg List.length hs
      simp at this
      omega
    have lc : ∀ (w v : D), lcL (gN 6) tYs (o2 ixD (eW 1) (eW 6)) [shD (eM m), shD (encPt R f), owD w, owD v, shD (dN q), o5, none] (((List.range m.L).map (m.to q)).map dN) = some (((sig m f q).2).map dN) := fun w v => by
      have := lcL_map (i := 6) (a := o2 ixD (eW 1) (eW 6)) (ρ := [shD (eM m), shD (encPt R f), owD w, owD v, shD (dN q), o5, none]) dN (fun x => dN (f x)) ((List.range m.L).map (m.to q)) fun x hx => by
        obtain ⟨i, hi, rfl⟩ := List.mem_map.mp hx
        simp only [shD, owD, dv, ix_pt hn (hc q hq i (List.mem_range.mp hi))]
      rw [this]
      unfold sig
      rw [List.map_map, List.map_map]
      rfl
    have lo : ∀ (w v : D), lcO (some (((List.range m.L).map (m.to q)).map dN)) (gN 6) tYs (o2 ixD (eW 1) (eW 6)) [shD (eM m), shD (encPt R f), owD w, owD v, shD (dN q), o5, none] = some (.list (((sig m f q).2).map dN)) := fun w v => by
      rw [lcO_s (by simp; omega), lc]
      rfl
    have tp : tupF [.list (((sig m f q).2).map dN)] = some (.tuple (((sig m f q).2).map dN)) := rfl
    have hk := nkD_S (sig m f q)
    have hk : PyData.tuple [dN (f q), .tuple (((sig m f q).2).map dN)] = nkD (nkS (sig m f q)) := hk.symm
    have ni := nin_dN (ev := dNf) key_S (numL (p.map (sig m f))) (sig m f q)
    have nlen : (numL (p.map (sig m f))).length = (ded (p.map (sig m f))).length := by simp [numL]
    have ln := lenN_dN (ev := dNf) key_S (numL (p.map (sig m f)))
    rw [nlen] at ln
    have nle := ded_len_le (p.map (sig m f))
    rw [List.length_map] at nle
    have pk : putO (encPt p (gOf m R f)) (dN q) (dN (gOf m R f q)) = some (encPt (p ++ [q]) (gOf m R f)) := by
      have := put_dM (ek := dNf) (ev := dNf) key_nat (m := ptL p (gOf m R f)) (k := q) (v := gOf m R f q) (by simp [ptL]; omega)
      rw [mput_new (by rw [pt_keys]; exact hqp)] at this
      rw [show encPt (p ++ [q]) (gOf m R f) = dM dNf dNf (ptL p (gOf m R f) ++ [(q, gOf m R f q)]) from by
        unfold encPt ptL
        rw [List.map_append]
        rfl]
      exact this
    have eRs : R.map (sig m f) = (p ++ [q]).map (sig m f) ++ r.map (sig m f) := by
      rw [← List.map_append, hs]
      simp
    obtain ⟨t, et⟩ := ded_pre (r.map (sig m f)) ((p ++ [q]).map (sig m f))
    rw [← eRs, List.map_append] at et
    simp only [List.map_cons, List.map_nil] at et
    have x5 := ix_pt (f := f) hn hq
    by_cases hm : sig m f q ∈ p.map (sig m f)
    · rw [num_get hm] at ni
      have gq : gOf m R f q = (ded (p.map (sig m f))).idxOf (sig m f q) := by
        unfold gOf
        rw [et, ded_snoc, if_pos hm, idx_app_mem (mem_ded.mpr hm)]
      have ix := ix_dN (ev := dNf) key_S (num_get hm)
      rw [← gq] at ix
      refine ⟨_, ?_, shD (dN q), shD (nkD (nkS (sig m f q))), rfl⟩
      simp only [shD, owD] at lo
      rw [List.map_append, show [q].map (sig m f) = [sig m f q] from rfl, num_old hm]
      simp only [L1_finer_parts, shD, owD, dv, ix_M1, ix_T ok hql, items_row ok hql, x5, lo, tp, hk, ni, Option.isSome_some, ix, pk]
    · have hmn : mget (numL (p.map (sig m f))) (sig m f q) = none := mget_none.mpr (by rw [num_keys]; exact fun z => hm (mem_ded.mp z))
      rw [hmn] at ni
      have hm2 : sig m f q ∉ ded (p.map (sig m f)) := fun z => hm (mem_ded.mp z)
      have gq : gOf m R f q = (ded (p.map (sig m f))).length := by
        unfold gOf
        rw [et, ded_snoc, if_neg hm, List.append_assoc, List.singleton_append, idx_app_new hm2]
      have pn := put_dN (ev := dNf) (v := (ded (p.map (sig m f))).length) key_S (m := numL (p.map (sig m f))) (k := sig m f q) (by rw [nlen]; omega)
      rw [mput_new (by rw [num_keys]; exact hm2), ← num_new hm] at pn
      have ix : ixND (dN2 nkS dNf (numL (p.map (sig m f) ++ [sig m f q]))) (nkD (nkS (sig m f q))) = some (dNf (gOf m R f q)) := by
        refine ix_dN key_S ?_
        rw [num_get (by simp), ded_snoc, if_neg hm, gq]
        congr 1
        exact idx_app_new (t := []) hm2
      refine ⟨_, ?_, shD (dN q), shD (nkD (nkS (sig m f q))), rfl⟩
      simp only [shD, owD] at lo
      rw [List.map_append, show [q].map (sig m f) = [sig m f q] from rfl]
      simp only [L1_finer_parts, shD, owD, dv, ix_M1, ix_T ok hql, items_row ok hql, x5, lo, tp, hk, ni, Option.isSome_none, ln, sPutN_e, putNSO_s, putNS_o, pn, ix, pk]) (ρ := [shD (eM m), shD (encPt R f), owD (dN2 nkS dNf []), owD (encPt [] (gOf m R f)), none, none, none]) ⟨none, none, rfl⟩
  have e' : forL (gN 4) L1_finer_parts (R.map dN) [some (.shr (eM m)), some (.shr (encPt R f)), some (.own (.dict [(.none, .int 2)])), some (.own (.dict [(.none, .int 0)])), none, none, none] = _ := e
  simp only [shD, owD] at e'
  simp only [dv, dv0, items_pt, e']
/-! ### the number of parts -/
def cnt (R : List Nat) (f : Nat → Nat) : Nat := (ded (R.map f)).length
theorem part_count_eq {R : List Nat} {f : Nat → Nat} (hl : R.length ≤ 1000) : F_part_count [encPt R f] = some (dN (cnt R f)) := by
  rw [F_part_count, callF_1, b_part_count]
  have v := vals_dM (ek := dNf) (ev := dNf) (ptL R f)
  have e1 : (ptL R f).map (·.2) = R.map f := by
    unfold ptL
    rw [List.map_map]
    rfl
  rw [e1] at v
  have v : valsD (encPt R f) = some (.list ((R.map f).map dNf)) := v
  have ei : intsOf ((R.map f).map dNf) = some ((R.map f).map fun (x : Nat) => (x : Int)) := by
    have := intsOf_map ((R.map f).map fun (x : Nat) => (x : Int))
    rw [List.map_map] at this
    exact this
  have ls : lsetD (.list ((R.map f).map dNf)) = some (dN (cnt R f)) := by
    simp only [lsetD]
    rw [ei, Option.bind_some, if_pos (by simp; omega)]
    congr 2
    obtain ⟨h1, h2⟩ := mem_firstMet ((R.map f).map fun (x : Nat) => (x : Int)) _ (Nat.le_refl _)
    rw [List.take_length] at h2
    have nd : ((ded (R.map f)).map fun (x : Nat) => (x : Int)).Nodup := by
      have := nodup_ded (R.map f)
      rw [List.Nodup, List.pairwise_map]
      exact this.imp fun {a b} h z => h (by omega)
    have := perm_of_mem h1 nd fun x => by
      rw [h2, List.mem_map, List.mem_map]
      constructor
      · rintro ⟨y, hy, rfl⟩
        exact ⟨y, mem_ded.mpr hy, rfl⟩
      · rintro ⟨y, hy, rfl⟩
        exact ⟨y, mem_ded.mp hy, rfl⟩
    rw [this.length_eq, List.length_map]
    rfl
  simp only [dv, dv0, v, ls]
theorem gt_nn {a b : Nat} : gtD (dN a) (dN b) = some (.bool (decide (b < a))) := by
  rw [gt_ii]
  congr 2
  exact decide_eq_decide.mpr (by omega)
theorem same_parts_eq (ok : m.Ok) : ∃ (R : List Nat) (f : Nat → Nat), F_same_parts [eM m] = some (encPt R f) ∧ R.Nodup ∧ (∀ q, q ∈ R ↔ reach m q) ∧ (∀ p ∈ R, ∀ q ∈ R, f p = f q ↔ sim m p q) := by
  obtain ⟨R, e0, hn, hR, _⟩ := reachable_eq ok
  have hlt : ∀ q ∈ R, q < m.n := fun q hq => ((hR q).mp hq).lt ok
  have hl : R.length ≤ 1000 := Nat.le_trans (nodup_lt hn hlt) ok.big
  have hc : ∀ q ∈ R, ∀ i < m.L, m.to q i ∈ R := fun q hq i hi => (hR _).mpr (((hR q).mp hq).to hi)
  have cle : ∀ f, cnt R f ≤ R.length := fun f => by
    have := ded_len_le (R.map f)
    rwa [List.length_map] at this
  obtain ⟨o, e, f, o2, ho, h1, h2, h3⟩ := while_inv (c := toT (DV.o2 gtD (eCall F_part_count (lC (eV 2) lN)) (eCall F_part_count (lC (eV 1) lN)))) (s := L1_same_parts)
    (fun k ρ => ∃ f : Nat → Nat, k + cnt R f = R.length ∧ (∀ p ∈ R, ∀ q ∈ R, sim m p q → f p = f q) ∧ (∀ p ∈ R, ∀ q ∈ R, f p = f q → (p ∈ m.fin ↔ q ∈ m.fin)) ∧ ρ = [shD (eM m), shD (encPt R f), shD (encPt R (gOf m R f))])
    (fun o => ∃ (f : Nat → Nat) (o2 : Option Sl), o = .nx [shD (eM m), shD (encPt R f), o2] ∧ (∀ p ∈ R, ∀ q ∈ R, sim m p q → f p = f q) ∧ (∀ p ∈ R, ∀ q ∈ R, f p = f q → (p ∈ m.fin ↔ q ∈ m.fin)) ∧ cnt R (gOf m R f) ≤ cnt R f)
    (fun k ρ ⟨f, hk, h1, h2, hr⟩ => by
      subst hr
      have p1 := part_count_eq (f := f) hl
      have p2 := part_count_eq (f := gOf m R f) hl
      have gt := gt_nn (a := cnt R (gOf m R f)) (b := cnt R f)
      have cl := cle (gOf m R f)
      by_cases hlt2 : cnt R f < cnt R (gOf m R f)
      · rw [decide_eq_true hlt2] at gt
        have fp := finer_parts_eq (f := gOf m R f) ok hn hl hlt hc
        refine .inr ⟨by simp only [shD, dv, p1, p2, gt], .inl ⟨_, ?_, k - (cnt R (gOf m R f) - cnt R f), by omega, gOf m R f, by omega, fun p hp q hq s => ?_, fun p hp q hq s => ?_, rfl⟩⟩
        · simp only [L1_same_parts, shD, dv, fp]
        · exact (gOf_iff hp).mpr ⟨h1 p hp q hq s, fun i hi => h1 _ (hc p hp i hi) _ (hc q hq i hi) (s.to hi)⟩
        · exact h2 p hp q hq ((gOf_iff hp).mp s).1
      · rw [decide_eq_false hlt2] at gt
        exact .inl ⟨by simp only [shD, dv, p1, p2, gt], f, _, rfl, h1, h2, by omega⟩) (R.length - cnt R (fin0 m)) 1000000 [shD (eM m), shD (encPt R (fin0 m)), shD (encPt R (gOf m R (fin0 m)))] (by omega)
      ⟨fin0 m, by have := cle (fin0 m); omega, fun p _ q _ s => by
        unfold fin0
        by_cases h : p ∈ m.fin
        · rw [if_pos h, if_pos (s.fin.mp h)]
        · rw [if_neg h, if_neg fun z => h (s.fin.mpr z)], fun p _ q _ s => by
        unfold fin0 at s
        by_cases h : p ∈ m.fin <;> by_cases g : q ∈ m.fin
        · exact ⟨fun _ => g, fun _ => h⟩
        · rw [if_pos h, if_neg g] at s; cases s
        · rw [if_neg h, if_pos g] at s; cases s
        · exact ⟨fun z => absurd z h, fun z => absurd z g⟩, rfl⟩
  subst ho
  have fine := fine (R := R) (f := f) (g := gOf m R f) (fun p hp q hq s => ((gOf_iff hp).mp s).1) h3
  refine ⟨R, f, ?_, hn, hR, fun p hp q hq => ⟨fun s => ?_, h1 p hp q hq⟩⟩
  · rw [F_same_parts, callF_1, b_same_parts]
    have f1 := first_parts_eq (m := m) hn hl
    have f2 := finer_parts_eq (f := fin0 m) ok hn hl hlt hc
    simp only [shD] at e
    simp only [dv, dv0, e0, f1, f2, sWh, e]
  · intro w hw
    exact sim_of (R := R) (E := fun p q => f p = f q) hc h2 (fun p hp q hq s i hi => ((gOf_iff hp).mp (fine p hp q hq s)).2 i hi) w p q hp hq s hw
end
end LN

set_option Elab.async false
set_option linter.all false
set_option maxRecDepth 100000
set_option maxHeartbeats 4000000
/-! LN3: the least machine, by the program. -/
namespace LN
open PySem L2 DV LC MM LM MN
section
variable {m : Mc} {R : List Nat} {f : Nat → Nat}
abbrev bl (b : Bool) : D := .bool b
/-- seen: the parts of the chosen states -/
def seenD (f : Nat → Nat) (ch : List Nat) : D := dM dNf bl (ch.map fun c => (f c, true))
theorem seen_keys (ch : List Nat) : (ch.map fun c => (f c, true)).map (·.1) = ch.map f := by
  rw [List.map_map]
  rfl
def row (m : Mc) (f : Nat → Nat) (c : Nat) : List Nat := (List.range m.L).map fun i => f (m.to c i)
theorem nodup_of_map {α β : Type} {g : α → β} {l : List α} (h : (l.map g).Nodup) : l.Nodup := by
  rw [List.Nodup, List.pairwise_map] at h
  exact h.imp fun {a b} hab e => hab (by rw [e])
theorem numbered_turn (ok : m.Ok) (hn : R.Nodup) (hR : ∀ q ∈ R, q < m.n) (hc : ∀ q ∈ R, ∀ i < m.L, m.to q i ∈ R) {ch : List Nat} {at_ c : Nat} {o5 : Option Sl} (hch : ∀ x ∈ ch, x ∈ R) (hat : ch[at_]? = some c) (h : ch.map f = ded (f 0 :: (ch.take at_).flatMap (row m f))) :
    ∃ ch' o5', L2_numbered_states [shD (eM m), shD (encPt R f), owD (.list (ch.map dN)), owD (seenD f ch), shD (dN at_), o5] =
      some (.nx [shD (eM m), shD (encPt R f), owD (.list (ch'.map dN)), owD (seenD f ch'), shD (dN (at_ + 1)), o5']) ∧ (∀ x ∈ ch', x ∈ R) ∧ ch'.map f = ded (f 0 :: (ch'.take (at_ + 1)).flatMap (row m f)) ∧ at_ + 1 ≤ ch'.length := by
  have hcm : c ∈ R := hch c (List.mem_of_getElem? hat)
  have hcl := hR c hcm
  have hal : at_ < ch.length := (List.getElem?_eq_some_iff.mp hat).1
  have h3 := ok.L3
  have hRl := nodup_lt hn hR
  have hbig := ok.big
  obtain ⟨ρ, e, ch', o5', rfl, hch', ⟨ext, hx⟩, hd⟩ := for_list (i := 5) (s := L1_numbered_states) (fun i => dN (m.to c i)) (List.range m.L) (fun p ρ => ∃ (ch' : List Nat) (o5' : Option Sl), ρ = [shD (eM m), shD (encPt R f), owD (.list (ch'.map dN)), owD (seenD f ch'), shD (dN at_), o5'] ∧ (∀ x ∈ ch', x ∈ R) ∧ (∃ ext, ch' = ch ++ ext) ∧ ch'.map f = ded ((f 0 :: (ch.take at_).flatMap (row m f)) ++ p.map fun i => f (m.to c i))) (fun p i r ρ hs ⟨ch', o5', hr, hch', ⟨ext, hx⟩, hd⟩ => by
    subst hr
    have hi : i < m.L := List.mem_range.mp (by rw [hs]; simp)
    have hq := hc c hcm i hi
    have x1 := ix_pt (f := f) hn hq
    have nd : (ch'.map f).Nodup := by rw [hd]; exact nodup_ded _
    have chl : ch'.length ≤ m.n := by
      have := len_le (nodup_of_map nd) hch'
      omega
    have ni := nin_dM (ev := bl) key_nat (ch'.map fun c => (f c, true)) (f (m.to c i))
    have ap1 : ∀ l : List Nat, l ++ (p ++ [i]).map (fun i => f (m.to c i)) = (l ++ p.map fun i => f (m.to c i)) ++ [f (m.to c i)] := fun l => by simp
    by_cases hm : f (m.to c i) ∈ ch'.map f
    · have hs : (mget (ch'.map fun c => (f c, true)) (f (m.to c i))).isSome = true := by
        cases hg : mget (ch'.map fun c => (f c, true)) (f (m.to c i)) with
        | some b => rfl
        | none => exact absurd (by rw [seen_keys]; exact hm) (mget_none.mp hg)
      rw [hs] at ni
      have ni : ninD (dN (f (m.to c i))) (seenD f ch') = some (.bool (!true)) := ni
      refine ⟨_, ?_, ch', shD (dN (m.to c i)), rfl, hch', ⟨ext, hx⟩, ?_⟩
      · simp only [L1_numbered_states, shD, owD, dv, x1, ni]
      · rw [ap1, ded_snoc, if_pos (by rw [hd] at hm; exact mem_ded.mp hm)]
        exact hd
    · have hg : mget (ch'.map fun c => (f c, true)) (f (m.to c i)) = none := mget_none.mpr (by rw [seen_keys]; exact hm)
      rw [hg] at ni
      have ni : ninD (dN (f (m.to c i))) (seenD f ch') = some (.bool (!false)) := ni
      have pk : putO (seenD f ch') (dN (f (m.to c i))) (.bool true) = some (seenD f (ch' ++ [m.to c i])) := by
        have := put_dM (ek := dNf) (ev := bl) key_nat (m := ch'.map fun c => (f c, true)) (k := f (m.to c i)) (v := true) (by simp; omega)
        rw [mput_new (by rw [seen_keys]; exact hm)] at this
        unfold seenD
        rw [List.map_append]
        exact this
      have ap := appS_s (i := 2) (d := dN (m.to c i)) (ρ := [shD (eM m), shD (encPt R f), owD (.list (ch'.map dN)), owD (seenD f (ch' ++ [m.to c i])), shD (dN at_), shD (dN (m.to c i))]) (ds := ch'.map dN) (by simp; omega)
      refine ⟨[shD (eM m), shD (encPt R f), owD (.list ((ch' ++ [m.to c i]).map dN)), owD (seenD f (ch' ++ [m.to c i])), shD (dN at_), shD (dN (m.to c i))], ?_, ch' ++ [m.to c i], _, rfl, fun x hx => ?_, ⟨ext ++ [m.to c i], by rw [hx]; simp⟩, ?_⟩
      · simp only [shD, owD] at ap
        simp only [L1_numbered_states, shD, owD, dv, x1, ni, pk, ap]
        rw [List.map_append]
        rfl
      · rcases List.mem_append.mp hx with z | z
        · exact hch' x z
        · rw [List.mem_singleton.mp z]
          exact hq
      · rw [ap1, ded_snoc, if_neg (by rw [hd] at hm; exact fun z => hm (mem_ded.mpr z)), List.map_append, hd]
        rfl) (ρ := [shD (eM m), shD (encPt R f), owD (.list (ch.map dN)), owD (seenD f ch), shD (dN at_), o5]) ⟨ch, o5, rfl, hch, ⟨[], by simp⟩, by rw [List.map_nil, List.append_nil]; exact h⟩
  refine ⟨ch', o5', ?_, hch', ?_, by rw [hx]; simp; omega⟩
  · have xc : ixD (.list (ch.map dN)) (dN at_) = some (dN c) := ix_numsL hat
    have it := items_row ok hcl
    rw [List.map_map] at it
    have it : itemsD (eR (m.rows.getD c [])) = some ((List.range m.L).map fun i => dN (m.to c i)) := it
    simp only [shD, owD] at e
    simp only [L2_numbered_states, shD, owD, dv, ix_M1, xc, ix_T ok hcl, it, e]
    rfl
  · have et : ch'.take (at_ + 1) = ch.take at_ ++ [c] := by
      rw [hx, List.take_append_of_le_length (by omega), List.take_succ, hat]
      rfl
    rw [et, List.flatMap_append, hd]
    simp [row]
theorem numbered_states_eq (ok : m.Ok) (hn : R.Nodup) (hR : ∀ q ∈ R, q < m.n) (h0 : 0 ∈ R) (hc : ∀ q ∈ R, ∀ i < m.L, m.to q i ∈ R) : ∃ ch : List Nat, F_numbered_states [eM m, encPt R f] = some (.list (ch.map dN)) ∧ (∀ x ∈ ch, x ∈ R) ∧ ch.map f = ded (comes m f ch) := by
  rw [F_numbered_states, callF_2, b_numbered_states]
  have hRl := nodup_lt hn hR
  have hbig := ok.big
  have chl : ∀ {ch l : List Nat}, (∀ x ∈ ch, x ∈ R) → ch.map f = ded l → ch.length ≤ m.n := fun {ch l} h1 h2 => by
    have := len_le (nodup_of_map (by rw [h2]; exact nodup_ded _)) h1
    omega
  obtain ⟨o, e, ch, o3, o4, o5, ho, h1, h2⟩ := while_inv (c := toT (o2 ltD (eW 4) (eCall lenF (lC (eW 2) lN)))) (s := L2_numbered_states)
    (fun k ρ => ∃ (ch : List Nat) (at_ : Nat) (o5 : Option Sl), k + at_ = m.n ∧ at_ ≤ ch.length ∧ (∀ x ∈ ch, x ∈ R) ∧ ch.map f = ded (f 0 :: (ch.take at_).flatMap (row m f)) ∧ ρ = [shD (eM m), shD (encPt R f), owD (.list (ch.map dN)), owD (seenD f ch), shD (dN at_), o5])
    (fun o => ∃ (ch : List Nat) (o3 o4 o5 : Option Sl), o = .nx [shD (eM m), shD (encPt R f), owD (.list (ch.map dN)), o3, o4, o5] ∧ (∀ x ∈ ch, x ∈ R) ∧ ch.map f = ded (comes m f ch))
    (fun k ρ ⟨ch, at_, o5, hk, ha, h1, h2, hr⟩ => by
      subst hr
      have cl := chl h1 h2
      have ll : lenF [.list (ch.map dN)] = some (dN ch.length) := by rw [len_l, List.length_map]
      by_cases hlt : at_ < ch.length
      · have hat : ch[at_]? = some ch[at_] := List.getElem?_eq_getElem hlt
        obtain ⟨ch', o5', e, h1', h2', ha'⟩ := numbered_turn (o5 := o5) ok hn hR hc h1 hat h2
        have cl' := chl h1' h2'
        have := lt_nn (a := at_) (b := ch.length)
        rw [decide_eq_true hlt] at this
        exact .inr ⟨by simp only [shD, owD, dv, ll, this], .inl ⟨_, e, k - 1, by omega, ch', at_ + 1, o5', by omega, ha', h1', h2', rfl⟩⟩
      · have : at_ = ch.length := by omega
        subst this
        have := lt_nn (a := ch.length) (b := ch.length)
        rw [decide_eq_false (Nat.lt_irrefl _)] at this
        refine .inl ⟨by simp only [shD, owD, dv, ll, this], ch, _, _, _, rfl, h1, ?_⟩
        rw [List.take_length] at h2
        exact h2) m.n 1000000 [shD (eM m), shD (encPt R f), owD (.list ([0].map dN)), owD (seenD f [0]), shD (dN 0), none] (by omega) ⟨[0], 0, none, by omega, by simp, fun x hx => by rw [List.mem_singleton.mp hx]; exact h0, by simp [ded], rfl⟩
  subst ho
  refine ⟨ch, ?_, h1, h2⟩
  have x0 : ixD (encPt R f) (.int 0) = some (dN (f 0)) := ix_pt hn h0
  have e' : whileL (toT (o2 ltD (eW 4) (eCall lenF (lC (eW 2) lN)))) L2_numbered_states 1000000 [some (.shr (eM m)), some (.shr (encPt R f)), some (.own (.list [.int 0])), some (.own (.dict [(.none, .int 0), (dN (f 0), .bool true)])), some (.shr (.int 0)), none] = _ := e
  simp only [shD, owD] at e'
  have kk : keyOf (dN (f 0)) = some (.inl (f 0 : Int)) := rfl
  simp only [dv, dv0, x0, kk, sWh, e']
/-! ### the least machine -/
def numD (f : Nat → Nat) (ch : List Nat) : List (Nat × Nat) := (List.range ch.length).map fun j => (f (ch.getD j 0), j)
theorem numD_keys (ch : List Nat) : (numD f ch).map (·.1) = ch.map f := by
  unfold numD
  rw [List.map_map]
  apply List.ext_getElem?
  intro j
  by_cases h : j < ch.length
  · rw [List.getElem?_map, List.getElem?_range h, List.getElem?_map, List.getElem?_eq_getElem h]
    simp [List.getD_eq_getElem?_getD, List.getElem?_eq_getElem h]
  · rw [List.getElem?_eq_none (by simpa using h), List.getElem?_eq_none (by simpa using h)]
theorem numD_get {ch : List Nat} (nd : (ch.map f).Nodup) {v : Nat} (hv : v ∈ ch.map f) : mget (numD f ch) v = some ((ch.map f).idxOf v) := by
  refine mget_of_mem (by rw [numD_keys]; exact nd) ?_
  have h2 := List.idxOf_lt_length_of_mem hv
  have h3 := List.getElem_idxOf h2
  have h2' : (ch.map f).idxOf v < ch.length := by simpa using h2
  rw [List.getElem_map] at h3
  refine List.mem_map.mpr ⟨_, List.mem_range.mpr h2', ?_⟩
  rw [List.getD_eq_getElem?_getD, List.getElem?_eq_getElem h2']
  exact Prod.ext h3 rfl
theorem least_eq (ok : m.Ok) : ∃ s : Mc, F_least [eM m] = some (eM s) ∧ LeastOf m s ∧ canon s ∧ s.n ≤ m.n := by
  obtain ⟨R, f, e1, hn, hR, hf⟩ := same_parts_eq ok
  have hlt : ∀ q ∈ R, q < m.n := fun q hq => ((hR q).mp hq).lt ok
  have hc : ∀ q ∈ R, ∀ i < m.L, m.to q i ∈ R := fun q hq i hi => (hR _).mpr (((hR q).mp hq).to hi)
  obtain ⟨ch, e2, h1, h2⟩ := numbered_states_eq (f := f) ok hn hlt ((hR 0).mpr reach.zero) hc
  have nd : (ch.map f).Nodup := by rw [h2]; exact nodup_ded _
  have chl : ch.length ≤ m.n := by
    have := len_le (nodup_of_map nd) h1
    have := nodup_lt hn hlt
    omega
  have hbig := ok.big
  have h3 := ok.L3
  have hf' : ∀ p q, reach m p → reach m q → (f p = f q ↔ sim m p q) := fun p q hp hq => hf p ((hR p).mpr hp) q ((hR q).mpr hq)
  obtain ⟨l1, l2⟩ := least_of_f ok hf' (fun c hc => (hR c).mp (h1 c hc)) h2 (by omega)
  refine ⟨made m ch (idxF f ch), ?_, l1, l2, by show (List.map _ ch).length ≤ _; rw [List.length_map]; exact chl⟩
  rw [F_least, callF_1, b_least]
  have ll : lenF [.list (ch.map dN)] = some (dN ch.length) := by rw [len_l, List.length_map]
  have r1 := rng1_n (count := ch.length) (by omega)
  have xch : ∀ j, j < ch.length → ixD (.list (ch.map dN)) (dN j) = some (dN (ch.getD j 0)) := fun j hj => ix_numsL (by rw [List.getD_eq_getElem?_getD, List.getElem?_eq_getElem hj]; rfl)
  have chm : ∀ j, j < ch.length → ch.getD j 0 ∈ ch := fun j hj => by
    rw [List.getD_eq_getElem?_getD, List.getElem?_eq_getElem hj]
    exact List.getElem_mem hj
  have dc := dcL_map (ek := dNf) (ev := dNf) key_nat (i := 6) (ρ := [shD (eM m), shD (encPt R f), shD (.list (ch.map dN)), none, none, none, none, none, none]) (fk := o2 ixD (eW 1) (o2 ixD (eW 2) (eW 6))) (fv := eV 6) dNf (fun j => f (ch.getD j 0)) (fun j => j) (List.range ch.length) [] (fun j hj => by
    have hj := List.mem_range.mp hj
    simp only [shD, dv, xch j hj, ix_pt hn (h1 _ (chm j hj))]) (fun j _ => by simp only [shD, dv])
  have efold : (List.range ch.length).foldl (fun m j => mput m (f (ch.getD j 0)) j) [] = numD f ch := by
    have h := foldl_copy (numD f ch) [] (by rw [List.nil_append, numD_keys]; exact nd)
    rw [List.nil_append] at h
    rw [← h]
    unfold numD
    rw [List.foldl_map]
  rw [efold, show enM dNf dNf ([] : List (Nat × Nat)) = [] from rfl] at dc
  have dco : dcO (some ((List.range ch.length).map dN)) (gN 6) tYs (o2 ixD (eW 1) (o2 ixD (eW 2) (eW 6))) (eV 6) [shD (eM m), shD (encPt R f), shD (.list (ch.map dN)), none, none, none, none, none, none] = some (dM dNf dNf (numD f ch)) := by
    rw [dcO_s (by simp; omega), dc]
    rfl
  have xnum : ∀ q, reach m q → ixD (dM dNf dNf (numD f ch)) (dN (f q)) = some (dN (idxF f ch q)) := fun q hq => by
    have hv : f q ∈ ch.map f := by
      rw [h2, mem_ded]
      -- each reachable state's part comes up
      have := l1.lang
      obtain ⟨w, hw, e⟩ := hq
      subst e
      have gen : ∀ (w : List Nat) (p : Nat), reach m p → f p ∈ ch.map f → okw m.L w → f (m.run p w) ∈ ch.map f := by
        intro w
        induction w with
        | nil => exact fun p _ hp _ => hp
        | cons c w ih =>
          intro p hr hp hw
          have hcc := hw c List.mem_cons_self
          obtain ⟨d, hd, e⟩ := List.mem_map.mp hp
          have hdr := (hR d).mp (h1 d hd)
          have hs := (hf' d p hdr hr).mp e
          have e2 := (hf' _ _ (hdr.to hcc) (hr.to hcc)).mpr (hs.to hcc)
          refine ih _ (hr.to hcc) ?_ fun x hx => hw x (List.mem_cons_of_mem _ hx)
          rw [← e2, h2, mem_ded]
          exact List.mem_cons_of_mem _ (List.mem_flatMap.mpr ⟨d, hd, List.mem_map.mpr ⟨c, List.mem_range.mpr hcc, rfl⟩⟩)
      have := gen w 0 reach.zero (by rw [h2, mem_ded]; exact List.mem_cons_self) hw
      rwa [h2, mem_ded] at this
    exact ix_dM key_nat (numD_get nd hv)
  have lrow : ∀ c ∈ ch, lcO (some (((List.range m.L).map (m.to c)).map dN)) (gN 8) tYs (o2 ixD (eW 3) (o2 ixD (eW 1) (eW 8))) [shD (eM m), shD (encPt R f), shD (.list (ch.map dN)), shD (dM dNf dNf (numD f ch)), none, none, none, shD (dN c), none] = some (.list (((List.range m.L).map fun i => idxF f ch (m.to c i)).map dN)) := fun c hcm => by
    rw [lcO_s (by simp; omega)]
    have := lcL_map (i := 8) (a := o2 ixD (eW 3) (o2 ixD (eW 1) (eW 8))) (ρ := [shD (eM m), shD (encPt R f), shD (.list (ch.map dN)), shD (dM dNf dNf (numD f ch)), none, none, none, shD (dN c), none]) dN (fun x => dN (idxF f ch x)) ((List.range m.L).map (m.to c)) fun x hx => by
      obtain ⟨i, hi, rfl⟩ := List.mem_map.mp hx
      have hq := hc c (h1 c hcm) i (List.mem_range.mp hi)
      simp only [shD, dv, ix_pt hn hq, xnum _ ((hR _).mp hq)]
    rw [this, List.map_map, List.map_map]
    rfl
  have lrows : lcO (some (ch.map dN)) (gN 7) tYs (eCall tupF (lC (eLc [8] (iAny (o2 ixD (o2 ixD (eW 0) (eC (.int 1))) (eW 7))) (gN 8) tYs (o2 ixD (eW 3) (o2 ixD (eW 1) (eW 8)))) lN)) [shD (eM m), shD (encPt R f), shD (.list (ch.map dN)), shD (dM dNf dNf (numD f ch)), none, none, none, none, none] = some (.list ((made m ch (idxF f ch)).rows.map eR)) := by
    rw [lcO_s (by simp; omega)]
    have := lcL_map (i := 7) (a := eCall tupF (lC (eLc [8] (iAny (o2 ixD (o2 ixD (eW 0) (eC (.int 1))) (eW 7))) (gN 8) tYs (o2 ixD (eW 3) (o2 ixD (eW 1) (eW 8)))) lN)) (ρ := [shD (eM m), shD (encPt R f), shD (.list (ch.map dN)), shD (dM dNf dNf (numD f ch)), none, none, none, none, none]) dN (fun c => eR ((List.range m.L).map fun i => idxF f ch (m.to c i))) ch fun c hcm => by
      have hcl := hlt c (h1 c hcm)
      have lr := lrow c hcm
      have tp : tupF [.list (((List.range m.L).map fun i => idxF f ch (m.to c i)).map dN)] = some (eR ((List.range m.L).map fun i => idxF f ch (m.to c i))) := rfl
      simp only [shD] at lr
      simp only [shD, dv, ix_M1, ix_T ok hcl, items_row ok hcl, lr, tp]
    rw [this]
    show some (PyData.list _) = some (PyData.list ((ch.map fun c => (List.range m.L).map fun i => idxF f ch (m.to c i)).map eR))
    rw [List.map_map]
    rfl
  have lfin : lcO (some ((List.range ch.length).map dN)) (gN 6) (toT (eCall LM.F_is_final (lC (eV 0) (lC (o2 ixD (eW 2) (eW 6)) lN)))) (eV 6) [shD (eM m), shD (encPt R f), shD (.list (ch.map dN)), shD (dM dNf dNf (numD f ch)), shD (.list ((made m ch (idxF f ch)).rows.map eR)), none, none, none, none] = some (.list ((made m ch (idxF f ch)).fin.map dN)) := by
    rw [lcO_s (by simp; omega)]
    have := lcL_filter (i := 6) (t := toT (eCall LM.F_is_final (lC (eV 0) (lC (o2 ixD (eW 2) (eW 6)) lN)))) (a := eV 6) (ρ := [shD (eM m), shD (encPt R f), shD (.list (ch.map dN)), shD (dM dNf dNf (numD f ch)), shD (.list ((made m ch (idxF f ch)).rows.map eR)), none, none, none, none]) dN (fun j => decide (ch.getD j 0 ∈ m.fin)) dN (List.range ch.length) (fun j hj => by
      have hj := List.mem_range.mp hj
      have e := is_final_eq (m := m) (q := ch.getD j 0)
      simp only [shD, dv, xch j hj, e]) (fun j _ _ => by simp only [shD, dv])
    rw [this]
    rfl
  have itc : itemsD (.list (ch.map dN)) = some (ch.map dN) := rfl
  have t1 : tupF [.list ((made m ch (idxF f ch)).rows.map eR)] = some (eT (made m ch (idxF f ch))) := rfl
  have t2 : tupF [.list ((made m ch (idxF f ch)).fin.map dN)] = some (.tuple ((made m ch (idxF f ch)).fin.map dN)) := rfl
  simp only [shD] at dco lrows lfin
  simp only [dv, dv0, e1, e2, ll, r1, dco, itc, lrows, lfin, ix_M0, t1, t2]
  rfl
end
end LN

set_option Elab.async false
set_option linter.all false
set_option maxRecDepth 100000
set_option maxHeartbeats 4000000
/-! LN4: words that part states of two machines. -/
namespace LN
open PySem L2 DV LC MM LM MN
/-- a word leads just one of two states to a final one -/
def parts (a b : Mc) (p q : Nat) (w : List Nat) : Prop := ¬ (a.run p w ∈ a.fin ↔ b.run q w ∈ b.fin)
structure BP (a b : Mc) (p q : Nat) (ws : List ((Nat × Nat) × List Nat)) : Prop where
  nd : (ws.map (·.1)).Nodup
  sm : ∀ x ∈ ws, x.1.1 < a.n ∧ x.1.2 < b.n ∧ okw a.L x.2 ∧ a.run p x.2 = x.1.1 ∧ b.run q x.2 = x.1.2 ∧ x.2.length < ws.length
  st : (p, q) ∈ ws.map (·.1)
theorem BP.wl {a b : Mc} {p q : Nat} {ws : List ((Nat × Nat) × List Nat)} (B : BP a b p q ws) : ws.length ≤ a.n * b.n := by
  have := len_le (m := (List.range a.n).flatMap fun x => (List.range b.n).map fun y => (x, y)) B.nd fun x hx => by
    obtain ⟨z, hz, rfl⟩ := List.mem_map.mp hx
    obtain ⟨h1, h2, _⟩ := B.sm z hz
    exact List.mem_flatMap.mpr ⟨z.1.1, List.mem_range.mpr h1, List.mem_map.mpr ⟨z.1.2, List.mem_range.mpr h2, rfl⟩⟩
  rw [List.length_map] at this
  refine Nat.le_trans this (Nat.le_of_eq ?_)
  have gen : ∀ (l : List Nat), (l.flatMap fun x => (List.range b.n).map fun y => (x, y)).length = l.length * b.n := by
    intro l
    induction l with
    | nil => simp
    | cons x l ih => rw [List.flatMap_cons, List.length_append, ih, List.length_cons, Nat.succ_mul]; simp; omega
  rw [gen, List.length_range]
/-- closed up to a place, and no parting so far -/
def CP (a b : Mc) (ws : List ((Nat × Nat) × List Nat)) (at_ : Nat) : Prop := ∀ j < at_, ∀ x, ws[j]? = some x → (x.1.1 ∈ a.fin ↔ x.1.2 ∈ b.fin) ∧ ∀ i < a.L, (a.to x.1.1 i, b.to x.1.2 i) ∈ ws.map (·.1)
/-- one letter more of one pair -/
def pst (a b : Mc) (x y : Nat) (w : List Nat) (ws : List ((Nat × Nat) × List Nat)) (i : Nat) : List ((Nat × Nat) × List Nat) := if (a.to x i, b.to y i) ∈ ws.map (·.1) then ws else ws ++ [((a.to x i, b.to y i), w ++ [i])]
/-- the pairs with their words, as they stand when so many are done -/
def pit (a b : Mc) (p q : Nat) : Nat → List ((Nat × Nat) × List Nat)
  | 0 => [((p, q), [])]
  | k + 1 => match (pit a b p q k)[k]? with
    | some z => (List.range a.L).foldl (pst a b z.1.1 z.1.2 z.2) (pit a b p q k)
    | none => pit a b p q k
def first (a b : Mc) (p q k : Nat) (w : List Nat) : Prop := ∃ x y, (pit a b p q k)[k]? = some ((x, y), w) ∧ ¬ (x ∈ a.fin ↔ y ∈ b.fin) ∧ ∀ j < k, ∀ z, (pit a b p q k)[j]? = some z → (z.1.1 ∈ a.fin ↔ z.1.2 ∈ b.fin)
theorem gT2_eP {h : List D → DV.Env → Option DV.Env} {x y : Nat} {ρ : DV.Env} : gT 2 h (eP (x, y)) ρ = h [dN x, dN y] ρ := rfl
theorem eP_fold {x y : Nat} : PyData.tuple [dN x, dN y] = eP (x, y) := rfl
section
variable {a b : Mc} {p q : Nat}
theorem parting_inner (oka : a.Ok) (okb : b.Ok) (hL : a.L = b.L) {ws : List ((Nat × Nat) × List Nat)} {at_ x y : Nat} {w : List Nat} {o10 o11 : Option Sl} (hz : a.n * b.n < 1000000) (B : BP a b p q ws) (hx : ws[at_]? = some ((x, y), w)) :
    ∃ ws' o10' o11', forL (gN 10) L1_parting_from ((List.range a.L).map dN) [shD (eM a), shD (eM b), shD (dN p), shD (dN q), owD (dT2 eP dW ws), owD (.list ((ws.map (·.1)).map eP)), shD (dN at_), shD (dN x), shD (dN y), shD (dW w), o10, o11] =
      some (.nx [shD (eM a), shD (eM b), shD (dN p), shD (dN q), owD (dT2 eP dW ws'), owD (.list ((ws'.map (·.1)).map eP)), shD (dN at_), shD (dN x), shD (dN y), shD (dW w), o10', o11']) ∧ BP a b p q ws' ∧ (∃ ext, ws' = ws ++ ext) ∧ (∀ i < a.L, (a.to x i, b.to y i) ∈ ws'.map (·.1)) ∧ ws' = (List.range a.L).foldl (pst a b x y w) ws := by
  have hxm : ((x, y), w) ∈ ws := List.mem_of_getElem? hx
  obtain ⟨hxa, hyb, hw, ra, rb, hwl⟩ := B.sm _ hxm
  have hwl : w.length < ws.length := hwl
  have h3 := oka.L3
  obtain ⟨ρ, e, ws', o10', o11', rfl, B', hx', hp', hf'⟩ := for_list (i := 10) (s := L1_parting_from) dN (List.range a.L) (fun d ρ => ∃ (ws' : List ((Nat × Nat) × List Nat)) (o10' o11' : Option Sl), ρ = [shD (eM a), shD (eM b), shD (dN p), shD (dN q), owD (dT2 eP dW ws'), owD (.list ((ws'.map (·.1)).map eP)), shD (dN at_), shD (dN x), shD (dN y), shD (dW w), o10', o11'] ∧ BP a b p q ws' ∧ (∃ ext, ws' = ws ++ ext) ∧ (∀ i ∈ d, (a.to x i, b.to y i) ∈ ws'.map (·.1)) ∧ ws' = d.foldl (pst a b x y w) ws) (fun d i r ρ hs ⟨ws', o10', o11', hr, B', ⟨ext, hx'⟩, hp, hf⟩ => by
    subst hr
    have hi : i < a.L := List.mem_range.mp (by rw [hs]; simp)
    have hib : i < b.L := hL ▸ hi
    have hfa := oka.to_lt hxa hi
    have hfb := okb.to_lt hyb hib
    have wl := B'.wl
    have hlen : w.length < ws'.length := by rw [hx']; simp; omega
    have ad := add_wd (l := w) (m := [i]) (by simp; omega)
    have abi := LS.abc_ix (i := i) (by omega)
    have ni := nin_dT (ev := dW) key_pair ws' (a.to x i, b.to y i)
    by_cases hm : (a.to x i, b.to y i) ∈ ws'.map (·.1)
    · have hsm : (mget ws' (a.to x i, b.to y i)).isSome = true := by
        cases hg : mget ws' (a.to x i, b.to y i) with
        | some v => rfl
        | none => exact absurd hm (mget_none.mp hg)
      rw [hsm] at ni
      refine ⟨_, ?_, ws', shD (dN i), shD (eP (a.to x i, b.to y i)), rfl, B', ⟨ext, hx'⟩, fun j hj => ?_, by rw [List.foldl_append, ← hf]; exact (if_pos hm).symm⟩
      · simp only [L1_parting_from, shD, owD, dv, ix_M1, ix_T oka hxa, ix_R oka hxa hi, ix_T okb hyb, ix_R okb hyb hib, eP_fold, ni]
      · rcases List.mem_append.mp hj with z | z
        · exact hp j z
        · rw [List.mem_singleton.mp z]
          exact hm
    · have hg : mget ws' (a.to x i, b.to y i) = none := mget_none.mpr hm
      rw [hg] at ni
      have pu := put_dT (ev := dW) (v := w ++ [i]) key_pair (m := ws') (k := (a.to x i, b.to y i)) (by omega)
      rw [mput_new hm] at pu
      have ap := appS_s (i := 5) (d := eP (a.to x i, b.to y i)) (ρ := [shD (eM a), shD (eM b), shD (dN p), shD (dN q), owD (dT2 eP dW (ws' ++ [((a.to x i, b.to y i), w ++ [i])])), owD (.list ((ws'.map (·.1)).map eP)), shD (dN at_), shD (dN x), shD (dN y), shD (dW w), shD (dN i), shD (eP (a.to x i, b.to y i))]) (ds := (ws'.map (·.1)).map eP) (by simp; omega)
      refine ⟨[shD (eM a), shD (eM b), shD (dN p), shD (dN q), owD (dT2 eP dW (ws' ++ [((a.to x i, b.to y i), w ++ [i])])), owD (.list (((ws' ++ [((a.to x i, b.to y i), w ++ [i])]).map (·.1)).map eP)), shD (dN at_), shD (dN x), shD (dN y), shD (dW w), shD (dN i), shD (eP (a.to x i, b.to y i))], ?_, _, _, _, rfl, ⟨?_, fun z hz => ?_, ?_⟩, ⟨ext ++ [((a.to x i, b.to y i), w ++ [i])], by rw [hx']; simp⟩, fun j hj => ?_, by rw [List.foldl_append, ← hf]; exact (if_neg hm).symm⟩
      · simp only [shD, owD] at ap
        simp only [L1_parting_from, shD, owD, dv, abc_wd, ix_M1, ix_T oka hxa, ix_R oka hxa hi, ix_T okb hyb, ix_R okb hyb hib, eP_fold, ni, Option.isSome_none, abi, ad, pu, ap]
        rw [List.map_append, List.map_append]
        rfl
      · rw [List.map_append, List.nodup_append]
        exact ⟨B'.nd, by simp, fun u hu v hv => by
          simp at hv
          subst hv
          exact fun z => hm (z ▸ hu)⟩
      · rcases List.mem_append.mp hz with z' | z'
        · obtain ⟨c1, c2, c3, c4, c5, c6⟩ := B'.sm z z'
          exact ⟨c1, c2, c3, c4, c5, by simp; omega⟩
        · rw [List.mem_singleton.mp z']
          exact ⟨hfa, hfb, hw.app (okw.one hi), by rw [run_snoc, ra], by rw [run_snoc, rb], by simp; omega⟩
      · rw [List.map_append]
        exact List.mem_append_left _ B'.st
      · rw [List.map_append]
        rcases List.mem_append.mp hj with z | z
        · exact List.mem_append_left _ (hp j z)
        · rw [List.mem_singleton.mp z]
          simp) (ρ := [shD (eM a), shD (eM b), shD (dN p), shD (dN q), owD (dT2 eP dW ws), owD (.list ((ws.map (·.1)).map eP)), shD (dN at_), shD (dN x), shD (dN y), shD (dW w), o10, o11]) ⟨ws, _, _, rfl, B, ⟨[], by simp⟩, (fun i hi => by cases hi), rfl⟩
  exact ⟨ws', o10', o11', e, B', hx', fun i hi => hp' i (List.mem_range.mpr hi), hf'⟩
theorem parting_from_first (oka : a.Ok) (okb : b.Ok) (hL : a.L = b.L) (hz : a.n * b.n < 1000000) (hp : p < a.n) (hq : q < b.n) :
    (F_parting_from [eM a, eM b, dN p, dN q] = some .none ∧ ∀ w, okw a.L w → (a.run p w ∈ a.fin ↔ b.run q w ∈ b.fin)) ∨ ∃ w, F_parting_from [eM a, eM b, dN p, dN q] = some (dW w) ∧ okw a.L w ∧ parts a b p q w ∧ w.length < a.n * b.n ∧ ∃ k, first a b p q k w := by
  have B0 : BP a b p q [((p, q), [])] := ⟨by simp, fun x hx => by rw [List.mem_singleton.mp hx]; exact ⟨hp, hq, okw.nil, rfl, rfl, by simp⟩, by simp⟩
  have h3 := oka.L3
  obtain ⟨o, e, ho⟩ := while_inv (c := toT (o2 ltD (eW 6) (eCall lenF (lC (eW 5) lN)))) (s := L2_parting_from)
    (fun k ρ => ∃ (ws : List ((Nat × Nat) × List Nat)) (at_ : Nat) (o7 o8 o9 o10 o11 : Option Sl), k + at_ = a.n * b.n ∧ at_ ≤ ws.length ∧ BP a b p q ws ∧ CP a b ws at_ ∧ ws = pit a b p q at_ ∧ ρ = [shD (eM a), shD (eM b), shD (dN p), shD (dN q), owD (dT2 eP dW ws), owD (.list ((ws.map (·.1)).map eP)), shD (dN at_), o7, o8, o9, o10, o11])
    (fun o => (∃ ρ, o = .nx ρ ∧ ∃ ws, BP a b p q ws ∧ CP a b ws ws.length) ∨ ∃ w, o = .rt (dW w) ∧ okw a.L w ∧ parts a b p q w ∧ w.length < a.n * b.n ∧ ∃ k, first a b p q k w)
    (fun k ρ ⟨ws, at_, o7, o8, o9, o10, o11, hk, ha, B, C, hpit, hr⟩ => by
      subst hr
      have wl := B.wl
      have ll : lenF [.list ((ws.map (·.1)).map eP)] = some (dN ws.length) := by rw [len_l, List.length_map, List.length_map]
      by_cases hlt : at_ < ws.length
      · obtain ⟨⟨⟨x, y⟩, w⟩, hxe⟩ : ∃ z, ws[at_] = z := ⟨_, rfl⟩
        have hx : ws[at_]? = some ((x, y), w) := by rw [List.getElem?_eq_getElem hlt, hxe]
        have hxm : ((x, y), w) ∈ ws := List.mem_of_getElem? hx
        obtain ⟨hxa, hyb, hw, ra, rb, hwl⟩ := B.sm _ hxm
        have hwl : w.length < ws.length := hwl
        have l := lt_nn (a := at_) (b := ws.length)
        rw [decide_eq_true hlt] at l
        have xw : ixD (.list ((ws.map (·.1)).map eP)) (dN at_) = some (eP (x, y)) := ix_l (by rw [List.map_map, List.getElem?_map, hx]; rfl)
        have xd : ixD (dT2 eP dW ws) (eP (x, y)) = some (dW w) := ix_dT key_pair (mget_of_mem B.nd hxm)
        have f1 := is_final_eq (m := a) (q := x)
        have f2 := is_final_eq (m := b) (q := y)
        refine .inr ⟨by simp only [shD, owD, dv, ll, l], ?_⟩
        by_cases hd : decide (x ∈ a.fin) = decide (y ∈ b.fin)
        · obtain ⟨ws', o10', o11', e, B', ⟨ext, hx'⟩, hp', hf'⟩ := parting_inner (o10 := o10) (o11 := o11) oka okb hL hz B hx
          have wl' := B'.wl
          have r1 := rng1_n (count := a.L) (by omega)
          have hal : at_ + 1 ≤ ws'.length := by rw [hx']; simp; omega
          refine .inl ⟨_, ?_, k - 1, by omega, ws', at_ + 1, shD (dN x), shD (dN y), shD (dW w), o10', o11', by omega, hal, B', fun j hj z hzj => ?_, by rw [pit, ← hpit, hx]; exact hf', rfl⟩
          · simp only [shD, owD] at e
            have nb : neD (.bool (decide (x ∈ a.fin))) (.bool (decide (y ∈ b.fin))) = some (.bool false) := by rw [ne_bb, decide_eq_true hd]; rfl
            simp only [L2_parting_from, shD, owD, dv, xw, gT2_eP, eP_fold, xd, f1, f2, nb, ix_M0, r1, e]
            rfl
          · by_cases hja : j < at_
            · rw [hx', List.getElem?_append_left (by omega)] at hzj
              obtain ⟨g1, g2⟩ := C j hja z hzj
              refine ⟨g1, fun i hi => ?_⟩
              rw [hx', List.map_append]
              exact List.mem_append_left _ (g2 i hi)
            · have : j = at_ := by omega
              subst this
              rw [hx', List.getElem?_append_left hlt, hx] at hzj
              cases hzj
              exact ⟨decide_eq_decide.mp hd, hp'⟩
        · refine .inr ⟨dW w, ?_, .inr ⟨w, rfl, hw, fun z => hd ?_, by omega, at_, x, y, by rw [← hpit]; exact hx, fun z => hd (decide_eq_decide.mpr z), fun j hj z hz => (C j hj z (by rw [hpit]; exact hz)).1⟩⟩
          · have nb : neD (.bool (decide (x ∈ a.fin))) (.bool (decide (y ∈ b.fin))) = some (.bool true) := by rw [ne_bb, decide_eq_false hd]; rfl
            simp only [L2_parting_from, shD, owD, dv, xw, gT2_eP, eP_fold, xd, f1, f2, nb]
          · rw [ra, rb] at z
            exact decide_eq_decide.mpr z
      · have : at_ = ws.length := by omega
        subst this
        have l := lt_nn (a := ws.length) (b := ws.length)
        rw [decide_eq_false (Nat.lt_irrefl _)] at l
        exact .inl ⟨by simp only [shD, owD, dv, ll, l], .inl ⟨_, rfl, ws, B, C⟩⟩) (a.n * b.n) 1000000 [shD (eM a), shD (eM b), shD (dN p), shD (dN q), owD (dT2 eP dW [((p, q), [])]), owD (.list ([(p, q)].map eP)), shD (dN 0), none, none, none, none, none] hz
      ⟨[((p, q), [])], 0, none, none, none, none, none, by omega, by simp, B0, fun j hj => absurd hj (by omega), rfl, rfl⟩
  have run : F_parting_from [eM a, eM b, dN p, dN q] = endF (thenS (some o) (sRet (eC .none))) := by
    rw [F_parting_from, callF_4, b_parting_from]
    simp only [shD, owD] at e
    have e' : whileL (toT (o2 ltD (eW 6) (eCall lenF (lC (eW 5) lN)))) L2_parting_from 1000000 [some (.shr (eM a)), some (.shr (eM b)), some (.shr (dN p)), some (.shr (dN q)), some (.own (dT2 eP dW [((p, q), [])])), some (.own (.list [eP (p, q)])), some (.shr (.int 0)), none, none, none, none, none] = _ := e
    have d1 : eD1T (eTup (lC (eV 2) (lC (eV 3) lN))) (eC (.str "")) [some (.shr (eM a)), some (.shr (eM b)), some (.shr (dN p)), some (.shr (dN q)), none, none, none, none, none, none, none, none] = some (dT2 eP dW [((p, q), [])]) := one_dT key_pair (p, q) [] (by simp only [dv]; rfl) (by simp only [dv, nil_wd])
    simp only [dv, dv0, d1, eP_fold, sWh, e']
  rcases ho with ⟨ρ, rfl, ws, B, C⟩ | ⟨w, rfl, h⟩
  · refine .inl ⟨by rw [run]; simp only [dv], ?_⟩
    have gen : ∀ (w : List Nat) (x y : Nat), (x, y) ∈ ws.map (·.1) → okw a.L w → (a.run x w ∈ a.fin ↔ b.run y w ∈ b.fin) := by
      intro w
      induction w with
      | nil =>
        intro x y h _
        obtain ⟨z, hz, e⟩ := List.mem_map.mp h
        obtain ⟨j, hj, ej⟩ := List.mem_iff_getElem.mp hz
        have := (C j hj z (by rw [List.getElem?_eq_getElem hj, ej])).1
        rw [e] at this
        exact this
      | cons c w ih =>
        intro x y h hw
        obtain ⟨z, hz, e⟩ := List.mem_map.mp h
        obtain ⟨j, hj, ej⟩ := List.mem_iff_getElem.mp hz
        have := (C j hj z (by rw [List.getElem?_eq_getElem hj, ej])).2 c (hw c List.mem_cons_self)
        rw [e] at this
        exact ih _ _ this fun u hu => hw u (List.mem_cons_of_mem _ hu)
    exact fun w hw => gen w p q B.st hw
  · exact .inr ⟨w, by rw [run]; simp only [dv], h⟩
theorem parting_from_eq (oka : a.Ok) (okb : b.Ok) (hL : a.L = b.L) (hz : a.n * b.n < 1000000) (hp : p < a.n) (hq : q < b.n) :
    (F_parting_from [eM a, eM b, dN p, dN q] = some .none ∧ ∀ w, okw a.L w → (a.run p w ∈ a.fin ↔ b.run q w ∈ b.fin)) ∨ ∃ w, F_parting_from [eM a, eM b, dN p, dN q] = some (dW w) ∧ okw a.L w ∧ parts a b p q w ∧ w.length < a.n * b.n := by
  rcases parting_from_first oka okb hL hz hp hq with h | ⟨w, h1, h2, h3, h4, _⟩
  · exact .inl h
  · exact .inr ⟨w, h1, h2, h3, h4⟩
theorem telling_run {m : Mc} : F_telling_word [eM m, dN p, dN q] = F_parting_from [eM m, eM m, dN p, dN q] := by
  rw [F_telling_word, callF_3, b_telling_word]
  simp only [dv, dv0]
  cases F_parting_from [eM m, eM m, dN p, dN q] <;> rfl
theorem telling_word_eq {m : Mc} (ok : m.Ok) (hz : m.n * m.n < 1000000) (hp : p < m.n) (hq : q < m.n) :
    (F_telling_word [eM m, dN p, dN q] = some .none ∧ sim m p q) ∨ ∃ w, F_telling_word [eM m, dN p, dN q] = some (dW w) ∧ okw m.L w ∧ parts m m p q w ∧ w.length < m.n * m.n := by
  have run : F_telling_word [eM m, dN p, dN q] = F_parting_from [eM m, eM m, dN p, dN q] := by
    rw [F_telling_word, callF_3, b_telling_word]
    simp only [dv, dv0]
    cases F_parting_from [eM m, eM m, dN p, dN q] <;> rfl
  rw [run]
  exact parting_from_eq ok ok rfl hz hp hq
end
end LN

set_option Elab.async false
set_option linter.all false
set_option maxRecDepth 100000
set_option maxHeartbeats 4000000
/-! LN5: pairs of states that are parted, by the law. -/
namespace LN
open PySem L2 DV LC MM LM MN
def prD (ks : List (Nat × Nat)) : D := dT2 eP bl (ks.map fun k => (k, true))
theorem pr_keys (ks : List (Nat × Nat)) : (ks.map fun k => (k, true)).map (·.1) = ks := by
  rw [List.map_map]
  exact List.map_id _
theorem pr_get (ks : List (Nat × Nat)) (k : Nat × Nat) : (mget (ks.map fun k => (k, true)) k).isSome = decide (k ∈ ks) := by
  by_cases h : k ∈ ks
  · rw [decide_eq_true h]
    cases hg : mget (ks.map fun k => (k, true)) k with
    | some b => rfl
    | none => exact absurd (by rw [pr_keys]; exact h) (mget_none.mp hg)
  · rw [decide_eq_false h, mget_none.mpr (by rw [pr_keys]; exact h)]
    rfl
theorem in_pr (ks : List (Nat × Nat)) (x y : Nat) : inD (eP (x, y)) (prD ks) = some (.bool (decide ((x, y) ∈ ks))) := by
  have := in_dT (ev := bl) key_pair (ks.map fun k => (k, true)) (x, y)
  rw [pr_get] at this
  exact this
theorem nin_pr (ks : List (Nat × Nat)) (x y : Nat) : ninD (eP (x, y)) (prD ks) = some (.bool (!decide ((x, y) ∈ ks))) := by
  have := nin_dT (ev := bl) key_pair (ks.map fun k => (k, true)) (x, y)
  rw [pr_get] at this
  exact this
theorem put_pr {ks : List (Nat × Nat)} {k : Nat × Nat} (h : ks.length < 16777216) : putO (prD ks) (eP k) (.bool true) = some (prD (if k ∈ ks then ks else ks ++ [k])) := by
  have := put_dT (ev := bl) (v := true) key_pair (m := ks.map fun k => (k, true)) (k := k) (by simpa using h)
  by_cases hm : k ∈ ks
  · rw [if_pos hm]
    have e : mput (ks.map fun k => (k, true)) k true = ks.map fun k => (k, true) := by
      unfold mput
      rw [if_pos (by rw [pr_keys]; exact hm), List.map_map]
      refine List.map_congr_left fun x _ => ?_
      simp only [Function.comp_def]
      split <;> rfl
    rw [e] at this
    exact this
  · rw [if_neg hm]
    rw [mput_new (by rw [pr_keys]; exact hm)] at this
    unfold prD
    rw [List.map_append]
    exact this
theorem len_pr (ks : List (Nat × Nat)) : lenTD (prD ks) = some (dN ks.length) := by
  have := len_dT (ek := eP) (ev := bl) (ks.map fun k => (k, true))
  rw [List.length_map] at this
  exact this
def apartP (m : Mc) (ks : List (Nat × Nat)) (p q : Nat) : Prop := ¬ (p ∈ m.fin ↔ q ∈ m.fin) ∨ ∃ i, i < m.L ∧ (m.to p i, m.to q i) ∈ ks
structure PK (m : Mc) (R : List Nat) (ks : List (Nat × Nat)) : Prop where
  nd : ks.Nodup
  sd : ∀ k ∈ ks, k.1 ∈ R ∧ k.2 ∈ R ∧ ¬ sim m k.1 k.2
theorem PK.len {m : Mc} {R : List Nat} {ks : List (Nat × Nat)} (h : PK m R ks) : ks.length ≤ R.length * R.length := by
  have := len_le (m := R.flatMap fun x => R.map fun y => (x, y)) h.nd fun k hk => by
    obtain ⟨h1, h2, _⟩ := h.sd k hk
    exact List.mem_flatMap.mpr ⟨k.1, h1, List.mem_map.mpr ⟨k.2, h2, rfl⟩⟩
  refine Nat.le_trans this (Nat.le_of_eq ?_)
  have gen : ∀ (l : List Nat), (l.flatMap fun x => R.map fun y => (x, y)).length = l.length * R.length := by
    intro l
    induction l with
    | nil => simp
    | cons x l ih => rw [List.flatMap_cons, List.length_append, ih, List.length_cons, Nat.succ_mul]; simp; omega
  exact gen R
theorem apart_sound {m : Mc} {R : List Nat} {ks : List (Nat × Nat)} (h : PK m R ks) {p q : Nat} (a : apartP m ks p q) : ¬ sim m p q := by
  rintro s
  rcases a with a | ⟨i, hi, a⟩
  · exact a s.fin
  · exact (h.sd _ a).2.2 (s.to hi)
theorem PK.add {m : Mc} {R : List Nat} {ks : List (Nat × Nat)} (h : PK m R ks) {p q : Nat} (hp : p ∈ R) (hq : q ∈ R) (a : apartP m ks p q) : PK m R (if (p, q) ∈ ks then ks else ks ++ [(p, q)]) := by
  by_cases hm : (p, q) ∈ ks
  · rw [if_pos hm]; exact h
  · rw [if_neg hm]
    refine ⟨?_, fun k hk => ?_⟩
    · rw [List.nodup_append]
      exact ⟨h.nd, by simp, fun u hu v hv => by
        rw [List.mem_singleton.mp hv]
        exact fun z => hm (z ▸ hu)⟩
    · rcases List.mem_append.mp hk with z | z
      · exact h.sd k z
      · rw [List.mem_singleton.mp z]
        exact ⟨hp, hq, apart_sound h a⟩
section
variable {m : Mc} {R : List Nat}
/-- one pair -/
theorem parted_pair (ok : m.Ok) (hR : ∀ q ∈ R, q < m.n) (hl : R.length * R.length < 999990) {ks : List (Nat × Nat)} (h : PK m R ks) {p q : Nat} (hp : p ∈ R) (hq : q ∈ R) {o3 o6 o7 : Option Sl} :
    ∃ ks' o6' o7', L2_law_parted [shD (eM m), shD (.list (R.map dN)), owD (prD ks), o3, shD (dN p), shD (dN q), o6, o7] =
      some (.nx [shD (eM m), shD (.list (R.map dN)), owD (prD ks'), o3, shD (dN p), shD (dN q), o6', o7']) ∧ PK m R ks' ∧ (∃ ext, ks' = ks ++ ext) ∧ (apartP m ks p q → (p, q) ∈ ks') := by
  have h3 := ok.L3
  have hpl := hR p hp
  have hql := hR q hq
  obtain ⟨ρ, e, ap, o7', rfl, hap⟩ := for_list (i := 7) (s := L1_law_parted) dN (List.range m.L) (fun d ρ => ∃ (ap : Bool) (o7 : Option Sl), ρ = [shD (eM m), shD (.list (R.map dN)), owD (prD ks), o3, shD (dN p), shD (dN q), shD (.bool ap), o7] ∧ (ap = true ↔ (¬ (p ∈ m.fin ↔ q ∈ m.fin) ∨ ∃ i ∈ d, (m.to p i, m.to q i) ∈ ks))) (fun d i r ρ hs ⟨ap, o7, hr, hap⟩ => by
    subst hr
    have hi : i < m.L := List.mem_range.mp (by rw [hs]; simp)
    have ip := in_pr ks (m.to p i) (m.to q i)
    by_cases hm : (m.to p i, m.to q i) ∈ ks
    · rw [decide_eq_true hm] at ip
      refine ⟨_, ?_, true, shD (dN i), rfl, ⟨fun _ => .inr ⟨i, by simp, hm⟩, fun _ => rfl⟩⟩
      simp only [L1_law_parted, shD, owD, dv, ix_M1, ix_T ok hpl, ix_R ok hpl hi, ix_T ok hql, ix_R ok hql hi, eP_fold, ip]
    · rw [decide_eq_false hm] at ip
      refine ⟨_, ?_, ap, shD (dN i), rfl, hap.trans ⟨fun z => ?_, fun z => ?_⟩⟩
      · simp only [L1_law_parted, shD, owD, dv, ix_M1, ix_T ok hpl, ix_R ok hpl hi, ix_T ok hql, ix_R ok hql hi, eP_fold, ip]
      · rcases z with z | ⟨j, hj, z⟩
        · exact .inl z
        · exact .inr ⟨j, List.mem_append_left _ hj, z⟩
      · rcases z with z | ⟨j, hj, z⟩
        · exact .inl z
        · rcases List.mem_append.mp hj with y | y
          · exact .inr ⟨j, y, z⟩
          · rw [List.mem_singleton.mp y] at z
            exact absurd z hm) (ρ := [shD (eM m), shD (.list (R.map dN)), owD (prD ks), o3, shD (dN p), shD (dN q), shD (.bool (!decide (decide (p ∈ m.fin) = decide (q ∈ m.fin)))), o7]) ⟨_, o7, rfl, by simp⟩
  have r1 := rng1_n (count := m.L) (by omega)
  have hap2 : ap = true ↔ apartP m ks p q := by
    rw [hap]
    unfold apartP
    simp
  have kl := h.len
  have f1 := inD_T p m.fin
  have f2 := inD_T q m.fin
  simp only [shD, owD] at e
  cases hb : ap with
  | true =>
    rw [hb] at e
    have pu := put_pr (ks := ks) (k := (p, q)) (by omega)
    refine ⟨if (p, q) ∈ ks then ks else ks ++ [(p, q)], shD (.bool true), o7', ?_, h.add hp hq (hap2.mp hb), ?_, fun _ => ?_⟩
    · simp only [L2_law_parted, shD, owD, dv, ix_M2, f1, f2, ne_bb, ix_M0, r1, e, eP_fold, pu]
    · by_cases hm : (p, q) ∈ ks
      · rw [if_pos hm]; exact ⟨[], by simp⟩
      · rw [if_neg hm]; exact ⟨_, rfl⟩
    · by_cases hm : (p, q) ∈ ks
      · rw [if_pos hm]; exact hm
      · rw [if_neg hm]; simp
  | false =>
    rw [hb] at e
    refine ⟨ks, shD (.bool false), o7', ?_, h, ⟨[], by simp⟩, fun a => ?_⟩
    · simp only [L2_law_parted, shD, owD, dv, ix_M2, f1, f2, ne_bb, ix_M0, r1, e]
    · rw [hap2.mpr a] at hb
      cases hb
theorem parted_round (ok : m.Ok) (hR : ∀ q ∈ R, q < m.n) (hl : R.length * R.length < 999990) {ks : List (Nat × Nat)} (h : PK m R ks) {o3 o4 o5 o6 o7 : Option Sl} :
    ∃ ks' o4' o5' o6' o7', L4_law_parted [shD (eM m), shD (.list (R.map dN)), owD (prD ks), o3, o4, o5, o6, o7] =
      some (.nx [shD (eM m), shD (.list (R.map dN)), owD (prD ks'), shD (dN ks.length), o4', o5', o6', o7']) ∧ PK m R ks' ∧ (∃ ext, ks' = ks ++ ext) ∧ ∀ p ∈ R, ∀ q ∈ R, apartP m ks p q → (p, q) ∈ ks' := by
  have it : itemsD (.list (R.map dN)) = some (R.map dN) := rfl
  have mono : ∀ {k1 k2 : List (Nat × Nat)} {p q : Nat}, (∃ ext, k2 = k1 ++ ext) → apartP m k1 p q → apartP m k2 p q := fun ⟨ext, e⟩ a => by
    rcases a with a | ⟨i, hi, a⟩
    · exact .inl a
    · exact .inr ⟨i, hi, by rw [e]; exact List.mem_append_left _ a⟩
  have inner : ∀ (p : Nat), p ∈ R → ∀ (k1 : List (Nat × Nat)), PK m R k1 → ∀ (o5 o6 o7 : Option Sl), ∃ k2 o5' o6' o7', L3_law_parted [shD (eM m), shD (.list (R.map dN)), owD (prD k1), shD (dN ks.length), shD (dN p), o5, o6, o7] =
      some (.nx [shD (eM m), shD (.list (R.map dN)), owD (prD k2), shD (dN ks.length), shD (dN p), o5', o6', o7']) ∧ PK m R k2 ∧ (∃ ext, k2 = k1 ++ ext) ∧ ∀ q ∈ R, apartP m k1 p q → (p, q) ∈ k2 := fun p hp k1 h1 o5 o6 o7 => by
    obtain ⟨ρ, e, k2, o5', o6', o7', rfl, h2, hx, ha⟩ := for_list (i := 5) (s := L2_law_parted) dN R (fun d ρ => ∃ (k2 : List (Nat × Nat)) (o5 o6 o7 : Option Sl), ρ = [shD (eM m), shD (.list (R.map dN)), owD (prD k2), shD (dN ks.length), shD (dN p), o5, o6, o7] ∧ PK m R k2 ∧ (∃ ext, k2 = k1 ++ ext) ∧ ∀ q ∈ d, apartP m k1 p q → (p, q) ∈ k2) (fun d q r ρ hs ⟨k2, o5, o6, o7, hr, h2, ⟨ext, hx⟩, ha⟩ => by
      subst hr
      have hq : q ∈ R := by rw [hs]; simp
      obtain ⟨k3, o6', o7', e, h3, ⟨ext3, hx3⟩, ha3⟩ := parted_pair (o3 := shD (dN ks.length)) (o6 := o6) (o7 := o7) ok hR hl h2 hp hq
      refine ⟨_, e, k3, _, _, _, rfl, h3, ⟨ext ++ ext3, by rw [hx3, hx]; simp⟩, fun x hx' a => ?_⟩
      rcases List.mem_append.mp hx' with z | z
      · rw [hx3]
        exact List.mem_append_left _ (ha x z a)
      · rw [List.mem_singleton.mp z] at a ⊢
        exact ha3 (mono ⟨ext, hx⟩ a)) (ρ := [shD (eM m), shD (.list (R.map dN)), owD (prD k1), shD (dN ks.length), shD (dN p), o5, o6, o7]) ⟨k1, o5, o6, o7, rfl, h1, ⟨[], by simp⟩, fun q hq => by cases hq⟩
    refine ⟨k2, o5', o6', o7', ?_, h2, hx, ha⟩
    simp only [shD, owD] at e
    simp only [L3_law_parted, shD, owD, dv, it, e]
  obtain ⟨ρ, e, k2, o4', o5', o6', o7', rfl, h2, hx, ha⟩ := for_list (i := 4) (s := L3_law_parted) dN R (fun d ρ => ∃ (k2 : List (Nat × Nat)) (o4 o5 o6 o7 : Option Sl), ρ = [shD (eM m), shD (.list (R.map dN)), owD (prD k2), shD (dN ks.length), o4, o5, o6, o7] ∧ PK m R k2 ∧ (∃ ext, k2 = ks ++ ext) ∧ ∀ p ∈ d, ∀ q ∈ R, apartP m ks p q → (p, q) ∈ k2) (fun d p r ρ hs ⟨k2, o4, o5, o6, o7, hr, h2, ⟨ext, hx⟩, ha⟩ => by
    subst hr
    have hp : p ∈ R := by rw [hs]; simp
    obtain ⟨k3, o5', o6', o7', e, h3, ⟨ext3, hx3⟩, ha3⟩ := inner p hp k2 h2 o5 o6 o7
    refine ⟨_, e, k3, _, _, _, _, rfl, h3, ⟨ext ++ ext3, by rw [hx3, hx]; simp⟩, fun x hx' q hq a => ?_⟩
    rcases List.mem_append.mp hx' with z | z
    · rw [hx3]
      exact List.mem_append_left _ (ha x z q hq a)
    · rw [List.mem_singleton.mp z] at a ⊢
      exact ha3 q hq (mono ⟨ext, hx⟩ a)) (ρ := [shD (eM m), shD (.list (R.map dN)), owD (prD ks), shD (dN ks.length), o4, o5, o6, o7]) ⟨ks, o4, o5, o6, o7, rfl, h, ⟨[], by simp⟩, fun p hp => by cases hp⟩
  refine ⟨k2, o4', o5', o6', o7', ?_, h2, hx, ha⟩
  simp only [shD, owD] at e
  simp only [L4_law_parted, shD, owD, dv, len_pr, it, e]
theorem parted_eq (ok : m.Ok) (hR : ∀ q ∈ R, q < m.n) (hc : ∀ q ∈ R, ∀ i < m.L, m.to q i ∈ R) (hl : R.length * R.length < 999990) : ∃ ks : List (Nat × Nat), F_law_parted [eM m, .list (R.map dN)] = some (prD ks) ∧ ∀ p ∈ R, ∀ q ∈ R, (p, q) ∈ ks ↔ ¬ sim m p q := by
  obtain ⟨o, e, ks, o3, o4, o5, o6, o7, ho, h1, h2⟩ := while_inv (c := toT (o2 gtD (o1 lenTD (eW 2)) (eW 3))) (s := L4_law_parted)
    (fun k ρ => ∃ (ks : List (Nat × Nat)) (bf : Int) (o4 o5 o6 o7 : Option Sl), (k : Int) + bf = R.length * R.length ∧ PK m R ks ∧ (bf = -1 ∨ ∃ k0 ext, ks = k0 ++ ext ∧ bf = k0.length ∧ ∀ p ∈ R, ∀ q ∈ R, apartP m k0 p q → (p, q) ∈ ks) ∧ ρ = [shD (eM m), shD (.list (R.map dN)), owD (prD ks), shD (.int bf), o4, o5, o6, o7])
    (fun o => ∃ (ks : List (Nat × Nat)) (o3 o4 o5 o6 o7 : Option Sl), o = .nx [shD (eM m), shD (.list (R.map dN)), owD (prD ks), o3, o4, o5, o6, o7] ∧ PK m R ks ∧ ∀ p ∈ R, ∀ q ∈ R, apartP m ks p q → (p, q) ∈ ks)
    (fun k ρ ⟨ks, bf, o4, o5, o6, o7, hk, h, hb, hr⟩ => by
      subst hr
      have kl := h.len
      by_cases hlt : bf < (ks.length : Int)
      · obtain ⟨ks', o4', o5', o6', o7', e, h', ⟨ext, hx⟩, ha⟩ := parted_round (o3 := shD (.int bf)) (o4 := o4) (o5 := o5) (o6 := o6) (o7 := o7) ok hR hl h
        refine .inr ⟨by simp only [shD, owD, dv, len_pr, decide_eq_true hlt], .inl ⟨_, e, R.length * R.length - ks.length, ?_, ks', (ks.length : Int), o4', o5', o6', o7', by omega, h', .inr ⟨ks, ext, hx, rfl, ha⟩, rfl⟩⟩
        omega
      · refine .inl ⟨by simp only [shD, owD, dv, len_pr, decide_eq_false hlt], ks, _, _, _, _, _, rfl, h, ?_⟩
        rcases hb with hb | ⟨k0, ext, hx, hbl, ha⟩
        · omega
        · have : ext = [] := by
            have := congrArg List.length hx
            rw [List.length_append] at this
            exact List.eq_nil_of_length_eq_zero (by omega)
          rw [this, List.append_nil] at hx
          rw [← hx] at ha
          exact ha) (R.length * R.length + 1) 1000000 [shD (eM m), shD (.list (R.map dN)), owD (prD []), shD (.int (0 - 1)), none, none, none, none] (by omega)
      ⟨[], -1, none, none, none, none, by omega, ⟨.nil, fun k hk => by cases hk⟩, .inl rfl, rfl⟩
  subst ho
  refine ⟨ks, ?_, fun p hp q hq => ⟨fun hk => (h1.sd _ hk).2.2, fun hn => ?_⟩⟩
  · rw [F_law_parted, callF_2, b_law_parted]
    have e' : whileL (toT (o2 gtD (o1 lenTD (eW 2)) (eW 3))) L4_law_parted 1000000 [some (.shr (eM m)), some (.shr (.list (R.map dN))), some (.own (.dict [(.none, .int 1)])), some (.shr (.int (0 - 1))), none, none, none, none] = _ := e
    simp only [shD, owD] at e'
    simp only [dv, dv0, sWh, e']
  · refine Classical.not_not.mp fun hno => hn fun w hw => ?_
    exact sim_of (R := R) (E := fun p q => (p, q) ∉ ks) hc (fun p hp q hq hk => Classical.not_not.mp fun z => hk (h2 p hp q hq (.inl z))) (fun p hp q hq hk i hi z => hk (h2 p hp q hq (.inr ⟨i, hi, z⟩))) w p q hp hq hno hw
end
end LN

set_option Elab.async false
set_option linter.all false
set_option maxRecDepth 100000
set_option maxHeartbeats 4000000
/-! LN6: the least machine, by the law. -/
namespace LN
open PySem L2 DV LC MM LM MN
noncomputable def simB (m : Mc) (p q : Nat) : Bool := @decide (sim m p q) (Classical.propDecidable _)
theorem simB_iff {m : Mc} {p q : Nat} : simB m p q = true ↔ sim m p q := @decide_eq_true_iff _ (Classical.propDecidable _)
section
variable {m : Mc}
theorem nin_sim {R : List Nat} {ks : List (Nat × Nat)} (h : ∀ p ∈ R, ∀ q ∈ R, (p, q) ∈ ks ↔ ¬ sim m p q) {p q : Nat} (hp : p ∈ R) (hq : q ∈ R) : ninD (eP (p, q)) (prD ks) = some (.bool (simB m p q)) := by
  rw [nin_pr]
  congr 2
  rw [Bool.eq_iff_iff, simB_iff]
  by_cases hk : (p, q) ∈ ks
  · rw [decide_eq_true hk]
    exact ⟨fun z => (by cases z), fun z => absurd z ((h p hp q hq).mp hk)⟩
  · rw [decide_eq_false hk]
    exact ⟨fun _ => Classical.not_not.mp fun z => hk ((h p hp q hq).mpr z), fun _ => rfl⟩
/-! ### all states that letters lead to -/
theorem found_turn (ok : m.Ok) {fd : List Nat} {at_ c : Nat} {o3 : Option Sl} (hfd : ∀ x ∈ fd, reach m x) (hat : fd[at_]? = some c) (h : fd = ded (0 :: (fd.take at_).flatMap (row m id))) :
    ∃ fd' o3', L2_law_least [shD (eM m), owD (.list (fd.map dN)), shD (dN at_), o3, none, none, none, none, none, none, none, none] =
      some (.nx [shD (eM m), owD (.list (fd'.map dN)), shD (dN (at_ + 1)), o3', none, none, none, none, none, none, none, none]) ∧ (∀ x ∈ fd', reach m x) ∧ fd' = ded (0 :: (fd'.take (at_ + 1)).flatMap (row m id)) ∧ at_ + 1 ≤ fd'.length := by
  have hcr : reach m c := hfd c (List.mem_of_getElem? hat)
  have hcl := hcr.lt ok
  have hal : at_ < fd.length := (List.getElem?_eq_some_iff.mp hat).1
  have h3 := ok.L3
  have hbig := ok.big
  obtain ⟨ρ, e, fd', o3', rfl, hfd', ⟨ext, hx⟩, hd⟩ := for_list (i := 3) (s := L1_law_least) (fun i => dN (m.to c i)) (List.range m.L) (fun p ρ => ∃ (fd' : List Nat) (o3' : Option Sl), ρ = [shD (eM m), owD (.list (fd'.map dN)), shD (dN at_), o3', none, none, none, none, none, none, none, none] ∧ (∀ x ∈ fd', reach m x) ∧ (∃ ext, fd' = fd ++ ext) ∧ fd' = ded ((0 :: (fd.take at_).flatMap (row m id)) ++ p.map fun i => m.to c i)) (fun p i r ρ hs ⟨fd', o3', hr, hfd', ⟨ext, hx⟩, hd⟩ => by
    subst hr
    have hi : i < m.L := List.mem_range.mp (by rw [hs]; simp)
    have nd : fd'.Nodup := by rw [hd]; exact nodup_ded _
    have fl := nodup_lt nd fun q hq => (hfd' q hq).lt ok
    have ni := ninD_L (m.to c i) fd'
    have ap1 : ∀ l : List Nat, l ++ (p ++ [i]).map (fun i => m.to c i) = (l ++ p.map fun i => m.to c i) ++ [m.to c i] := fun l => by simp
    by_cases hm : m.to c i ∈ fd'
    · rw [decide_eq_true hm] at ni
      refine ⟨_, ?_, fd', shD (dN (m.to c i)), rfl, hfd', ⟨ext, hx⟩, ?_⟩
      · simp only [L1_law_least, shD, owD, dv, ni]
      · rw [ap1, ded_snoc, if_pos (by rw [hd] at hm; exact mem_ded.mp hm)]
        exact hd
    · rw [decide_eq_false hm] at ni
      have ap := appS_s (i := 1) (d := dN (m.to c i)) (ρ := [shD (eM m), owD (.list (fd'.map dN)), shD (dN at_), shD (dN (m.to c i)), none, none, none, none, none, none, none, none]) (ds := fd'.map dN) (by simp; omega)
      refine ⟨[shD (eM m), owD (.list ((fd' ++ [m.to c i]).map dN)), shD (dN at_), shD (dN (m.to c i)), none, none, none, none, none, none, none, none], ?_, fd' ++ [m.to c i], _, rfl, fun x hx => ?_, ⟨ext ++ [m.to c i], by rw [hx]; simp⟩, ?_⟩
      · simp only [shD, owD] at ap
        simp only [L1_law_least, shD, owD, dv, ni, ap]
        rw [List.map_append]
        rfl
      · rcases List.mem_append.mp hx with z | z
        · exact hfd' x z
        · rw [List.mem_singleton.mp z]
          exact hcr.to hi
      · rw [ap1, ded_snoc, if_neg (by rw [hd] at hm; exact fun z => hm (mem_ded.mpr z)), ← hd]) (ρ := [shD (eM m), owD (.list (fd.map dN)), shD (dN at_), o3, none, none, none, none, none, none, none, none]) ⟨fd, o3, rfl, hfd, ⟨[], by simp⟩, by rw [List.map_nil, List.append_nil]; exact h⟩
  refine ⟨fd', o3', ?_, hfd', ?_, by rw [hx]; simp; omega⟩
  · have xc : ixD (.list (fd.map dN)) (dN at_) = some (dN c) := ix_numsL hat
    have it := items_row ok hcl
    rw [List.map_map] at it
    have it : itemsD (eR (m.rows.getD c [])) = some ((List.range m.L).map fun i => dN (m.to c i)) := it
    simp only [shD, owD] at e
    simp only [L2_law_least, shD, owD, dv, ix_M1, xc, ix_T ok hcl, it, e]
    rfl
  · have et : fd'.take (at_ + 1) = fd.take at_ ++ [c] := by
      rw [hx, List.take_append_of_le_length (by omega), List.take_succ, hat]
      rfl
    rw [et, List.flatMap_append]
    have e2 : [c].flatMap (row m id) = (List.range m.L).map fun i => m.to c i := by simp [row]
    rw [e2]
    exact hd
theorem found_eq (ok : m.Ok) : ∃ (R : List Nat) (o2 o3 : Option Sl), whileL (toT (DV.o2 ltD (eW 2) (eCall lenF (lC (eW 1) lN)))) L2_law_least 1000000 [shD (eM m), owD (.list ([0].map dN)), shD (dN 0), none, none, none, none, none, none, none, none, none] =
      some (.nx [shD (eM m), owD (.list (R.map dN)), o2, o3, none, none, none, none, none, none, none, none]) ∧ R.Nodup ∧ (∀ q, q ∈ R ↔ reach m q) ∧ ∃ t, R = 0 :: t := by
  have hbig := ok.big
  obtain ⟨o, e, fd, o2, o3, ho, h1, h2⟩ := while_inv (c := toT (DV.o2 ltD (eW 2) (eCall lenF (lC (eW 1) lN)))) (s := L2_law_least)
    (fun k ρ => ∃ (fd : List Nat) (at_ : Nat) (o3 : Option Sl), k + at_ = m.n ∧ at_ ≤ fd.length ∧ (∀ x ∈ fd, reach m x) ∧ fd = ded (0 :: (fd.take at_).flatMap (row m id)) ∧ ρ = [shD (eM m), owD (.list (fd.map dN)), shD (dN at_), o3, none, none, none, none, none, none, none, none])
    (fun o => ∃ (fd : List Nat) (o2 o3 : Option Sl), o = .nx [shD (eM m), owD (.list (fd.map dN)), o2, o3, none, none, none, none, none, none, none, none] ∧ (∀ x ∈ fd, reach m x) ∧ fd = ded (0 :: fd.flatMap (row m id)))
    (fun k ρ ⟨fd, at_, o3, hk, ha, h1, h2, hr⟩ => by
      subst hr
      have fl := nodup_lt (l := fd) (by rw [h2]; exact nodup_ded _) fun q hq => (h1 q hq).lt ok
      have ll : lenF [.list (fd.map dN)] = some (dN fd.length) := by rw [len_l, List.length_map]
      by_cases hlt : at_ < fd.length
      · have hat : fd[at_]? = some fd[at_] := List.getElem?_eq_getElem hlt
        obtain ⟨fd', o3', e, h1', h2', ha'⟩ := found_turn (o3 := o3) ok h1 hat h2
        have fl' := nodup_lt (l := fd') (by rw [h2']; exact nodup_ded _) fun q hq => (h1' q hq).lt ok
        have := lt_nn (a := at_) (b := fd.length)
        rw [decide_eq_true hlt] at this
        exact .inr ⟨by simp only [shD, owD, dv, ll, this], .inl ⟨_, e, k - 1, by omega, fd', at_ + 1, o3', by omega, ha', h1', h2', rfl⟩⟩
      · have : at_ = fd.length := by omega
        subst this
        have := lt_nn (a := fd.length) (b := fd.length)
        rw [decide_eq_false (Nat.lt_irrefl _)] at this
        refine .inl ⟨by simp only [shD, owD, dv, ll, this], fd, _, _, rfl, h1, ?_⟩
        rw [List.take_length] at h2
        exact h2) m.n 1000000 [shD (eM m), owD (.list ([0].map dN)), shD (dN 0), none, none, none, none, none, none, none, none, none] (by omega) ⟨[0], 0, none, by omega, by simp, fun x hx => by rw [List.mem_singleton.mp hx]; exact reach.zero, by simp [ded], rfl⟩
  subst ho
  refine ⟨fd, o2, o3, e, by rw [h2]; exact nodup_ded _, fun q => ⟨h1 q, ?_⟩, ?_⟩
  · rintro ⟨w, hw, rfl⟩
    refine closed_run (R := fd) ?_ (fun q hq i hi => ?_) w hw
    · rw [h2, mem_ded]; exact List.mem_cons_self
    · rw [h2, mem_ded]
      exact List.mem_cons_of_mem _ (List.mem_flatMap.mpr ⟨q, hq, List.mem_map.mpr ⟨i, List.mem_range.mpr hi, rfl⟩⟩)
  · rw [h2, ded]
    exact ⟨_, rfl⟩
/-! ### one state of each class -/
structure Cho (m : Mc) (R ch d : List Nat) : Prop where
  sub : ∀ c ∈ ch, c ∈ R
  dist : ch.Pairwise fun a b => ¬ sim m a b
  all : ∀ x ∈ d, ∃ c ∈ ch, sim m x c
theorem ch_len {R ch : List Nat} (h : ∀ c ∈ ch, c ∈ R) (hd : ch.Pairwise fun a b => ¬ sim m a b) : ch.length ≤ R.length := len_le (hd.imp fun {a b} hab e => hab (by rw [e]; exact sim.refl _)) h
theorem chosen_eq (ok : m.Ok) {R : List Nat} {ks : List (Nat × Nat)} (hRl : R.length ≤ 1000) (hks : ∀ p ∈ R, ∀ q ∈ R, (p, q) ∈ ks ↔ ¬ sim m p q) {t : List Nat} (hR0 : R = 0 :: t) {o2 o3 : Option Sl} :
    ∃ (ch : List Nat) (o3' o6' : Option Sl), forL (gN 6) L3_law_least (R.map dN) [shD (eM m), shD (.list (R.map dN)), o2, o3, shD (prD ks), owD (.list []), none, none, none, none, none, none] =
      some (.nx [shD (eM m), shD (.list (R.map dN)), o2, o3, shD (prD ks), owD (.list (ch.map dN)), o6', none, none, none, none, none]) ∧ Cho m R ch R ∧ ∃ t, ch = 0 :: t := by
  obtain ⟨ρ, e, ch, o6', rfl, h, h0⟩ := for_list (i := 6) (s := L3_law_least) dN R (fun d ρ => ∃ (ch : List Nat) (o6 : Option Sl), ρ = [shD (eM m), shD (.list (R.map dN)), o2, o3, shD (prD ks), owD (.list (ch.map dN)), o6, none, none, none, none, none] ∧ Cho m R ch d ∧ ((d = [] ∧ ch = []) ∨ ∃ t, ch = 0 :: t)) (fun d p r ρ hs ⟨ch, o6, hr, h, h0⟩ => by
    subst hr
    have hp : p ∈ R := by rw [hs]; simp
    have cl := ch_len h.sub h.dist
    have lc : lcL (gN 3) (toT (DV.o2 ninD (eTup (lC (eV 6) (lC (eV 3) lN))) (eW 4))) (eV 3) [shD (eM m), shD (.list (R.map dN)), o2, none, shD (prD ks), owD (.list (ch.map dN)), shD (dN p), none, none, none, none, none] (ch.map dN) = some ((ch.filter fun q => simB m p q).map dN) :=
      lcL_filter dN (fun q => simB m p q) dN ch (fun q hq => by
        simp only [shD, owD, dv, eP_fold, nin_sim hks hp (h.sub q hq)]) (fun q _ _ => by simp only [shD, owD, dv])
    have lo : lcO (some (ch.map dN)) (gN 3) (toT (DV.o2 ninD (eTup (lC (eV 6) (lC (eV 3) lN))) (eW 4))) (eV 3) [shD (eM m), shD (.list (R.map dN)), o2, none, shD (prD ks), owD (.list (ch.map dN)), shD (dN p), none, none, none, none, none] = some (.list ((ch.filter fun q => simB m p q).map dN)) := by
      rw [lcO_s (by simp; omega), lc]
      rfl
    have eq0 : ∀ l : List Nat, eqD (.int ((l.map dN).length : Int)) (.int 0) = some (.bool l.isEmpty) := fun l => by
      rw [eq_ii]
      congr 2
      cases l with
      | nil => rfl
      | cons a l =>
        simp
        omega
    simp only [shD, owD] at lo
    cases hf : (ch.filter fun q => simB m p q).isEmpty with
    | true =>
      have hno : ∀ c ∈ ch, ¬ sim m p c := fun c hc s => by
        rw [List.isEmpty_iff, List.filter_eq_nil_iff] at hf
        exact hf c hc (simB_iff.mpr s)
      have ap := appS_s (i := 5) (d := dN p) (ρ := [shD (eM m), shD (.list (R.map dN)), o2, o3, shD (prD ks), owD (.list (ch.map dN)), shD (dN p), none, none, none, none, none]) (ds := ch.map dN) (by simp; omega)
      refine ⟨[shD (eM m), shD (.list (R.map dN)), o2, o3, shD (prD ks), owD (.list ((ch ++ [p]).map dN)), shD (dN p), none, none, none, none, none], ?_, ch ++ [p], _, rfl, ⟨fun c hc => ?_, ?_, fun x hx => ?_⟩, .inr ?_⟩
      · simp only [shD, owD] at ap
        simp only [L3_law_least, shD, owD, dv, lo, eq0, hf, ap]
        rw [List.map_append]
        rfl
      · rcases List.mem_append.mp hc with z | z
        · exact h.sub c z
        · rw [List.mem_singleton.mp z]; exact hp
      · rw [List.pairwise_append]
        exact ⟨h.dist, by simp, fun a ha b hb => by
          rw [List.mem_singleton.mp hb]
          exact fun s => hno a ha s.symm⟩
      · rcases List.mem_append.mp hx with z | z
        · obtain ⟨c, hc, s⟩ := h.all x z
          exact ⟨c, List.mem_append_left _ hc, s⟩
        · rw [List.mem_singleton.mp z]
          exact ⟨p, by simp, sim.refl _⟩
      · rcases h0 with ⟨hd, hc⟩ | ⟨u, hu⟩
        · subst hd hc
          rw [List.nil_append] at hs
          rw [hR0] at hs
          injection hs with e _
          exact ⟨[], by rw [← e]; rfl⟩
        · exact ⟨u ++ [p], by rw [hu]; rfl⟩
    | false =>
      refine ⟨_, ?_, ch, shD (dN p), rfl, ⟨h.sub, h.dist, fun x hx => ?_⟩, ?_⟩
      · simp only [L3_law_least, shD, owD, dv, lo, eq0, hf]
      · rcases List.mem_append.mp hx with z | z
        · exact h.all x z
        · rw [List.mem_singleton.mp z]
          obtain ⟨c, hc⟩ := List.exists_mem_of_ne_nil (ch.filter fun q => simB m p q) (fun e => by rw [e] at hf; cases hf)
          exact ⟨c, (List.mem_filter.mp hc).1, simB_iff.mp (List.mem_filter.mp hc).2⟩
      · rcases h0 with ⟨_, hc⟩ | u
        · subst hc
          cases hf
        · exact .inr u) (ρ := [shD (eM m), shD (.list (R.map dN)), o2, o3, shD (prD ks), owD (.list []), none, none, none, none, none, none]) ⟨[], none, rfl, ⟨fun c hc => (by cases hc), .nil, fun x hx => (by cases hx)⟩, .inl ⟨rfl, rfl⟩⟩
  refine ⟨ch, o3, o6', e, h, ?_⟩
  rcases h0 with ⟨hd, _⟩ | u
  · rw [hR0] at hd
    cases hd
  · exact u
/-! ### the classes in the short order -/
noncomputable def rep (m : Mc) (ch : List Nat) (q : Nat) : Nat := (ch.find? fun r => simB m q r).getD 0
theorem rep_spec {R ch : List Nat} (h : Cho m R ch R) {q : Nat} (hq : q ∈ R) : rep m ch q ∈ ch ∧ sim m q (rep m ch q) := by
  unfold rep
  cases hf : ch.find? (fun r => simB m q r) with
  | none =>
    obtain ⟨c, hc, s⟩ := h.all q hq
    have := List.find?_eq_none.mp hf c hc
    exact absurd (simB_iff.mpr s) this
  | some c => exact ⟨List.mem_of_find?_eq_some hf, simB_iff.mp (List.find?_some hf)⟩
theorem cho_inj {R ch d : List Nat} (h : Cho m R ch d) {a b : Nat} (ha : a ∈ ch) (hb : b ∈ ch) (s : sim m a b) : a = b := by
  obtain ⟨i, hi, ei⟩ := List.mem_iff_getElem.mp ha
  obtain ⟨j, hj, ej⟩ := List.mem_iff_getElem.mp hb
  have hp := List.pairwise_iff_getElem.mp h.dist
  rcases Nat.lt_trichotomy i j with z | z | z
  · have := hp i j hi hj z
    rw [ei, ej] at this
    exact absurd s this
  · subst z
    rw [← ei, ← ej]
  · have := hp j i hj hi z
    rw [ei, ej] at this
    exact absurd s.symm this
theorem rep_iff {R ch : List Nat} (h : Cho m R ch R) {p q : Nat} (hp : p ∈ R) (hq : q ∈ R) : rep m ch p = rep m ch q ↔ sim m p q := by
  obtain ⟨p1, p2⟩ := rep_spec h hp
  obtain ⟨q1, q2⟩ := rep_spec h hq
  constructor
  · intro e
    rw [← e] at q2
    exact p2.trans q2.symm
  · intro s
    exact cho_inj h p1 q1 ((p2.symm.trans s).trans q2)
theorem rep_ch {R ch : List Nat} (h : Cho m R ch R) {c : Nat} (hc : c ∈ ch) : rep m ch c = c := by
  obtain ⟨p1, p2⟩ := rep_spec h (h.sub c hc)
  exact cho_inj h p1 hc p2.symm
theorem filter_head {ch : List Nat} {q : Nat} (hm : ∃ c ∈ ch, sim m q c) : ∃ t, (ch.filter fun r => simB m q r) = rep m ch q :: t := by
  unfold rep
  induction ch with
  | nil =>
    obtain ⟨c, hc, _⟩ := hm
    cases hc
  | cons a ch ih =>
    cases hs : simB m q a with
    | true =>
      rw [List.filter_cons, List.find?_cons, hs]
      exact ⟨_, rfl⟩
    | false =>
      rw [List.filter_cons, List.find?_cons, hs]
      refine ih ?_
      obtain ⟨c, hc, s⟩ := hm
      rcases List.mem_cons.mp hc with rfl | hc
      · rw [simB_iff.mpr s] at hs
        cases hs
      · exact ⟨c, hc, s⟩
section
variable {R ch : List Nat} {ks : List (Nat × Nat)}
theorem order_turn (ok : m.Ok) (hR : ∀ q, q ∈ R ↔ reach m q) (hRl : R.length ≤ 1000) (hks : ∀ p ∈ R, ∀ q ∈ R, (p, q) ∈ ks ↔ ¬ sim m p q) (h : Cho m R ch R) {od : List Nat} {at_ c : Nat} {o1 o3 o6 o8 : Option Sl} (hod : ∀ x ∈ od, x ∈ ch) (hat : od[at_]? = some c) (hd : od = ded (rep m ch 0 :: (od.take at_).flatMap (row m (rep m ch)))) :
    ∃ od' o3' o8', L5_law_least [shD (eM m), o1, shD (dN at_), o3, shD (prD ks), owD (.list (ch.map dN)), o6, owD (.list (od.map dN)), o8, none, none, none] =
      some (.nx [shD (eM m), o1, shD (dN (at_ + 1)), o3', shD (prD ks), owD (.list (ch.map dN)), o6, owD (.list (od'.map dN)), o8', none, none, none]) ∧ (∀ x ∈ od', x ∈ ch) ∧ od' = ded (rep m ch 0 :: (od'.take (at_ + 1)).flatMap (row m (rep m ch))) ∧ at_ + 1 ≤ od'.length := by
  have hcr : reach m c := (hR c).mp (h.sub c (hod c (List.mem_of_getElem? hat)))
  have hcl := hcr.lt ok
  have hal : at_ < od.length := (List.getElem?_eq_some_iff.mp hat).1
  have h3 := ok.L3
  have cl := ch_len h.sub h.dist
  obtain ⟨ρ, e, od', o3', o8', rfl, hod', ⟨ext, hx⟩, hd'⟩ := for_list (i := 8) (s := L4_law_least) (fun i => dN (m.to c i)) (List.range m.L) (fun p ρ => ∃ (od' : List Nat) (o3' o8' : Option Sl), ρ = [shD (eM m), o1, shD (dN at_), o3', shD (prD ks), owD (.list (ch.map dN)), o6, owD (.list (od'.map dN)), o8', none, none, none] ∧ (∀ x ∈ od', x ∈ ch) ∧ (∃ ext, od' = od ++ ext) ∧ od' = ded ((rep m ch 0 :: (od.take at_).flatMap (row m (rep m ch))) ++ p.map fun i => rep m ch (m.to c i))) (fun p i r ρ hs ⟨od', o3', o8', hr, hod', ⟨ext, hx⟩, hd'⟩ => by
    subst hr
    have hi : i < m.L := List.mem_range.mp (by rw [hs]; simp)
    have hq : m.to c i ∈ R := (hR _).mpr (hcr.to hi)
    obtain ⟨r1, r2⟩ := rep_spec h hq
    have nd : od'.Nodup := by rw [hd']; exact nodup_ded _
    have ol : od'.length ≤ ch.length := len_le nd hod'
    obtain ⟨t, ht⟩ := filter_head (h.all _ hq)
    have lc : lcL (gN 10) (toT (DV.o2 ninD (eTup (lC (eV 8) (lC (eV 10) lN))) (eW 4))) (eV 10) [shD (eM m), o1, shD (dN at_), o3', shD (prD ks), owD (.list (ch.map dN)), o6, owD (.list (od'.map dN)), shD (dN (m.to c i)), none, none, none] (ch.map dN) = some ((ch.filter fun r => simB m (m.to c i) r).map dN) :=
      lcL_filter dN (fun r => simB m (m.to c i) r) dN ch (fun r hr => by
        simp only [shD, owD, dv, eP_fold, nin_sim hks hq (h.sub r hr)]) (fun r _ _ => by simp only [shD, owD, dv])
    have lo : lcO (some (ch.map dN)) (gN 10) (toT (DV.o2 ninD (eTup (lC (eV 8) (lC (eV 10) lN))) (eW 4))) (eV 10) [shD (eM m), o1, shD (dN at_), o3', shD (prD ks), owD (.list (ch.map dN)), o6, owD (.list (od'.map dN)), shD (dN (m.to c i)), none, none, none] = some (.list (dN (rep m ch (m.to c i)) :: t.map dN)) := by
      rw [lcO_s (by simp; omega), lc, ht]
      rfl
    have ni := ninD_L (rep m ch (m.to c i)) od'
    have ap1 : ∀ l : List Nat, l ++ (p ++ [i]).map (fun i => rep m ch (m.to c i)) = (l ++ p.map fun i => rep m ch (m.to c i)) ++ [rep m ch (m.to c i)] := fun l => by simp
    simp only [shD, owD] at lo
    by_cases hm : rep m ch (m.to c i) ∈ od'
    · rw [decide_eq_true hm] at ni
      refine ⟨_, ?_, od', shD (dN (rep m ch (m.to c i))), shD (dN (m.to c i)), rfl, hod', ⟨ext, hx⟩, ?_⟩
      · simp only [L4_law_least, shD, owD, dv, lo, ni]
      · rw [ap1, ded_snoc, if_pos (by rw [hd'] at hm; exact mem_ded.mp hm)]
        exact hd'
    · rw [decide_eq_false hm] at ni
      have ap := appS_s (i := 7) (d := dN (rep m ch (m.to c i))) (ρ := [shD (eM m), o1, shD (dN at_), shD (dN (rep m ch (m.to c i))), shD (prD ks), owD (.list (ch.map dN)), o6, owD (.list (od'.map dN)), shD (dN (m.to c i)), none, none, none]) (ds := od'.map dN) (by simp; omega)
      refine ⟨[shD (eM m), o1, shD (dN at_), shD (dN (rep m ch (m.to c i))), shD (prD ks), owD (.list (ch.map dN)), o6, owD (.list ((od' ++ [rep m ch (m.to c i)]).map dN)), shD (dN (m.to c i)), none, none, none], ?_, od' ++ [rep m ch (m.to c i)], _, _, rfl, fun x hx => ?_, ⟨ext ++ [rep m ch (m.to c i)], by rw [hx]; simp⟩, ?_⟩
      · simp only [shD, owD] at ap
        simp only [L4_law_least, shD, owD, dv, lo, ni, ap]
        rw [List.map_append]
        rfl
      · rcases List.mem_append.mp hx with z | z
        · exact hod' x z
        · rw [List.mem_singleton.mp z]
          exact r1
      · rw [ap1, ded_snoc, if_neg (by rw [hd'] at hm; exact fun z => hm (mem_ded.mpr z)), ← hd']) (ρ := [shD (eM m), o1, shD (dN at_), o3, shD (prD ks), owD (.list (ch.map dN)), o6, owD (.list (od.map dN)), o8, none, none, none]) ⟨od, o3, o8, rfl, hod, ⟨[], by simp⟩, by rw [List.map_nil, List.append_nil]; exact hd⟩
  refine ⟨od', o3', o8', ?_, hod', ?_, by rw [hx]; simp; omega⟩
  · have xc : ixD (.list (od.map dN)) (dN at_) = some (dN c) := ix_numsL hat
    have it := items_row ok hcl
    rw [List.map_map] at it
    have it : itemsD (eR (m.rows.getD c [])) = some ((List.range m.L).map fun i => dN (m.to c i)) := it
    simp only [shD, owD] at e
    simp only [L5_law_least, shD, owD, dv, ix_M1, xc, ix_T ok hcl, it, e]
    rfl
  · have et : od'.take (at_ + 1) = od.take at_ ++ [c] := by
      rw [hx, List.take_append_of_le_length (by omega), List.take_succ, hat]
      rfl
    rw [et, List.flatMap_append]
    have e2 : [c].flatMap (row m (rep m ch)) = (List.range m.L).map fun i => rep m ch (m.to c i) := by simp [row]
    rw [e2]
    exact hd'
theorem order_eq (ok : m.Ok) (hR : ∀ q, q ∈ R ↔ reach m q) (hRl : R.length ≤ 1000) (hks : ∀ p ∈ R, ∀ q ∈ R, (p, q) ∈ ks ↔ ¬ sim m p q) (h : Cho m R ch R) (h0 : 0 ∈ ch) {o1 o3 o6 : Option Sl} :
    ∃ (od : List Nat) (o2 o3' o8 : Option Sl), whileL (toT (DV.o2 ltD (eW 2) (eCall lenF (lC (eW 7) lN)))) L5_law_least 1000000 [shD (eM m), o1, shD (dN 0), o3, shD (prD ks), owD (.list (ch.map dN)), o6, owD (.list ([0].map dN)), none, none, none, none] =
      some (.nx [shD (eM m), o1, o2, o3', shD (prD ks), owD (.list (ch.map dN)), o6, owD (.list (od.map dN)), o8, none, none, none]) ∧ (∀ x ∈ od, x ∈ ch) ∧ od.map (rep m ch) = ded (comes m (rep m ch) od) := by
  have cl := ch_len h.sub h.dist
  have r0 := rep_ch h h0
  obtain ⟨o, e, od, o2, o3', o8, ho, h1, h2⟩ := while_inv (c := toT (DV.o2 ltD (eW 2) (eCall lenF (lC (eW 7) lN)))) (s := L5_law_least)
    (fun k ρ => ∃ (od : List Nat) (at_ : Nat) (o3' o8 : Option Sl), k + at_ = ch.length ∧ at_ ≤ od.length ∧ (∀ x ∈ od, x ∈ ch) ∧ od = ded (rep m ch 0 :: (od.take at_).flatMap (row m (rep m ch))) ∧ ρ = [shD (eM m), o1, shD (dN at_), o3', shD (prD ks), owD (.list (ch.map dN)), o6, owD (.list (od.map dN)), o8, none, none, none])
    (fun o => ∃ (od : List Nat) (o2 o3' o8 : Option Sl), o = .nx [shD (eM m), o1, o2, o3', shD (prD ks), owD (.list (ch.map dN)), o6, owD (.list (od.map dN)), o8, none, none, none] ∧ (∀ x ∈ od, x ∈ ch) ∧ od = ded (rep m ch 0 :: od.flatMap (row m (rep m ch))))
    (fun k ρ ⟨od, at_, o3', o8, hk, ha, h1, h2, hr⟩ => by
      subst hr
      have ol : od.length ≤ ch.length := len_le (by rw [h2]; exact nodup_ded _) h1
      have ll : lenF [.list (od.map dN)] = some (dN od.length) := by rw [len_l, List.length_map]
      by_cases hlt : at_ < od.length
      · have hat : od[at_]? = some od[at_] := List.getElem?_eq_getElem hlt
        obtain ⟨od', o3'', o8', e, h1', h2', ha'⟩ := order_turn (o1 := o1) (o3 := o3') (o6 := o6) (o8 := o8) ok hR hRl hks h h1 hat h2
        have ol' : od'.length ≤ ch.length := len_le (by rw [h2']; exact nodup_ded _) h1'
        have := lt_nn (a := at_) (b := od.length)
        rw [decide_eq_true hlt] at this
        exact .inr ⟨by simp only [shD, owD, dv, ll, this], .inl ⟨_, e, k - 1, by omega, od', at_ + 1, o3'', o8', by omega, ha', h1', h2', rfl⟩⟩
      · have : at_ = od.length := by omega
        subst this
        have := lt_nn (a := od.length) (b := od.length)
        rw [decide_eq_false (Nat.lt_irrefl _)] at this
        refine .inl ⟨by simp only [shD, owD, dv, ll, this], od, _, _, _, rfl, h1, ?_⟩
        rw [List.take_length] at h2
        exact h2) ch.length 1000000 [shD (eM m), o1, shD (dN 0), o3, shD (prD ks), owD (.list (ch.map dN)), o6, owD (.list ([0].map dN)), none, none, none, none] (by omega) ⟨[0], 0, o3, none, by omega, by simp, fun x hx => by rw [List.mem_singleton.mp hx]; exact h0, by simp [ded, r0], rfl⟩
  subst ho
  refine ⟨od, o2, o3', o8, e, h1, ?_⟩
  have e1 : od.map (rep m ch) = od := (List.map_congr_left fun x hx => rep_ch h (h1 x hx)).trans (List.map_id _)
  rw [e1]
  exact h2
end
theorem law_least_eq (ok : m.Ok) (hsz : m.n * m.n < 999990) : ∃ s : Mc, F_law_least [eM m] = some (eM s) ∧ LeastOf m s ∧ canon s ∧ s.n ≤ m.n := by
  obtain ⟨R, a2, a3, e1, hn, hR, t0, hR0⟩ := found_eq ok
  have hlt : ∀ q ∈ R, q < m.n := fun q hq => ((hR q).mp hq).lt ok
  have hc : ∀ q ∈ R, ∀ i < m.L, m.to q i ∈ R := fun q hq i hi => (hR _).mpr (((hR q).mp hq).to hi)
  have hRm := nodup_lt hn hlt
  have hbig := ok.big
  have h3 := ok.L3
  have hRR : R.length * R.length < 999990 := Nat.lt_of_le_of_lt (Nat.mul_le_mul hRm hRm) hsz
  obtain ⟨ks, e2, hks⟩ := parted_eq ok hlt hc hRR
  obtain ⟨ch, b3, b6, e3, h, t1, hch0⟩ := chosen_eq (o2 := a2) (o3 := a3) ok (by omega) hks hR0
  have h0 : 0 ∈ ch := by rw [hch0]; exact List.mem_cons_self
  obtain ⟨od, c2, c3, c8, e4, ho1, ho2⟩ := order_eq (o1 := shD (.list (R.map dN))) (o3 := a3) (o6 := b6) ok hR (by omega) hks h h0
  have cl := ch_len h.sub h.dist
  have nd : (od.map (rep m ch)).Nodup := by rw [ho2]; exact nodup_ded _
  have e1' : od.map (rep m ch) = od := (List.map_congr_left fun x hx => rep_ch h (ho1 x hx)).trans (List.map_id _)
  have ndo : od.Nodup := by rw [← e1']; exact nd
  have ol : od.length ≤ ch.length := len_le ndo ho1
  have hodR : ∀ c ∈ od, reach m c := fun c hc => (hR c).mp (h.sub c (ho1 c hc))
  have hf : ∀ p q, reach m p → reach m q → (rep m ch p = rep m ch q ↔ sim m p q) := fun p q hp hq => rep_iff h ((hR p).mpr hp) ((hR q).mpr hq)
  obtain ⟨l1, l2⟩ := least_of_f ok hf hodR ho2 (by omega)
  -- each reachable state's class is in the order
  have hall : ∀ q, reach m q → rep m ch q ∈ od := fun q hq => by
    have hcl : ∀ c ∈ od, ∀ i < m.L, rep m ch (m.to c i) ∈ od := fun c hc i hi => by
      rw [← e1', ho2, mem_ded]
      exact List.mem_cons_of_mem _ (List.mem_flatMap.mpr ⟨c, hc, List.mem_map.mpr ⟨i, List.mem_range.mpr hi, rfl⟩⟩)
    have h00 : rep m ch 0 ∈ od := by
      rw [← e1', ho2, mem_ded]
      exact List.mem_cons_self
    obtain ⟨w, hw, rfl⟩ := hq
    have gen : ∀ (w : List Nat) (p : Nat), reach m p → rep m ch p ∈ od → okw m.L w → rep m ch (m.run p w) ∈ od := by
      intro w
      induction w with
      | nil => exact fun p _ hp _ => hp
      | cons c w ih =>
        intro p hr hp hw
        have hcc := hw c List.mem_cons_self
        have hs := (rep_spec h ((hR p).mpr hr)).2
        have e2 := (hf _ _ (hr.to hcc) ((hodR _ hp).to hcc)).mpr (hs.to hcc)
        refine ih _ (hr.to hcc) ?_ fun x hx => hw x (List.mem_cons_of_mem _ hx)
        rw [e2]
        exact hcl _ hp c hcc
    exact gen w 0 reach.zero h00 hw
  refine ⟨made m od (idxF (rep m ch) od), ?_, l1, l2, by show (List.map _ od).length ≤ _; rw [List.length_map]; omega⟩
  have ll : lenF [.list (od.map dN)] = some (dN od.length) := by rw [len_l, List.length_map]
  have rg := rng1_n (count := od.length) (by omega)
  have xod : ∀ j, j < od.length → ixD (.list (od.map dN)) (dN j) = some (dN (od.getD j 0)) := fun j hj => ix_numsL (by rw [List.getD_eq_getElem?_getD, List.getElem?_eq_getElem hj]; rfl)
  have odm : ∀ j, j < od.length → od.getD j 0 ∈ od := fun j hj => by
    rw [List.getD_eq_getElem?_getD, List.getElem?_eq_getElem hj]
    exact List.getElem_mem hj
  -- the index of a state's class
  have lidx : ∀ (q : Nat), q ∈ R → ∀ (a6 o8 : Option Sl) (w : D), lcO (some ((List.range od.length).map dN)) (gN 11) (toT (o2 ninD (eTup (lC (eV 3) (lC (o2 ixD (eW 7) (eW 11)) lN))) (eW 4))) (eV 11) [shD (eM m), shD (.list (R.map dN)), c2, shD (dN q), shD (prD ks), owD (.list (ch.map dN)), a6, shD (.list (od.map dN)), o8, owD w, none, none] = some (.list (((List.range od.length).filter fun j => simB m q (od.getD j 0)).map dN)) := fun q hq a6 o8 w => by
    rw [lcO_s (by simp; omega)]
    have := lcL_filter (i := 11) (t := toT (o2 ninD (eTup (lC (eV 3) (lC (o2 ixD (eW 7) (eW 11)) lN))) (eW 4))) (a := eV 11) (ρ := [shD (eM m), shD (.list (R.map dN)), c2, shD (dN q), shD (prD ks), owD (.list (ch.map dN)), a6, shD (.list (od.map dN)), o8, owD w, none, none]) dN (fun j => simB m q (od.getD j 0)) dN (List.range od.length) (fun j hj => by
      have hj := List.mem_range.mp hj
      simp only [shD, owD, dv, xod j hj, eP_fold, nin_sim hks hq (h.sub _ (ho1 _ (odm j hj)))]) (fun j _ _ => by simp only [shD, owD, dv])
    rw [this]
    rfl
  have hidx : ∀ q, q ∈ R → ∃ t, ((List.range od.length).filter fun j => simB m q (od.getD j 0)) = idxF (rep m ch) od q :: t := fun q hq => by
    have hm := hall q ((hR q).mp hq)
    have h1 : od.idxOf (rep m ch q) < od.length := List.idxOf_lt_length_of_mem hm
    have h2 := List.getElem_idxOf h1
    have hmem : idxF (rep m ch) od q ∈ (List.range od.length).filter fun j => simB m q (od.getD j 0) := by
      unfold idxF
      rw [e1']
      refine List.mem_filter.mpr ⟨List.mem_range.mpr h1, simB_iff.mpr ?_⟩
      rw [List.getD_eq_getElem?_getD, List.getElem?_eq_getElem h1, Option.getD_some, h2]
      exact (rep_spec h hq).2
    cases hl : (List.range od.length).filter fun j => simB m q (od.getD j 0) with
    | nil => rw [hl] at hmem; cases hmem
    | cons j t =>
      refine ⟨t, ?_⟩
      have hj : j ∈ (List.range od.length).filter fun j => simB m q (od.getD j 0) := by rw [hl]; exact List.mem_cons_self
      obtain ⟨j1, j2⟩ := List.mem_filter.mp hj
      have j1 := List.mem_range.mp j1
      have j2 := simB_iff.mp j2
      have ej : rep m ch q = od.getD j 0 := by
        rw [(rep_iff h hq (h.sub _ (ho1 _ (odm j j1)))).mpr j2, rep_ch h (ho1 _ (odm j j1))]
      have : od.idxOf (rep m ch q) = j := by
        rw [ej, List.getD_eq_getElem?_getD, List.getElem?_eq_getElem j1, Option.getD_some, idx_at ndo j1]
      unfold idxF
      rw [e1', this]
  -- the rows
  obtain ⟨ρ, e5, f3, f6, rfl⟩ := for_list (i := 6) (s := L6_law_least) dN od (fun p ρ => ∃ (f3 f6 : Option Sl), ρ = [shD (eM m), shD (.list (R.map dN)), c2, f3, shD (prD ks), owD (.list (ch.map dN)), f6, shD (.list (od.map dN)), c8, owD (.list ((p.map fun c => (List.range m.L).map fun i => idxF (rep m ch) od (m.to c i)).map eR)), none, none]) (fun p c r ρ hs ⟨f3, f6, hr⟩ => by
    subst hr
    have hcm : c ∈ od := by rw [hs]; simp
    have hcr := hodR c hcm
    have hcl := hcr.lt ok
    have hpl : p.length ≤ od.length := by
      have := congrArg List.length hs
      simp at this
      omega
    have lrow : ∀ w : D, lcO (some (((List.range m.L).map (m.to c)).map dN)) (gN 3) tYs (o2 ixD (eLc [11] (iCall rng1 (lC (eCall lenF (lC (eW 7) lN)) lN)) (gN 11) (toT (o2 ninD (eTup (lC (eV 3) (lC (o2 ixD (eW 7) (eW 11)) lN))) (eW 4))) (eV 11)) (eC (.int 0))) [shD (eM m), shD (.list (R.map dN)), c2, none, shD (prD ks), owD (.list (ch.map dN)), shD (dN c), shD (.list (od.map dN)), c8, owD w, none, none] = some (.list (((List.range m.L).map fun i => idxF (rep m ch) od (m.to c i)).map dN)) := fun w => by
      rw [lcO_s (by simp; omega)]
      have := lcL_map (i := 3) (a := o2 ixD (eLc [11] (iCall rng1 (lC (eCall lenF (lC (eW 7) lN)) lN)) (gN 11) (toT (o2 ninD (eTup (lC (eV 3) (lC (o2 ixD (eW 7) (eW 11)) lN))) (eW 4))) (eV 11)) (eC (.int 0))) (ρ := [shD (eM m), shD (.list (R.map dN)), c2, none, shD (prD ks), owD (.list (ch.map dN)), shD (dN c), shD (.list (od.map dN)), c8, owD w, none, none]) dN (fun x => dN (idxF (rep m ch) od x)) ((List.range m.L).map (m.to c)) fun x hx => by
        obtain ⟨i, hi, rfl⟩ := List.mem_map.mp hx
        have hq : m.to c i ∈ R := (hR _).mpr (hcr.to (List.mem_range.mp hi))
        obtain ⟨t, ht⟩ := hidx _ hq
        have li := lidx _ hq (shD (dN c)) c8 w
        rw [ht] at li
        simp only [shD, owD] at li
        simp only [shD, owD, dv, ll, rg, li]
      rw [this, List.map_map, List.map_map]
      rfl
    have lr := lrow (.list ((p.map fun c => (List.range m.L).map fun i => idxF (rep m ch) od (m.to c i)).map eR))
    have tp : tupF [.list (((List.range m.L).map fun i => idxF (rep m ch) od (m.to c i)).map dN)] = some (eR ((List.range m.L).map fun i => idxF (rep m ch) od (m.to c i))) := rfl
    have ap := appS_s (i := 9) (d := eR ((List.range m.L).map fun i => idxF (rep m ch) od (m.to c i))) (ρ := [shD (eM m), shD (.list (R.map dN)), c2, f3, shD (prD ks), owD (.list (ch.map dN)), shD (dN c), shD (.list (od.map dN)), c8, owD (.list ((p.map fun c => (List.range m.L).map fun i => idxF (rep m ch) od (m.to c i)).map eR)), none, none]) (ds := (p.map fun c => (List.range m.L).map fun i => idxF (rep m ch) od (m.to c i)).map eR) (by simp; omega)
    refine ⟨[shD (eM m), shD (.list (R.map dN)), c2, f3, shD (prD ks), owD (.list (ch.map dN)), shD (dN c), shD (.list (od.map dN)), c8, owD (.list (((p ++ [c]).map fun c => (List.range m.L).map fun i => idxF (rep m ch) od (m.to c i)).map eR)), none, none], ?_, f3, _, rfl⟩
    simp only [shD, owD] at lr ap
    simp only [L6_law_least, shD, owD, dv, ix_M1, ix_T ok hcl, items_row ok hcl, lr, tp, ap]
    rw [List.map_append, List.map_append]
    rfl) (ρ := [shD (eM m), shD (.list (R.map dN)), c2, c3, shD (prD ks), owD (.list (ch.map dN)), b6, shD (.list (od.map dN)), c8, owD (.list []), none, none]) ⟨c3, b6, rfl⟩
  have lfin : lcO (some ((List.range od.length).map dN)) (gN 11) (toT (o2 inD (o2 ixD (eW 7) (eW 11)) (o2 ixD (eW 0) (eC (.int 2))))) (eV 11) [shD (eM m), shD (.list (R.map dN)), c2, f3, shD (prD ks), owD (.list (ch.map dN)), f6, shD (.list (od.map dN)), c8, owD (.list ((od.map fun c => (List.range m.L).map fun i => idxF (rep m ch) od (m.to c i)).map eR)), none, none] = some (.list ((made m od (idxF (rep m ch) od)).fin.map dN)) := by
    rw [lcO_s (by simp; omega)]
    have := lcL_filter (i := 11) (t := toT (o2 inD (o2 ixD (eW 7) (eW 11)) (o2 ixD (eW 0) (eC (.int 2))))) (a := eV 11) (ρ := [shD (eM m), shD (.list (R.map dN)), c2, f3, shD (prD ks), owD (.list (ch.map dN)), f6, shD (.list (od.map dN)), c8, owD (.list ((od.map fun c => (List.range m.L).map fun i => idxF (rep m ch) od (m.to c i)).map eR)), none, none]) dN (fun j => decide (od.getD j 0 ∈ m.fin)) dN (List.range od.length) (fun j hj => by
      have hj := List.mem_range.mp hj
      have e := inD_T (od.getD j 0) m.fin
      simp only [shD, owD, dv, xod j hj, ix_M2, e]) (fun j _ _ => by simp only [shD, owD, dv])
    rw [this]
    rfl
  have t1 : tupF [.list ((od.map fun c => (List.range m.L).map fun i => idxF (rep m ch) od (m.to c i)).map eR)] = some (eT (made m od (idxF (rep m ch) od))) := rfl
  have t2 : tupF [.list ((made m od (idxF (rep m ch) od)).fin.map dN)] = some (.tuple ((made m od (idxF (rep m ch) od)).fin.map dN)) := rfl
  have itR : itemsD (.list (R.map dN)) = some (R.map dN) := rfl
  have itO : itemsD (.list (od.map dN)) = some (od.map dN) := rfl
  have xc0 : ixD (.list (ch.map dN)) (.int 0) = some (.int 0) := by rw [hch0]; exact ix_l0
  rw [F_law_least, callF_1, b_law_least]
  have e1'' : whileL (toT (o2 ltD (eW 2) (eCall lenF (lC (eW 1) lN)))) L2_law_least 1000000 [some (.shr (eM m)), some (.own (.list [.int 0])), some (.shr (.int 0)), none, none, none, none, none, none, none, none, none] = _ := e1
  have e4'' : whileL (toT (o2 ltD (eW 2) (eCall lenF (lC (eW 7) lN)))) L5_law_least 1000000 [some (.shr (eM m)), some (.shr (.list (R.map dN))), some (.shr (.int 0)), a3, some (.shr (prD ks)), some (.own (.list (ch.map dN))), b6, some (.own (.list [.int 0])), none, none, none, none] = _ := e4
  simp only [shD, owD] at e1'' e3 e4'' e5 lfin
  simp only [dv, dv0, sWh, e1'', e2, itR, e3, xc0, e4'', itO, e5, ix_M0, ll, rg, t1, lfin, t2]
  rfl
end
end LN

set_option Elab.async false
set_option linter.all false
noncomputable section
namespace LY
open PySem L2 DV
def b_parting_word : FS :=
    (sRet (eCall LN.F_parting_from (lC (eV 0) (lC (eV 1) (lC (eC (.int 0)) (lC (eC (.int 0)) lN))))))
def F_parting_word : List D → Option D := callF 2 2 b_parting_word
def b_bounded : FS :=
    (sSeq (sAsg (eCall LN.F_least (lC (eV 0) lN)) (gN 1))
    (sSeq (sIf (toT (o2 gtD (eCall lenF (lC (o2 ixD (eW 1) (eC (.int 1))) lN)) (eC (.int 40)))) sNever sNx)
    (sRet (eV 1))))
def F_bounded : List D → Option D := callF 2 1 b_bounded
def L1_renamed_letters : FS :=
    (sApp 2 (eCall tupF (lC (eLc [4] (iAny (eV 1)) (gN 4) tYs (eCall LM.F_state_behind (lC (eV 0) (lC (eV 3) (lC (eV 4) lN))))) lN)))
def b_renamed_letters : FS :=
    (sSeq (sOwn 2 (eLst lN))
    (sSeq (sFor (iCall rng1 (lC (eCall lenF (lC (o2 ixD (eW 0) (eC (.int 1))) lN)) lN)) (gN 3) L1_renamed_letters)
    (sRet (eCall F_bounded (lC (eTup (lC (o2 ixD (eW 0) (eC (.int 0))) (lC (eCall tupF (lC (eW 2) lN)) (lC (o2 ixD (eW 0) (eC (.int 2))) lN)))) lN)))))
def F_renamed_letters : List D → Option D := callF 5 2 b_renamed_letters
def L1_letter_orders : FS :=
    (sExt 3 (eLc [5] (iCall rng1 (lC (eV 0) lN)) (gN 5) (toT (o2 ninD (eW 5) (eW 4))) (o2 addD (eW 4) (eTup (lC (eV 5) lN)))))
def L2_letter_orders : FS :=
    (sSeq (sOwn 3 (eLst lN))
    (sSeq (sFor (iAny (eV 1)) (gN 4) L1_letter_orders)
    (sFrz 3 (sAsg (eV 3) (gN 1)))))
def b_letter_orders : FS :=
    (sSeq (sAsg (eLst (lC (eTup lN) lN)) (gN 1))
    (sSeq (sFor (iCall rng1 (lC (eV 0) lN)) (gN 2) L2_letter_orders)
    (sRet (eV 1))))
def F_letter_orders : List D → Option D := callF 6 1 b_letter_orders
def b_with_names : FS :=
    (sRet (eCall F_renamed_letters (lC (eV 0) (lC (eLc [2] (iAny (eV 1)) (gN 2) tYs (o2 ixD (eC (.str "abc")) (eW 2))) lN))))
def F_with_names : List D → Option D := callF 3 2 b_with_names
def L1_letter_kin : FS :=
    (sIf (toT (o2 isD (eCall F_parting_word (lC (eCall F_with_names (lC (eV 0) (lC (eV 2) lN))) (lC (eV 1) lN))) (eC .none))) (sRet (eV 2)) sNx)
def b_letter_kin : FS :=
    (sSeq (sFor (iAny (eCall F_letter_orders (lC (o2 ixD (eW 0) (eC (.int 0))) lN))) (gN 2) L1_letter_kin)
    (sRet (eC .none)))
def F_letter_kin : List D → Option D := callF 3 2 b_letter_kin
def b_own_kin : FS :=
    (sSeq (sAsg (eCall F_letter_orders (lC (o2 ixD (eW 0) (eC (.int 0))) lN)) (gN 1))
    (sRet (eLc [2] (iAny (eV 1)) (gN 2) (toT (o2 isD (eCall F_parting_word (lC (eCall F_with_names (lC (eV 0) (lC (eV 2) lN))) (lC (eV 0) lN))) (eC .none))) (eV 2))))
def F_own_kin : List D → Option D := callF 3 1 b_own_kin
def b_law_orders : FS :=
    (sRet (o2 ixD (eLst (lC (eLst (lC (eTup (lC (eC (.int 0)) lN)) lN)) (lC (eLst (lC (eTup (lC (eC (.int 0)) (lC (eC (.int 1)) lN))) (lC (eTup (lC (eC (.int 1)) (lC (eC (.int 0)) lN))) lN))) (lC (eLst (lC (eTup (lC (eC (.int 0)) (lC (eC (.int 1)) (lC (eC (.int 2)) lN)))) (lC (eTup (lC (eC (.int 0)) (lC (eC (.int 2)) (lC (eC (.int 1)) lN)))) (lC (eTup (lC (eC (.int 1)) (lC (eC (.int 0)) (lC (eC (.int 2)) lN)))) (lC (eTup (lC (eC (.int 1)) (lC (eC (.int 2)) (lC (eC (.int 0)) lN)))) (lC (eTup (lC (eC (.int 2)) (lC (eC (.int 0)) (lC (eC (.int 1)) lN)))) (lC (eTup (lC (eC (.int 2)) (lC (eC (.int 1)) (lC (eC (.int 0)) lN)))) lN))))))) lN)))) (o2 subD (eW 0) (eC (.int 1)))))
def F_law_orders : List D → Option D := callF 1 1 b_law_orders
def b_law_renamed : FS :=
    (sRet (eTup (lC (o2 ixD (eW 0) (eC (.int 0))) (lC (eCall tupF (lC (eLc [2] (iAny (o2 ixD (eW 0) (eC (.int 1)))) (gN 2) tYs (eCall tupF (lC (eLc [3] (iCall rng1 (lC (o2 ixD (eW 0) (eC (.int 0))) lN)) (gN 3) tYs (o2 ixD (eW 2) (o2 ixD (eW 1) (eW 3)))) lN))) lN)) (lC (o2 ixD (eW 0) (eC (.int 2))) lN)))))
def F_law_renamed : List D → Option D := callF 4 2 b_law_renamed
end LY
end

set_option Elab.async false
set_option linter.all false
set_option maxRecDepth 100000
set_option maxHeartbeats 4000000
/-! LY1: machines whose letters are renamed. -/
namespace LY
open PySem L2 DV LC MM LM MN LN
def ren (m : Mc) (o : List Nat) : Mc := ⟨m.L, (List.range m.n).map fun q => o.map (m.to q), m.fin⟩
structure Ord (L : Nat) (o : List Nat) : Prop where
  len : o.length = L
  lt : ∀ i ∈ o, i < L
abbrev dO (o : List Nat) : D := .tuple (o.map dN)
section
variable {m : Mc} {o : List Nat}
theorem ren_n : (ren m o).n = m.n := by
  show (List.map _ _).length = _
  rw [List.length_map, List.length_range]
theorem ren_ok (ok : m.Ok) (h : Ord m.L o) : (ren m o).Ok := by
  refine ⟨ok.L1, ok.L3, by rw [ren_n]; exact ok.pos, by rw [ren_n]; exact ok.big, fun r hr => ?_, fun r hr q hq => ?_⟩
  · obtain ⟨q, _, rfl⟩ := List.mem_map.mp hr
    rw [List.length_map]
    exact h.len
  · obtain ⟨p, hp, rfl⟩ := List.mem_map.mp hr
    obtain ⟨i, hi, rfl⟩ := List.mem_map.mp hq
    rw [ren_n]
    exact ok.to_lt (List.mem_range.mp hp) (h.lt i hi)
theorem map_getD (f : Nat → Nat) (o : List Nat) : (List.range o.length).map (fun i => f (o.getD i 0)) = o.map f := by
  apply List.ext_getElem
  · simp
  · intro i h1 h2
    simp at h1 h2
    rw [List.getElem_map, List.getElem_map, List.getElem_range, List.getD_eq_getElem?_getD, List.getElem?_eq_getElem h1]
    rfl
theorem rows_range (m : Mc) : m.rows.map eR = (List.range m.n).map fun q => eR (m.rows.getD q []) := by
  apply List.ext_getElem
  · simp [Mc.n]
  · intro i h1 h2
    simp at h1
    rw [List.getElem_map, List.getElem_map, List.getElem_range, List.getD_eq_getElem?_getD, List.getElem?_eq_getElem h1]
    rfl
theorem ren_rows : (ren m o).rows.map eR = (List.range m.n).map fun q => eR (o.map (m.to q)) := by
  show List.map _ (List.map _ _) = _
  rw [List.map_map]
  rfl
theorem law_renamed_eq (ok : m.Ok) (h : Ord m.L o) : F_law_renamed [eM m, dO o] = some (eM (ren m o)) := by
  have h3 := ok.L3
  have hb := ok.big
  have r1 := rng1_n (count := m.L) (by omega)
  have xo : ∀ i, i < m.L → ixD (dO o) (dN i) = some (dN (o.getD i 0)) := fun i hi => ix_nums (by rw [List.getD_eq_getElem?_getD, List.getElem?_eq_getElem (by rw [h.len]; exact hi)]; rfl)
  have xm : ∀ i, i < m.L → o.getD i 0 < m.L := fun i hi => h.lt _ (by
    rw [List.getD_eq_getElem?_getD, List.getElem?_eq_getElem (by rw [h.len]; exact hi)]
    exact List.getElem_mem _)
  rw [F_law_renamed, callF_2, b_law_renamed]
  have inner : ∀ q, q < m.n → lcO (some ((List.range m.L).map dN)) (gN 3) tYs (o2 ixD (eW 2) (o2 ixD (eW 1) (eW 3))) [shD (eM m), shD (dO o), shD (eR (m.rows.getD q [])), none] = some (.list ((o.map (m.to q)).map dN)) := fun q hq => by
    rw [lcO_s (by simp; omega)]
    have := lcL_map (i := 3) (a := o2 ixD (eW 2) (o2 ixD (eW 1) (eW 3))) (ρ := [shD (eM m), shD (dO o), shD (eR (m.rows.getD q [])), none]) dN (fun i => dN (m.to q (o.getD i 0))) (List.range m.L) fun i hi => by
      have hi := List.mem_range.mp hi
      simp only [shD, dv, xo i hi, ix_R ok hq (xm i hi)]
    rw [this]
    have e := map_getD (m.to q) o
    rw [h.len] at e
    rw [← e, List.map_map]
    rfl
  have outer : lcO (some (m.rows.map eR)) (gN 2) tYs (eCall tupF (lC (eLc [3] (iCall rng1 (lC (o2 ixD (eW 0) (eC (.int 0))) lN)) (gN 3) tYs (o2 ixD (eW 2) (o2 ixD (eW 1) (eW 3)))) lN)) [shD (eM m), shD (dO o), none, none] = some (.list ((ren m o).rows.map eR)) := by
    rw [rows_range, ren_rows, lcO_s (by simp; omega)]
    have := lcL_map (i := 2) (a := eCall tupF (lC (eLc [3] (iCall rng1 (lC (o2 ixD (eW 0) (eC (.int 0))) lN)) (gN 3) tYs (o2 ixD (eW 2) (o2 ixD (eW 1) (eW 3)))) lN)) (ρ := [shD (eM m), shD (dO o), none, none]) (fun q => eR (m.rows.getD q [])) (fun q => eR (o.map (m.to q))) (List.range m.n) fun q hq => by
      have i1 := inner q (List.mem_range.mp hq)
      have tp : tupF [.list ((o.map (m.to q)).map dN)] = some (eR (o.map (m.to q))) := rfl
      simp only [shD] at i1
      simp only [shD, dv, ix_M0, r1, i1, tp]
    rw [this]
    rfl
  have it : itemsD (eT m) = some (m.rows.map eR) := rfl
  have tp : tupF [.list ((ren m o).rows.map eR)] = some (eT (ren m o)) := rfl
  have t3 : tupO [dN m.L, eT (ren m o), .tuple (m.fin.map dN)] = some (eM (ren m o)) := tupO_s (by show 3 ≤ _; decide)
  simp only [shD] at outer
  simp only [dv, dv0, ix_M0, ix_M1, ix_M2, it, outer, tp, t3]
theorem bounded_eq (ok : m.Ok) (hn : m.n ≤ 40) : ∃ s : Mc, F_bounded [eM m] = some (eM s) ∧ LeastOf m s ∧ canon s ∧ s.n ≤ m.n := by
  obtain ⟨s, e, h1, h2, h3⟩ := least_eq ok
  refine ⟨s, ?_, h1, h2, h3⟩
  rw [F_bounded, callF_1, b_bounded]
  have q : decide ((s.n : Int) > 40) = false := decide_eq_false (by omega)
  simp only [dv, dv0, e, ix_M1, len_T, q]
theorem renamed_letters_eq (ok : m.Ok) (hn : m.n ≤ 40) (h : Ord m.L o) : ∃ s : Mc, F_renamed_letters [eM m, .list (o.map fun i => dW [i])] = some (eM s) ∧ LeastOf (ren m o) s ∧ canon s ∧ s.n ≤ m.n := by
  have h3 := ok.L3
  have hb := ok.big
  obtain ⟨s, e, l1, l2, l3⟩ := bounded_eq (ren_ok ok h) (by rw [ren_n]; exact hn)
  rw [ren_n] at l3
  refine ⟨s, ?_, l1, l2, l3⟩
  have r1 := rng1_n (count := m.n) (by omega)
  have itw : itemsD (.list (o.map fun i => dW [i])) = some (o.map fun i => dW [i]) := rfl
  generalize eWd : PyData.list (o.map fun i => dW [i]) = W at itw
  rw [F_renamed_letters, callF_2, b_renamed_letters]
  obtain ⟨ρ, e1, o3, rfl⟩ := for_list (i := 3) (s := L1_renamed_letters) dN (List.range m.n) (fun p ρ => ∃ o3, ρ = [shD (eM m), shD W, owD (.list (p.map fun q => eR (o.map (m.to q)))), o3, none]) (fun p q r ρ hs ⟨o3, hr⟩ => by
    subst hr
    have hq : q < m.n := List.mem_range.mp (by rw [hs]; simp)
    have hp : p.length < m.n := by
      have := congrArg List.length hs
      simp at this
      omega
    have lc : ∀ w : D, lcO (some (o.map fun i => dW [i])) (gN 4) tYs (eCall LM.F_state_behind (lC (eV 0) (lC (eV 3) (lC (eV 4) lN)))) [shD (eM m), shD W, owD w, shD (dN q), none] = some (.list ((o.map (m.to q)).map dN)) := fun w => by
      rw [lcO_s (by rw [List.length_map, h.len]; omega)]
      have := lcL_map (i := 4) (a := eCall LM.F_state_behind (lC (eV 0) (lC (eV 3) (lC (eV 4) lN)))) (ρ := [shD (eM m), shD W, owD w, shD (dN q), none]) (fun i => dW [i]) (fun i => dN (m.to q i)) o fun i hi => by
        have sb := state_behind_eq ok (w := [i]) hq (okw.one (h.lt i hi))
        rw [run_cons, run_nil] at sb
        simp only [shD, owD, dv, sb]
      rw [this, List.map_map]
      rfl
    have tp : tupF [.list ((o.map (m.to q)).map dN)] = some (eR (o.map (m.to q))) := rfl
    have ap := appS_s (i := 2) (d := eR (o.map (m.to q))) (ρ := [shD (eM m), shD W, owD (.list (p.map fun q => eR (o.map (m.to q)))), shD (dN q), none]) (ds := p.map fun q => eR (o.map (m.to q))) (by simp; omega)
    refine ⟨[shD (eM m), shD W, owD (.list ((p ++ [q]).map fun q => eR (o.map (m.to q)))), shD (dN q), none], ?_, _, rfl⟩
    rw [List.map_append, List.map_cons, List.map_nil]
    simp only [shD, owD] at lc ap
    simp only [L1_renamed_letters, shD, owD, dv, itw, lc, tp, ap]) (ρ := [shD (eM m), shD W, owD (.list []), none, none]) ⟨_, rfl⟩
  have tp : tupF [.list ((List.range m.n).map fun q => eR (o.map (m.to q)))] = some (eT (ren m o)) := by
    rw [← ren_rows]
    rfl
  have t3 : tupO [dN m.L, eT (ren m o), .tuple (m.fin.map dN)] = some (eM (ren m o)) := tupO_s (by show 3 ≤ _; decide)
  simp only [shD, owD] at e1
  simp only [dv, dv0, ix_M0, ix_M1, ix_M2, len_T, r1, e1, tp, t3, e]
end
end LY

set_option Elab.async false
set_option linter.all false
set_option maxRecDepth 100000
set_option maxHeartbeats 4000000
/-! LY2: kin of letters. -/
noncomputable section
namespace LY
open PySem L2 DV LC MM LM MN LN
def same (a b : Mc) : Prop := ∀ w, okw a.L w → (a.run 0 w ∈ a.fin ↔ b.run 0 w ∈ b.fin)
section
variable {m a b : Mc} {o : List Nat}
theorem parting_word_eq (oka : a.Ok) (okb : b.Ok) (hL : a.L = b.L) (hz : a.n * b.n < 1000000) :
    (F_parting_word [eM a, eM b] = some .none ∧ same a b) ∨ ∃ w, F_parting_word [eM a, eM b] = some (dW w) ∧ ¬ same a b := by
  have run : F_parting_word [eM a, eM b] = F_parting_from [eM a, eM b, dN 0, dN 0] := by
    rw [F_parting_word, callF_2, b_parting_word, show dN 0 = PyData.int 0 from rfl]
    simp only [dv, dv0]
    cases F_parting_from [eM a, eM b, .int 0, .int 0] <;> rfl
  rw [run]
  rcases parting_from_eq oka okb hL hz oka.pos okb.pos with ⟨h1, h2⟩ | ⟨w, h1, h2, h3, _⟩
  · exact .inl ⟨h1, h2⟩
  · refine .inr ⟨w, h1, fun z => ?_⟩
    exact h3 (z w h2)
theorem with_names_eq (h3 : m.L ≤ 3) (h : Ord m.L o) : F_with_names [eM m, dO o] = F_renamed_letters [eM m, .list (o.map fun i => dW [i])] := by
  rw [F_with_names, callF_2, b_with_names]
  have it : itemsD (dO o) = some (o.map dN) := rfl
  have lc : lcO (some (o.map dN)) (gN 2) tYs (o2 ixD (eC (.str "abc")) (eW 2)) [shD (eM m), shD (dO o), none] = some (.list (o.map fun i => dW [i])) := by
    rw [lcO_s (by rw [List.length_map, h.len]; omega)]
    have := lcL_map (i := 2) (a := o2 ixD (eC (.str "abc")) (eW 2)) (ρ := [shD (eM m), shD (dO o), none]) dN (fun i => dW [i]) o fun i hi => by
      have abi := LS.abc_ix (i := i) (by have := h.lt i hi; omega)
      simp only [shD, dv, abc_wd, abi]
    rw [this]
    rfl
  simp only [shD] at lc
  generalize dO o = T at *
  generalize PyData.list (o.map fun i => dW [i]) = W at *
  simp only [dv, dv0, it, lc]
  cases F_renamed_letters [eM m, W] <;> rfl
section
local instance (priority := 1000000) cdly1 (p : Prop) : Decidable p := Classical.propDecidable p
def kinB (m b : Mc) (o : List Nat) : Bool := decide (same (ren m o) b)
theorem kinB_iff : kinB m b o = true ↔ same (ren m o) b := by rw [kinB, decide_eq_true_iff]
end
/-- whether the order's renaming gives the other language, as the program asks it -/
theorem kin_eq (ok : m.Ok) (okb : b.Ok) (hL : m.L = b.L) (hm : m.n ≤ 40) (hb : b.n ≤ 40) (h : Ord m.L o) :
    ∃ s r, F_with_names [eM m, dO o] = some (eM s) ∧ F_parting_word [eM s, eM b] = some r ∧ isNb r = kinB m b o := by
  obtain ⟨s, e, lo, ca, sn⟩ := renamed_letters_eq ok hm h
  rw [← with_names_eq ok.L3 h] at e
  have hz : s.n * b.n ≤ 40 * 40 := Nat.mul_le_mul (by omega) hb
  have sL : s.L = b.L := lo.L.trans hL
  have eqv : same s b ↔ same (ren m o) b := by
    constructor
    · intro z w hw
      exact (lo.lang w hw).symm.trans (z w (by rw [lo.L]; exact hw))
    · intro z w hw
      rw [lo.L] at hw
      exact (lo.lang w hw).trans (z w hw)
  rcases parting_word_eq lo.ok okb sL (by omega) with ⟨h1, h2⟩ | ⟨w, h1, h2⟩
  · exact ⟨s, _, e, h1, (kinB_iff.mpr (eqv.mp h2)).symm⟩
  · refine ⟨s, _, e, h1, ?_⟩
    have : kinB m b o = false := by
      rw [← Bool.not_eq_true, kinB_iff]
      exact fun z => h2 (eqv.mpr z)
    rw [this]
    rfl
/-! ### the orders -/
def ords : Nat → List (List Nat)
  | 1 => [[0]]
  | 2 => [[0, 1], [1, 0]]
  | 3 => [[0, 1, 2], [0, 2, 1], [1, 0, 2], [1, 2, 0], [2, 0, 1], [2, 1, 0]]
  | _ => []
theorem ords_ok {L : Nat} {o : List Nat} (h : o ∈ ords L) : Ord L o := by
  have : L = 1 ∨ L = 2 ∨ L = 3 ∨ ords L = [] := by
    unfold ords
    split <;> simp
  rcases this with rfl | rfl | rfl | e
  · exact ⟨by revert o; decide, by revert o; decide⟩
  · exact ⟨by revert o; decide, by revert o; decide⟩
  · exact ⟨by revert o; decide, by revert o; decide⟩
  · rw [e] at h
    cases h
theorem ords_len {L : Nat} : (ords L).length ≤ 6 := by
  unfold ords
  split <;> decide
theorem ords_pos {L : Nat} (h : 0 < L) (h3 : L ≤ 3) : 0 < (ords L).length := by
  have : L = 1 ∨ L = 2 ∨ L = 3 := by omega
  rcases this with rfl | rfl | rfl <;> decide
theorem law_orders_eq {L : Nat} (h : 0 < L) (h3 : L ≤ 3) : F_law_orders [dN L] = some (.list ((ords L).map dO)) := by
  have : L = 1 ∨ L = 2 ∨ L = 3 := by omega
  rw [F_law_orders, callF_1, b_law_orders]
  have l6 : ∀ {a b c d e f : D}, lstO [a, b, c, d, e, f] = some (.list [a, b, c, d, e, f]) := lstO_s (by show 6 ≤ _; decide)
  have s1 : (1 : Int) - 1 = 0 := rfl
  have s2 : (2 : Int) - 1 = 1 := rfl
  have s3 : (3 : Int) - 1 = 2 := rfl
  have i1 : ∀ {a b c : D}, ixD (.list [a, b, c]) (.int 1) = some b := ix_l (i := 1) rfl
  have i2 : ∀ {a b c : D}, ixD (.list [a, b, c]) (.int 2) = some c := ix_l (i := 2) rfl
  have i0 : ∀ {a b c : D}, ixD (.list [a, b, c]) (.int 0) = some a := ix_l (i := 0) rfl
  rcases this with rfl | rfl | rfl
  · rw [show dN 1 = PyData.int 1 from rfl]
    simp only [dv, dv0, l6, s1, i0]
    rfl
  · rw [show dN 2 = PyData.int 2 from rfl]
    simp only [dv, dv0, l6, s2, i1]
    rfl
  · rw [show dN 3 = PyData.int 3 from rfl]
    simp only [dv, dv0, l6, s3, i2]
    rfl
end
end LY
end

set_option Elab.async false
set_option linter.all false
set_option maxRecDepth 100000
set_option maxHeartbeats 4000000
/-! LY3: the orders of letters, as the program makes them. -/
namespace LY
open PySem L2 DV LC MM LM MN LN
def stepB (L : Nat) (b : List Nat) : List (List Nat) := ((List.range L).filter fun i => !decide (i ∈ b)).map fun i => b ++ [i]
def stepO (L : Nat) (fs : List (List Nat)) : List (List Nat) := fs.flatMap (stepB L)
def itO (L : Nat) : Nat → List (List Nat)
  | 0 => [[]]
  | k + 1 => stepO L (itO L k)
theorem stepB_len {L : Nat} (b : List Nat) : (stepB L b).length ≤ L := by
  unfold stepB
  rw [List.length_map]
  refine Nat.le_trans (List.length_filter_le _ _) ?_
  rw [List.length_range]
  exact Nat.le_refl _
theorem stepO_len {L : Nat} : ∀ fs : List (List Nat), (stepO L fs).length ≤ fs.length * L
  | [] => Nat.zero_le _
  | b :: fs => by
    have h1 := stepB_len (L := L) b
    have h2 := stepO_len (L := L) fs
    show (List.flatMap _ (b :: fs)).length ≤ _
    rw [List.flatMap_cons, List.length_append, List.length_cons, Nat.add_mul, Nat.one_mul]
    have : (List.flatMap (stepB L) fs).length = (stepO L fs).length := rfl
    omega
theorem itO_all : ∀ k b, b ∈ itO L k → b.length = k
  | 0, b, h => by
    rw [itO, List.mem_singleton] at h
    subst h
    rfl
  | k + 1, b, h => by
    obtain ⟨c, h1, h2⟩ := List.mem_flatMap.mp h
    obtain ⟨i, _, rfl⟩ := List.mem_map.mp h2
    rw [List.length_append, itO_all k c h1]
    rfl
theorem sExtO_s {i : Nat} {ρ : DV.Env} {ds es : List D} (hi : ρ[i]? = some (some (.own (.list ds)))) (h : ds.length + es.length ≤ 16777216) : sExtO i ρ (.list es) = some (.nx (ρ.set i (some (.own (.list (ds ++ es)))))) := by
  unfold sExtO
  rw [hi]
  exact sExtC_s h
theorem sExt_e {i : Nat} {F : FE} {ρ : DV.Env} : sExt i F ρ = (F ρ).bind (sExtO i ρ) := rfl
theorem add_tt {xs ys : List D} (h : xs.length + ys.length ≤ 16777216) : addD (.tuple xs) (.tuple ys) = some (.tuple (xs ++ ys)) := if_pos (by rw [sizeLine_eq]; exact h)
theorem longer_eq {L j : Nat} {fs : List (List Nat)} {S : Option Sl} (h3 : L ≤ 3) (hl : fs.length ≤ 1000) (hb : ∀ b ∈ fs, b.length ≤ 3) {o4 : Option Sl} :
    ∃ o4', forL (gN 4) L1_letter_orders (fs.map dO) [shD (dN L), S, shD (dN j), owD (.list []), o4, none] = some (.nx [shD (dN L), S, shD (dN j), owD (.list ((stepO L fs).map dO)), o4', none]) := by
  have r1 := rng1_n (count := L) (by omega)
  obtain ⟨ρ, e, o4', rfl⟩ := for_list (i := 4) (s := L1_letter_orders) dO fs (fun p ρ => ∃ o4, ρ = [shD (dN L), S, shD (dN j), owD (.list ((stepO L p).map dO)), o4, none]) (fun p b r ρ hs ⟨o4, hr⟩ => by
    subst hr
    have hbl : b.length ≤ 3 := hb b (by rw [hs]; simp)
    have hpl : p.length ≤ 1000 := by
      have := congrArg List.length hs
      simp at this
      omega
    have hsl := stepO_len (L := L) p
    have hsl' : p.length * L ≤ 1000 * 3 := Nat.mul_le_mul hpl h3
    have hbb := stepB_len (L := L) b
    have lc : ∀ w : D, lcO (some ((List.range L).map dN)) (gN 5) (toT (o2 ninD (eW 5) (eW 4))) (o2 addD (eW 4) (eTup (lC (eV 5) lN))) [shD (dN L), S, shD (dN j), owD w, shD (dO b), none] = some (.list ((stepB L b).map dO)) := fun w => by
      rw [lcO_s (by simp; omega)]
      have := lcL_filter (i := 5) (t := toT (o2 ninD (eW 5) (eW 4))) (a := o2 addD (eW 4) (eTup (lC (eV 5) lN))) (ρ := [shD (dN L), S, shD (dN j), owD w, shD (dO b), none]) dN (fun i => !decide (i ∈ b)) (fun i => dO (b ++ [i])) (List.range L) (fun i _ => by
        have n := ninD_T i b
        simp only [shD, owD, dv, n]) (fun i _ _ => by
        have ad := add_tt (xs := b.map dN) (ys := [dN i]) (by simp; omega)
        rw [show b.map dN ++ [dN i] = (b ++ [i]).map dN by rw [List.map_append]; rfl] at ad
        simp only [shD, owD, dv, ad])
      rw [this]
      unfold stepB
      rw [List.map_map]
      rfl
    have ex := sExtO_s (i := 3) (ρ := [shD (dN L), S, shD (dN j), owD (.list ((stepO L p).map dO)), shD (dO b), none]) (ds := (stepO L p).map dO) (es := (stepB L b).map dO) rfl (by rw [List.length_map, List.length_map]; omega)
    refine ⟨[shD (dN L), S, shD (dN j), owD (.list ((stepO L (p ++ [b])).map dO)), shD (dO b), none], ?_, _, rfl⟩
    have ea : (stepO L (p ++ [b])).map dO = (stepO L p).map dO ++ (stepB L b).map dO := by
      unfold stepO
      rw [List.flatMap_append, List.map_append, List.flatMap_cons, List.flatMap_nil, List.append_nil]
    rw [ea]
    generalize (stepB L b).map dO = Y at *
    generalize (stepO L p).map dO = X at *
    simp only [shD, owD] at lc ex
    simp only [L1_letter_orders, sExt_e, shD, owD, dv, r1, lc, ex]) (ρ := [shD (dN L), S, shD (dN j), owD (.list []), o4, none]) ⟨_, rfl⟩
  exact ⟨o4', e⟩
theorem itO_len {L : Nat} (h3 : L ≤ 3) : ∀ k, k ≤ 3 → (itO L k).length ≤ 27
  | k, hk => by
    have g : ∀ L < 4, ∀ k < 4, (itO L k).length ≤ 27 := by decide +kernel
    exact g L (by omega) k (by omega)
theorem itO_end {L : Nat} (h : 0 < L) (h3 : L ≤ 3) : itO L L = ords L := by
  have : L = 1 ∨ L = 2 ∨ L = 3 := by omega
  rcases this with rfl | rfl | rfl <;> decide +kernel
theorem letter_orders_eq {L : Nat} (h : 0 < L) (h3 : L ≤ 3) : F_letter_orders [dN L] = some (.list ((ords L).map dO)) := by
  have r1 := rng1_n (count := L) (by omega)
  rw [F_letter_orders, callF_1, b_letter_orders]
  obtain ⟨ρ, e, o2, o3, o4, rfl⟩ := for_list (i := 2) (s := L2_letter_orders) dN (List.range L) (fun p ρ => ∃ o2 o3 o4, ρ = [shD (dN L), shD (.list ((itO L p.length).map dO)), o2, o3, o4, none]) (fun p j r ρ hs ⟨o2, o3, o4, hr⟩ => by
    subst hr
    have hp : p.length < L := by
      have := congrArg List.length hs
      simp at this
      omega
    obtain ⟨o4', e1⟩ := longer_eq (j := j) (S := shD (.list ((itO L p.length).map dO))) (o4 := o4) h3 (fs := itO L p.length) (by have := itO_len h3 p.length (by omega); omega) (fun b hb => by rw [itO_all _ b hb]; omega)
    refine ⟨[shD (dN L), shD (.list ((itO L (p ++ [j]).length).map dO)), shD (dN j), shD (.list ((itO L (p ++ [j]).length).map dO)), o4', none], ?_, _, _, _, rfl⟩
    have ea : itO L (p ++ [j]).length = stepO L (itO L p.length) := by
      rw [List.length_append]
      rfl
    rw [ea]
    have it : itemsD (.list ((itO L p.length).map dO)) = some ((itO L p.length).map dO) := rfl
    generalize (itO L p.length).map dO = X at *
    generalize (stepO L (itO L p.length)).map dO = Y at *
    simp only [shD, owD] at e1
    simp only [L2_letter_orders, shD, owD, dv, it, e1]) (ρ := [shD (dN L), shD (.list [.tuple []]), none, none, none, none]) ⟨_, _, _, rfl⟩
  rw [List.length_range, itO_end h h3] at e
  simp only [shD] at e
  generalize (ords L).map dO = X at *
  simp only [dv, dv0, r1, e]
end LY

set_option Elab.async false
set_option linter.all false
set_option maxRecDepth 100000
set_option maxHeartbeats 4000000
/-! LY4: kin of letters, and the law's own words. -/
noncomputable section
namespace LY
open PySem L2 DV LC MM LM MN LN
section
variable {m b : Mc}
def optO : Option (List Nat) → D
  | some o => dO o
  | none => .none
theorem kin_loop (ok : m.Ok) (okb : b.Ok) (hL : m.L = b.L) (hm : m.n ≤ 40) (hb : b.n ≤ 40) : ∀ (os : List (List Nat)) (x : Option Sl), (∀ o ∈ os, Ord m.L o) →
    (∃ o, os.find? (kinB m b) = some o ∧ forL (gN 2) L1_letter_kin (os.map dO) [shD (eM m), shD (eM b), x] = some (.rt (dO o))) ∨ (os.find? (kinB m b) = none ∧ ∃ x', forL (gN 2) L1_letter_kin (os.map dO) [shD (eM m), shD (eM b), x] = some (.nx [shD (eM m), shD (eM b), x']))
  | [], x, _ => .inr ⟨rfl, x, rfl⟩
  | o :: os, x, h => by
    obtain ⟨s, r, e1, e2, e3⟩ := kin_eq ok okb hL hm hb (h o List.mem_cons_self)
    have e4 : isD r .none = some (.bool (kinB m b o)) := by rw [is_n, e3]
    rw [List.map_cons, forL_cons]
    show (∃ o', _ ∧ turnS (L1_letter_kin [shD (eM m), shD (eM b), shD (dO o)]) _ = _) ∨ (_ ∧ ∃ x', turnS (L1_letter_kin [shD (eM m), shD (eM b), shD (dO o)]) _ = _)
    cases hk : kinB m b o with
    | true =>
      rw [hk] at e4
      have st : L1_letter_kin [shD (eM m), shD (eM b), shD (dO o)] = some (.rt (dO o)) := by
        generalize dO o = T at *
        simp only [L1_letter_kin, shD, dv, e1, e2, e4]
      rw [st, turnS_rt]
      exact .inl ⟨o, by rw [List.find?_cons, hk], rfl⟩
    | false =>
      rw [hk] at e4
      have st : L1_letter_kin [shD (eM m), shD (eM b), shD (dO o)] = some (.nx [shD (eM m), shD (eM b), shD (dO o)]) := by
        generalize dO o = T at *
        simp only [L1_letter_kin, shD, dv, e1, e2, e4]
      rw [st, turnS_nx, List.find?_cons, hk]
      exact kin_loop ok okb hL hm hb os (shD (dO o)) fun o' ho => h o' (List.mem_cons_of_mem _ ho)
theorem letter_kin_eq (ok : m.Ok) (okb : b.Ok) (hL : m.L = b.L) (hm : m.n ≤ 40) (hb : b.n ≤ 40) : F_letter_kin [eM m, eM b] = some (optO ((ords m.L).find? (kinB m b))) := by
  have lo := letter_orders_eq ok.L1 ok.L3
  have it : itemsD (.list ((ords m.L).map dO)) = some ((ords m.L).map dO) := rfl
  rw [F_letter_kin, callF_2, b_letter_kin]
  rcases kin_loop ok okb hL hm hb (ords m.L) none (fun o ho => ords_ok ho) with ⟨o, h1, h2⟩ | ⟨h1, x', h2⟩
  · rw [h1]
    show _ = some (dO o)
    generalize dO o = T at *
    generalize (ords m.L).map dO = X at *
    simp only [shD] at h2
    simp only [dv, dv0, ix_M0, lo, it, h2]
  · rw [h1]
    show _ = some PyData.none
    generalize (ords m.L).map dO = X at *
    simp only [shD] at h2
    simp only [dv, dv0, ix_M0, lo, it, h2]
theorem own_kin_eq (ok : m.Ok) (hm : m.n ≤ 40) : F_own_kin [eM m] = some (.list (((ords m.L).filter (kinB m m)).map dO)) := by
  have lo := letter_orders_eq ok.L1 ok.L3
  have it : itemsD (.list ((ords m.L).map dO)) = some ((ords m.L).map dO) := rfl
  have ll := ords_len (L := m.L)
  rw [F_own_kin, callF_1, b_own_kin]
  have lc : lcO (some ((ords m.L).map dO)) (gN 2) (toT (o2 isD (eCall F_parting_word (lC (eCall F_with_names (lC (eV 0) (lC (eV 2) lN))) (lC (eV 0) lN))) (eC .none))) (eV 2) [shD (eM m), shD (.list ((ords m.L).map dO)), none] = some (.list (((ords m.L).filter (kinB m m)).map dO)) := by
    rw [lcO_s (by rw [List.length_map]; omega)]
    have := lcL_filter (i := 2) (t := toT (o2 isD (eCall F_parting_word (lC (eCall F_with_names (lC (eV 0) (lC (eV 2) lN))) (lC (eV 0) lN))) (eC .none))) (a := eV 2) (ρ := [shD (eM m), shD (.list ((ords m.L).map dO)), none]) dO (kinB m m) dO (ords m.L) (fun o ho => by
      obtain ⟨s, r, e1, e2, e3⟩ := kin_eq ok ok rfl hm hm (ords_ok ho)
      have e4 : isD r .none = some (.bool (kinB m m o)) := by rw [is_n, e3]
      generalize dO o = T at *
      simp only [shD, dv, e1, e2, e4]) (fun o _ _ => by
      generalize dO o = T at *
      simp only [shD, dv])
    rw [this]
    rfl
  simp only [shD] at lc
  generalize ((ords m.L).filter (kinB m m)).map dO = Y at *
  generalize (ords m.L).map dO = X at *
  simp only [dv, dv0, ix_M0, lo, it, lc]
/-! ### least machines compared -/
theorem dN_inj {a b : Nat} (h : dN a = dN b) : a = b := by
  have := PyData.int.inj h
  omega
theorem map_dN_inj : ∀ {a b : List Nat}, a.map dN = b.map dN → a = b
  | [], [], _ => rfl
  | [], _ :: _, h => by cases h
  | _ :: _, [], h => by cases h
  | x :: a, y :: b, h => by
    rw [List.map_cons, List.map_cons, List.cons.injEq] at h
    rw [dN_inj h.1, map_dN_inj h.2]
theorem map_eR_inj : ∀ {a b : List (List Nat)}, a.map eR = b.map eR → a = b
  | [], [], _ => rfl
  | [], _ :: _, h => by cases h
  | _ :: _, [], h => by cases h
  | x :: a, y :: b, h => by
    rw [List.map_cons, List.map_cons, List.cons.injEq] at h
    rw [map_dN_inj (PyData.tuple.inj h.1), map_eR_inj h.2]
theorem eM_inj {s t : Mc} (h : eM s = eM t) : s = t := by
  have h := PyData.tuple.inj h
  rw [List.cons.injEq, List.cons.injEq, List.cons.injEq] at h
  obtain ⟨h1, h2, h3, _⟩ := h
  obtain ⟨L, rows, fin⟩ := s
  obtain ⟨L', rows', fin'⟩ := t
  have a1 : L = L' := dN_inj h1
  have a2 : rows = rows' := map_eR_inj (PyData.tuple.inj h2)
  have a3 : fin = fin' := map_dN_inj (PyData.tuple.inj h3)
  rw [a1, a2, a3]
theorem nice_nums {l : List Nat} {k : Nat} : nice (k + 1) (.tuple (l.map dN)) := nice_tuple.mpr fun x hx => by
  obtain ⟨n, _, rfl⟩ := List.mem_map.mp hx
  exact nice_int
theorem nice_eM (s : Mc) : nice 3 (eM s) := nice_tuple.mpr fun x hx => by
  simp only [List.mem_cons, List.not_mem_nil, or_false] at hx
  rcases hx with rfl | rfl | rfl
  · exact nice_int
  · exact nice_tuple.mpr fun y hy => by
      obtain ⟨r, _, rfl⟩ := List.mem_map.mp hy
      exact nice_nums
  · exact nice_nums
/-- two least machines are the same where the languages are -/
theorem least_same {a b s t : Mc} (hL : a.L = b.L) (h1 : LeastOf a s) (c1 : canon s) (h2 : LeastOf b t) (c2 : canon t) : s = t ↔ same a b := by
  constructor
  · intro e w hw
    subst e
    exact (h1.lang w hw).symm.trans (h2.lang w (hL ▸ hw))
  · intro z
    have g : LeastOf a t := ⟨h2.ok, by rw [h2.L, hL], fun w hw => (h2.lang w (hL ▸ hw)).trans (z w hw).symm, fun q hq => by
      obtain ⟨w, hw, e⟩ := h2.reach q hq
      exact ⟨w, hL ▸ hw, e⟩, h2.dist, h2.finlt⟩
    exact canon_uniq h1 g c1 c2
theorem law_same_least {o : List Nat} (ok : m.Ok) (okb : b.Ok) (hL : m.L = b.L) (hm : m.n ≤ 40) (hb : b.n ≤ 40) (h : Ord m.L o) :
    ∃ x y, F_law_least [eM (ren m o)] = some x ∧ F_law_least [eM b] = some y ∧ eqD x y = some (.bool (kinB m b o)) := by
  have hmm : m.n * m.n ≤ 40 * 40 := Nat.mul_le_mul hm hm
  have hbb : b.n * b.n ≤ 40 * 40 := Nat.mul_le_mul hb hb
  obtain ⟨s, e1, l1, c1, _⟩ := law_least_eq (ren_ok ok h) (by rw [ren_n]; omega)
  obtain ⟨t, e2, l2, c2, _⟩ := law_least_eq okb (by omega)
  refine ⟨_, _, e1, e2, eqD_nice (nice_eM s) (nice_eM t) (by decide) ?_⟩
  rw [kinB_iff, ← least_same (a := ren m o) hL l1 c1 l2 c2]
  exact ⟨fun e => by rw [e], eM_inj⟩
end
end LY
end

set_option Elab.async false
set_option linter.all false
set_option maxRecDepth 100000
set_option maxHeartbeats 4000000
noncomputable section
namespace G85
open PySem PySem.Spec L2 DV
def top (i : Nat) : Stmt := PySem.Challenge.pw_viewedwords_k85_letter_kin.main.body.getD i (.Pass ⟨0, 0, 0, 0⟩)
abbrev s_letter_index : Stmt := top 5
abbrev N_letter_index : List Str := ["letter"]
abbrev s_state_behind : Stmt := top 8
abbrev N_state_behind : List Str := ["machine", "state", "word", "letter"]
abbrev s_is_final : Stmt := top 9
abbrev N_is_final : List Str := ["machine", "state"]
abbrev s_access_from : Stmt := top 10
abbrev N_access_from : List Str := ["machine", "start", "found", "waiting", "at", "state", "index", "following"]
abbrev s_access_words : Stmt := top 11
abbrev N_access_words : List Str := ["machine"]
abbrev s_reachable : Stmt := top 12
abbrev N_reachable : List Str := ["machine", "found", "state"]
abbrev s_first_parts : Stmt := top 14
abbrev N_first_parts : List Str := ["machine", "states", "state"]
abbrev s_finer_parts : Stmt := top 15
abbrev N_finer_parts : List Str := ["machine", "parts", "numbers", "found", "state", "key", "following"]
abbrev s_part_count : Stmt := top 16
abbrev N_part_count : List Str := ["parts"]
abbrev s_same_parts : Stmt := top 17
abbrev N_same_parts : List Str := ["machine", "parts", "finer"]
abbrev s_numbered_states : Stmt := top 18
abbrev N_numbered_states : List Str := ["machine", "parts", "chosen", "seen", "at", "following"]
abbrev s_least : Stmt := top 19
abbrev N_least : List Str := ["machine", "parts", "chosen", "numbers", "rows", "finals", "index", "state", "following"]
abbrev s_parting_from : Stmt := top 20
abbrev N_parting_from : List Str := ["first", "second", "p", "q", "words", "waiting", "at", "one", "two", "word", "index", "pair"]
abbrev s_parting_word : Stmt := top 21
abbrev N_parting_word : List Str := ["first", "second"]
abbrev s_bounded : Stmt := top 23
abbrev N_bounded : List Str := ["machine", "small"]
abbrev s_renamed_letters : Stmt := top 24
abbrev N_renamed_letters : List Str := ["machine", "words", "rows", "state", "word"]
abbrev s_letter_orders : Stmt := top 26
abbrev N_letter_orders : List Str := ["letters", "found", "place", "longer", "begun", "index"]
abbrev s_with_names : Stmt := top 27
abbrev N_with_names : List Str := ["machine", "order", "index"]
abbrev s_letter_kin : Stmt := top 28
abbrev N_letter_kin : List Str := ["first", "second", "order"]
abbrev s_own_kin : Stmt := top 29
abbrev N_own_kin : List Str := ["machine", "orders", "order"]
abbrev s_law_same : Stmt := top 31
abbrev N_law_same : List Str := ["told", "due", "k"]
abbrev s_law_number : Stmt := top 32
abbrev N_law_number : List Str := ["script", "k", "number"]
abbrev s_law_draws : Stmt := top 33
abbrev N_law_draws : List Str := ["script", "k", "count", "many", "number", "found", "at", "state", "other"]
abbrev s_law_machine : Stmt := top 34
abbrev N_law_machine : List Str := ["script", "k", "letters", "n", "picks", "rows", "p", "finals", "pick"]
abbrev s_law_least : Stmt := top 35
abbrev N_law_least : List Str := ["machine", "found", "at", "q", "parted", "chosen", "p", "order", "following", "rows", "r", "j"]
abbrev s_law_parted : Stmt := top 36
abbrev N_law_parted : List Str := ["machine", "states", "parted", "before", "p", "q", "apart", "i"]
abbrev s_law_orders : Stmt := top 37
abbrev N_law_orders : List Str := ["letters"]
abbrev s_law_renamed : Stmt := top 38
abbrev N_law_renamed : List Str := ["machine", "order", "row", "i"]
abbrev s_law : Stmt := top 39
abbrev N_law : List Str := ["script", "shape", "letters", "first", "orders", "renamed", "drawn", "second", "due", "expected", "order"]
structure Txt (K : PySem.W.Frag) (mg : Str → Option Value) : Prop where
  t_letter_index : TopF K mg "letter_index" s_letter_index ["letter"]
  t_state_behind : TopF K mg "state_behind" s_state_behind ["machine", "state", "word"]
  t_is_final : TopF K mg "is_final" s_is_final ["machine", "state"]
  t_access_from : TopF K mg "access_from" s_access_from ["machine", "start"]
  t_access_words : TopF K mg "access_words" s_access_words ["machine"]
  t_reachable : TopF K mg "reachable" s_reachable ["machine"]
  t_first_parts : TopF K mg "first_parts" s_first_parts ["machine", "states"]
  t_finer_parts : TopF K mg "finer_parts" s_finer_parts ["machine", "parts"]
  t_part_count : TopF K mg "part_count" s_part_count ["parts"]
  t_same_parts : TopF K mg "same_parts" s_same_parts ["machine"]
  t_numbered_states : TopF K mg "numbered_states" s_numbered_states ["machine", "parts"]
  t_least : TopF K mg "least" s_least ["machine"]
  t_parting_from : TopF K mg "parting_from" s_parting_from ["first", "second", "p", "q"]
  t_parting_word : TopF K mg "parting_word" s_parting_word ["first", "second"]
  t_bounded : TopF K mg "bounded" s_bounded ["machine"]
  t_renamed_letters : TopF K mg "renamed_letters" s_renamed_letters ["machine", "words"]
  t_letter_orders : TopF K mg "letter_orders" s_letter_orders ["letters"]
  t_with_names : TopF K mg "with_names" s_with_names ["machine", "order"]
  t_letter_kin : TopF K mg "letter_kin" s_letter_kin ["first", "second"]
  t_own_kin : TopF K mg "own_kin" s_own_kin ["machine"]
  t_law_same : TopF K mg "_law_same" s_law_same ["told", "due"]
  t_law_number : TopF K mg "_law_number" s_law_number ["script", "k"]
  t_law_draws : TopF K mg "_law_draws" s_law_draws ["script", "k", "count", "many"]
  t_law_machine : TopF K mg "_law_machine" s_law_machine ["script", "k", "letters", "n"]
  t_law_least : TopF K mg "_law_least" s_law_least ["machine"]
  t_law_parted : TopF K mg "_law_parted" s_law_parted ["machine", "states"]
  t_law_orders : TopF K mg "_law_orders" s_law_orders ["letters"]
  t_law_renamed : TopF K mg "_law_renamed" s_law_renamed ["machine", "order"]
  t_law : TopF K mg "law" s_law ["script"]
  n_abs : mg "abs" = none
  n_bool : mg "bool" = none
  n_int : mg "int" = none
  n_isinstance : mg "isinstance" = none
  n_len : mg "len" = none
  n_list : mg "list" = none
  n_range : mg "range" = none
  n_set : mg "set" = none
  n_str : mg "str" = none
  n_sum : mg "sum" = none
  n_tuple : mg "tuple" = none
  c_LETTERS : ∃ t, mg "LETTERS" = some (.str "abc" t)
  c_MAX_STATES : ∃ t, mg "MAX_STATES" = some (.int 40 t)
section
variable {P : Program} {w : World} {K : PySem.W.Frag} {mg : Str → Option Value} {base : Heap}
theorem sc_letter_index : FnScope N_letter_index ["letter"] (defScope s_letter_index) := ⟨rfl, rfl, rfl, by decide +kernel, rfl, by decide +kernel, by decide +kernel⟩
theorem d_letter_index (T : Txt K mg) : DefD P w K mg base 1 "letter_index" LM.F_letter_index := by
  refine .of (N := N_letter_index) (b := LM.b_letter_index) T.t_letter_index sc_letter_index fun f cdv A outer s H E hr => ?_
  have hu64 := hr.units
  have hu := hu_of hr
  have hu65 : _ + 65 < cLine := room65 hr
  exact (ss_one (s_ret (f_index (f_b (f_glS rfl T.c_LETTERS.choose_spec)) (ab_cons (b_v 0) ab_nil))))
theorem sc_state_behind : FnScope N_state_behind ["machine", "state", "word"] (defScope s_state_behind) := ⟨rfl, rfl, rfl, by decide +kernel, rfl, by decide +kernel, by decide +kernel⟩
theorem d_state_behind (T : Txt K mg) : DefD P w K mg base 2 "state_behind" LM.F_state_behind := by
  refine .of (N := N_state_behind) (b := LM.b_state_behind) T.t_state_behind sc_state_behind fun f cdv A outer s H E hr => ?_
  have hu64 := hr.units
  have hu := hu_of hr
  have hu65 : _ + 65 < cLine := room65 hr
  exact (ss_cons (s_for PassesOwn.never rfl (i_any (f_v 2)) (g_name 3 sc_state_behind.nd) (ss_one (s_set 1 (f_ix hu (f_b (f_ix hu (f_b (f_ix hu (b_v 0) (f_b f_int))) (b_v 1))) (f_b (f_call (d_letter_index T) (hr.mono (by decide)) (a_cons (f_v 3) a_nil)))) sc_state_behind.nd)))
      (ss_one (s_ret (f_v 1))))
theorem sc_is_final : FnScope N_is_final ["machine", "state"] (defScope s_is_final) := ⟨rfl, rfl, rfl, by decide +kernel, rfl, by decide +kernel, by decide +kernel⟩
theorem d_is_final (T : Txt K mg) : DefD P w K mg base 1 "is_final" LM.F_is_final := by
  refine .of (N := N_is_final) (b := LM.b_is_final) T.t_is_final sc_is_final fun f cdv A outer s H E hr => ?_
  have hu64 := hr.units
  have hu := hu_of hr
  have hu65 : _ + 65 < cLine := room65 hr
  exact (ss_one (s_ret (f_cm (c_in hu65) (b_v 1) (f_b (f_ix hu (b_v 0) (f_b f_int))) (by with_unfolding_all rfl))))
theorem sc_access_from : FnScope N_access_from ["machine", "start"] (defScope s_access_from) := ⟨rfl, rfl, rfl, by decide +kernel, rfl, by decide +kernel, by decide +kernel⟩
theorem d_access_from (T : Txt K mg) : DefD P w K mg base 1 "access_from" LN.F_access_from := by
  refine .of (N := N_access_from) (b := LN.b_access_from) T.t_access_from sc_access_from fun f cdv A outer s H E hr => ?_
  have hu64 := hr.units
  have hu := hu_of hr
  have hu65 : _ + 65 < cLine := room65 hr
  exact (ss_cons (s_lcH 2 [("state", 5)] rfl sc_access_from.nd (toH (i_any (f_ix hu (b_v 0) (f_b f_int)))) (show blkC N_access_from (defScope s_access_from) _ _ = true by decide +kernel) (fun _ _ _ _ _ => (gc_name 5 sc_access_from.nd)) (fun _ _ _ _ _ => ts_nil) (fun _ _ _ _ _ => f_non))
      (ss_cons (s_put 2 hu f_str (f_v 1))
      (ss_cons (s_own 3 (n_lst (a_cons (f_v 1) a_nil)) sc_access_from.nd)
      (ss_cons (s_set 4 f_int sc_access_from.nd)
      (ss_cons (s_while 1000000 PassesOwn.never (t_cm c_lt (b_v 4) (f_b (f_len T.n_len (ab_cons (b_v 3) ab_nil))) (nomark _)) (ss_cons (s_set 5 (f_ix hu (b_v 3) (b_v 4)) sc_access_from.nd)
      (ss_cons (s_for PassesOwn.never rfl (i_rng1 T.n_range (a_cons (f_ix hu (b_v 0) (f_b f_int)) a_nil)) (g_name 6 sc_access_from.nd) (ss_cons (s_set 7 (f_ix hu (f_b (f_ix hu (f_b (f_ix hu (b_v 0) (f_b f_int))) (b_v 5))) (b_v 6)) sc_access_from.nd)
      (ss_one (s_if (t_cm c_is (f_b (f_ix hu (b_v 2) (b_v 7))) (f_b f_non) (nomark _)) (ss_cons (s_put 2 hu (f_add (f_b (f_ix hu (b_v 2) (b_v 5))) (f_b (f_ix hu (f_b (f_glS rfl T.c_LETTERS.choose_spec)) (b_v 6)))) (f_v 7))
      (ss_one (s_app 3 (f_v 7)))) ss_nil))))
      (ss_one (s_set 4 (f_add (b_v 4) (f_b f_int)) sc_access_from.nd)))))
      (ss_one (s_frz 2 (s_ret (f_v 2)))))))))
theorem sc_access_words : FnScope N_access_words ["machine"] (defScope s_access_words) := ⟨rfl, rfl, rfl, by decide +kernel, rfl, by decide +kernel, by decide +kernel⟩
theorem d_access_words (T : Txt K mg) : DefD P w K mg base 2 "access_words" LN.F_access_words := by
  refine .of (N := N_access_words) (b := LN.b_access_words) T.t_access_words sc_access_words fun f cdv A outer s H E hr => ?_
  have hu64 := hr.units
  have hu := hu_of hr
  have hu65 : _ + 65 < cLine := room65 hr
  exact (ss_one (s_ret (f_call (d_access_from T) (hr.mono (by decide)) (a_cons (f_v 0) (a_cons f_int a_nil)))))
theorem sc_reachable : FnScope N_reachable ["machine"] (defScope s_reachable) := ⟨rfl, rfl, rfl, by decide +kernel, rfl, by decide +kernel, by decide +kernel⟩
theorem d_reachable (T : Txt K mg) : DefD P w K mg base 3 "reachable" LN.F_reachable := by
  refine .of (N := N_reachable) (b := LN.b_reachable) T.t_reachable sc_reachable fun f cdv A outer s H E hr => ?_
  have hu64 := hr.units
  have hu := hu_of hr
  have hu65 : _ + 65 < cLine := room65 hr
  exact (ss_cons (s_set 1 (f_call (d_access_words T) (hr.mono (by decide)) (a_cons (f_v 0) a_nil)) sc_reachable.nd)
      (ss_one (s_ret (n_f (n_lcH [("state", 2)] rfl sc_reachable.nd (toH (i_rng1 T.n_range (a_cons (f_len T.n_len (ab_cons (b_v 1) ab_nil)) a_nil))) (show blkC N_reachable (defScope s_reachable) _ _ = true by decide +kernel) (fun _ _ _ _ _ => (gc_name 2 sc_reachable.nd)) (fun _ _ _ _ _ => (ts_one (t_cm c_isn (f_b (f_ix hu (b_v 1) (b_v 2))) (f_b f_non) (nomark _)))) (fun _ _ _ _ _ => (f_v 2)))))))
theorem sc_first_parts : FnScope N_first_parts ["machine", "states"] (defScope s_first_parts) := ⟨rfl, rfl, rfl, by decide +kernel, rfl, by decide +kernel, by decide +kernel⟩
theorem d_first_parts (T : Txt K mg) : DefD P w K mg base 2 "first_parts" LN.F_first_parts := by
  refine .of (N := N_first_parts) (b := LN.b_first_parts) T.t_first_parts sc_first_parts fun f cdv A outer s H E hr => ?_
  have hu64 := hr.units
  have hu := hu_of hr
  have hu65 : _ + 65 < cLine := room65 hr
  exact (ss_one (s_ret (n_f (n_dcH [("state", 2)] rfl sc_first_parts.nd (toH (i_any (f_v 1))) (show blkC N_first_parts (defScope s_first_parts) _ _ = true by decide +kernel) (fun _ _ _ _ _ => (gc_name 2 sc_first_parts.nd)) (fun _ _ _ _ _ => ts_nil) (fun _ _ _ _ _ => (f_v 2)) (fun _ _ _ _ _ => (f_int1 T.n_int (ab_cons (f_b (f_call (d_is_final T) (hr.mono (by decide)) (a_cons (f_v 0) (a_cons (f_v 2) a_nil)))) ab_nil)))))))
theorem sc_finer_parts : FnScope N_finer_parts ["machine", "parts"] (defScope s_finer_parts) := ⟨rfl, rfl, rfl, by decide +kernel, rfl, by decide +kernel, by decide +kernel⟩
theorem d_finer_parts (T : Txt K mg) : DefD P w K mg base 1 "finer_parts" LN.F_finer_parts := by
  refine .of (N := N_finer_parts) (b := LN.b_finer_parts) T.t_finer_parts sc_finer_parts fun f cdv A outer s H E hr => ?_
  have hu64 := hr.units
  have hu := hu_of hr
  have hu65 : _ + 65 < cLine := room65 hr
  exact (ss_cons (s_own 2 n_dN sc_finer_parts.nd)
      (ss_cons (s_own 3 n_dK sc_finer_parts.nd)
      (ss_cons (s_for PassesOwn.never rfl (i_any (f_v 1)) (g_name 4 sc_finer_parts.nd) (ss_cons (s_set 5 (f_tup (a_cons (f_ix hu (b_v 1) (b_v 4)) (a_cons (f_tuple T.n_tuple (ab_cons (n_b (n_lcH [("following", 6)] rfl sc_finer_parts.nd (toH (i_any (f_ix hu (f_b (f_ix hu (b_v 0) (f_b f_int))) (b_v 4)))) (show blkC N_finer_parts (defScope s_finer_parts) _ _ = true by decide +kernel) (fun _ _ _ _ _ => (gc_name 6 sc_finer_parts.nd)) (fun _ _ _ _ _ => ts_nil) (fun _ _ _ _ _ => (f_ix hu (b_v 1) (b_v 6))))) ab_nil)) a_nil))) sc_finer_parts.nd)
      (ss_cons (s_if (t_cm (c_ninN hu64) (b_v 5) (b_v 2) (by with_unfolding_all rfl)) (ss_one (s_putN 2 hu64 (f_lenN T.n_len (b_v 2)) (f_v 5))) ss_nil)
      (ss_one (s_put 3 hu (f_ixN hu64 (b_v 2) (b_v 5)) (f_v 4))))))
      (ss_one (s_frz 3 (s_ret (f_v 3)))))))
theorem sc_part_count : FnScope N_part_count ["parts"] (defScope s_part_count) := ⟨rfl, rfl, rfl, by decide +kernel, rfl, by decide +kernel, by decide +kernel⟩
theorem d_part_count (T : Txt K mg) : DefD P w K mg base 1 "part_count" LN.F_part_count := by
  refine .of (N := N_part_count) (b := LN.b_part_count) T.t_part_count sc_part_count fun f cdv A outer s H E hr => ?_
  have hu64 := hr.units
  have hu := hu_of hr
  have hu65 : _ + 65 < cLine := room65 hr
  exact (ss_one (s_ret (f_lset rfl T.n_len T.n_set (f_b (f_lvals rfl T.n_list (b_v 0))))))
theorem sc_same_parts : FnScope N_same_parts ["machine"] (defScope s_same_parts) := ⟨rfl, rfl, rfl, by decide +kernel, rfl, by decide +kernel, by decide +kernel⟩
theorem d_same_parts (T : Txt K mg) : DefD P w K mg base 4 "same_parts" LN.F_same_parts := by
  refine .of (N := N_same_parts) (b := LN.b_same_parts) T.t_same_parts sc_same_parts fun f cdv A outer s H E hr => ?_
  have hu64 := hr.units
  have hu := hu_of hr
  have hu65 : _ + 65 < cLine := room65 hr
  exact (ss_cons (s_set 1 (f_call (d_first_parts T) (hr.mono (by decide)) (a_cons (f_v 0) (a_cons (f_call (d_reachable T) (hr.mono (by decide)) (a_cons (f_v 0) a_nil)) a_nil))) sc_same_parts.nd)
      (ss_cons (s_set 2 (f_call (d_finer_parts T) (hr.mono (by decide)) (a_cons (f_v 0) (a_cons (f_v 1) a_nil))) sc_same_parts.nd)
      (ss_cons (s_while 1000000 PassesOwn.never (t_cm c_gt (f_b (f_call (d_part_count T) (hr.mono (by decide)) (a_cons (f_v 2) a_nil))) (f_b (f_call (d_part_count T) (hr.mono (by decide)) (a_cons (f_v 1) a_nil))) (nomark _)) (ss_cons (s_set 1 (f_v 2) sc_same_parts.nd)
      (ss_one (s_set 2 (f_call (d_finer_parts T) (hr.mono (by decide)) (a_cons (f_v 0) (a_cons (f_v 1) a_nil))) sc_same_parts.nd))))
      (ss_one (s_ret (f_v 1))))))
theorem sc_numbered_states : FnScope N_numbered_states ["machine", "parts"] (defScope s_numbered_states) := ⟨rfl, rfl, rfl, by decide +kernel, rfl, by decide +kernel, by decide +kernel⟩
theorem d_numbered_states (T : Txt K mg) : DefD P w K mg base 1 "numbered_states" LN.F_numbered_states := by
  refine .of (N := N_numbered_states) (b := LN.b_numbered_states) T.t_numbered_states sc_numbered_states fun f cdv A outer s H E hr => ?_
  have hu64 := hr.units
  have hu := hu_of hr
  have hu65 : _ + 65 < cLine := room65 hr
  exact (ss_cons (s_own 2 (n_lst (a_cons f_int a_nil)) sc_numbered_states.nd)
      (ss_cons (s_own 3 (n_d1 (f_ix hu (b_v 1) (f_b f_int)) f_bl) sc_numbered_states.nd)
      (ss_cons (s_set 4 f_int sc_numbered_states.nd)
      (ss_cons (s_while 1000000 PassesOwn.never (t_cm c_lt (b_v 4) (f_b (f_len T.n_len (ab_cons (b_v 2) ab_nil))) (nomark _)) (ss_cons (s_for PassesOwn.never rfl (i_any (f_ix hu (f_b (f_ix hu (b_v 0) (f_b f_int))) (f_b (f_ix hu (b_v 2) (b_v 4))))) (g_name 5 sc_numbered_states.nd) (ss_one (s_if (t_cm (c_nin hu65) (f_b (f_ix hu (b_v 1) (b_v 5))) (b_v 3) (by with_unfolding_all rfl)) (ss_cons (s_put 3 hu f_bl (f_ix hu (b_v 1) (b_v 5)))
      (ss_one (s_app 2 (f_v 5)))) ss_nil)))
      (ss_one (s_set 4 (f_add (b_v 4) (f_b f_int)) sc_numbered_states.nd))))
      (ss_one (s_frz 2 (s_ret (f_v 2))))))))
theorem sc_least : FnScope N_least ["machine"] (defScope s_least) := ⟨rfl, rfl, rfl, by decide +kernel, rfl, by decide +kernel, by decide +kernel⟩
theorem d_least (T : Txt K mg) : DefD P w K mg base 5 "least" LN.F_least := by
  refine .of (N := N_least) (b := LN.b_least) T.t_least sc_least fun f cdv A outer s H E hr => ?_
  have hu64 := hr.units
  have hu := hu_of hr
  have hu65 : _ + 65 < cLine := room65 hr
  exact (ss_cons (s_set 1 (f_call (d_same_parts T) (hr.mono (by decide)) (a_cons (f_v 0) a_nil)) sc_least.nd)
      (ss_cons (s_set 2 (f_call (d_numbered_states T) (hr.mono (by decide)) (a_cons (f_v 0) (a_cons (f_v 1) a_nil))) sc_least.nd)
      (ss_cons (s_set 3 (n_f (n_dcH [("index", 6)] rfl sc_least.nd (toH (i_rng1 T.n_range (a_cons (f_len T.n_len (ab_cons (b_v 2) ab_nil)) a_nil))) (show blkC N_least (defScope s_least) _ _ = true by decide +kernel) (fun _ _ _ _ _ => (gc_name 6 sc_least.nd)) (fun _ _ _ _ _ => ts_nil) (fun _ _ _ _ _ => (f_ix hu (b_v 1) (f_b (f_ix hu (b_v 2) (b_v 6))))) (fun _ _ _ _ _ => (f_v 6)))) sc_least.nd)
      (ss_cons (s_thenF 4 (s_lcH 4 [("state", 7)] rfl sc_least.nd (toH (i_any (f_v 2))) (show blkC N_least (defScope s_least) _ _ = true by decide +kernel) (fun _ _ _ _ _ => (gc_name 7 sc_least.nd)) (fun _ _ _ _ _ => ts_nil) (fun _ _ _ _ _ => (f_tuple T.n_tuple (ab_cons (n_b (n_lcH [("following", 8)] rfl sc_least.nd (toH (i_any (f_ix hu (f_b (f_ix hu (b_v 0) (f_b f_int))) (b_v 7)))) (by kernel_rfl) (fun _ _ _ _ _ => (gc_name 8 sc_least.nd)) (fun _ _ _ _ _ => ts_nil) (fun _ _ _ _ _ => (f_ix hu (b_v 3) (f_b (f_ix hu (b_v 1) (b_v 8))))))) ab_nil)))))
      (ss_cons (s_thenF 5 (s_lcH 5 [("index", 6)] rfl sc_least.nd (toH (i_rng1 T.n_range (a_cons (f_len T.n_len (ab_cons (b_v 2) ab_nil)) a_nil))) (show blkC N_least (defScope s_least) _ _ = true by decide +kernel) (fun _ _ _ _ _ => (gc_name 6 sc_least.nd)) (fun _ _ _ _ _ => (ts_one (t_val (f_call (d_is_final T) (hr.mono (by decide)) (a_cons (f_v 0) (a_cons (f_ix hu (b_v 2) (b_v 6)) a_nil)))))) (fun _ _ _ _ _ => (f_v 6))))
      (ss_one (s_ret (f_tup (a_cons (f_ix hu (b_v 0) (f_b f_int)) (a_cons (f_tuple T.n_tuple (ab_cons (b_v 4) ab_nil)) (a_cons (f_tuple T.n_tuple (ab_cons (b_v 5) ab_nil)) a_nil)))))))))))
theorem sc_parting_from : FnScope N_parting_from ["first", "second", "p", "q"] (defScope s_parting_from) := ⟨rfl, rfl, rfl, by decide +kernel, rfl, by decide +kernel, by decide +kernel⟩
theorem d_parting_from (T : Txt K mg) : DefD P w K mg base 2 "parting_from" LN.F_parting_from := by
  refine .of (N := N_parting_from) (b := LN.b_parting_from) T.t_parting_from sc_parting_from fun f cdv A outer s H E hr => ?_
  have hu64 := hr.units
  have hu := hu_of hr
  have hu65 : _ + 65 < cLine := room65 hr
  exact (ss_cons (s_own 4 (n_d1T hu64 (f_tup (a_cons (f_v 2) (a_cons (f_v 3) a_nil))) f_str) sc_parting_from.nd)
      (ss_cons (s_own 5 (n_lst (a_cons (f_tup (a_cons (f_v 2) (a_cons (f_v 3) a_nil))) a_nil)) sc_parting_from.nd)
      (ss_cons (s_set 6 f_int sc_parting_from.nd)
      (ss_cons (s_while 1000000 PassesOwn.never (t_cm c_lt (b_v 6) (f_b (f_len T.n_len (ab_cons (b_v 5) ab_nil))) (nomark _)) (ss_cons (s_asg (f_ix hu (b_v 5) (b_v 6)) (g_tup rfl (gs_cons (g_name 7 sc_parting_from.nd) (gs_cons (g_name 8 sc_parting_from.nd) gs_nil))))
      (ss_cons (s_set 9 (f_ix hu (b_v 4) (f_b (f_tup (a_cons (f_v 7) (a_cons (f_v 8) a_nil))))) sc_parting_from.nd)
      (ss_cons (s_if (t_cm (c_ne hu64) (f_b (f_call (d_is_final T) (hr.mono (by decide)) (a_cons (f_v 0) (a_cons (f_v 7) a_nil)))) (f_b (f_call (d_is_final T) (hr.mono (by decide)) (a_cons (f_v 1) (a_cons (f_v 8) a_nil)))) (nomark _)) (ss_one (s_ret (f_v 9))) ss_nil)
      (ss_cons (s_for PassesOwn.never rfl (i_rng1 T.n_range (a_cons (f_ix hu (b_v 0) (f_b f_int)) a_nil)) (g_name 10 sc_parting_from.nd) (ss_cons (s_set 11 (f_tup (a_cons (f_ix hu (f_b (f_ix hu (f_b (f_ix hu (b_v 0) (f_b f_int))) (b_v 7))) (b_v 10)) (a_cons (f_ix hu (f_b (f_ix hu (f_b (f_ix hu (b_v 1) (f_b f_int))) (b_v 8))) (b_v 10)) a_nil))) sc_parting_from.nd)
      (ss_one (s_if (t_cm (c_nin hu65) (b_v 11) (b_v 4) (by with_unfolding_all rfl)) (ss_cons (s_put 4 hu (f_add (b_v 9) (f_b (f_ix hu (f_b (f_glS rfl T.c_LETTERS.choose_spec)) (b_v 10)))) (f_v 11))
      (ss_one (s_app 5 (f_v 11)))) ss_nil))))
      (ss_one (s_set 6 (f_add (b_v 6) (f_b f_int)) sc_parting_from.nd)))))))
      (ss_one (s_ret f_non))))))
theorem sc_parting_word : FnScope N_parting_word ["first", "second"] (defScope s_parting_word) := ⟨rfl, rfl, rfl, by decide +kernel, rfl, by decide +kernel, by decide +kernel⟩
theorem d_parting_word (T : Txt K mg) : DefD P w K mg base 3 "parting_word" LY.F_parting_word := by
  refine .of (N := N_parting_word) (b := LY.b_parting_word) T.t_parting_word sc_parting_word fun f cdv A outer s H E hr => ?_
  have hu64 := hr.units
  have hu := hu_of hr
  have hu65 : _ + 65 < cLine := room65 hr
  exact (ss_one (s_ret (f_call (d_parting_from T) (hr.mono (by decide)) (a_cons (f_v 0) (a_cons (f_v 1) (a_cons f_int (a_cons f_int a_nil)))))))
theorem sc_bounded : FnScope N_bounded ["machine"] (defScope s_bounded) := ⟨rfl, rfl, rfl, by decide +kernel, rfl, by decide +kernel, by decide +kernel⟩
theorem d_bounded (T : Txt K mg) : DefD P w K mg base 6 "bounded" LY.F_bounded := by
  refine .of (N := N_bounded) (b := LY.b_bounded) T.t_bounded sc_bounded fun f cdv A outer s H E hr => ?_
  have hu64 := hr.units
  have hu := hu_of hr
  have hu65 : _ + 65 < cLine := room65 hr
  exact (ss_cons (s_set 1 (f_call (d_least T) (hr.mono (by decide)) (a_cons (f_v 0) a_nil)) sc_bounded.nd)
      (ss_cons (s_if (t_cm c_gt (f_b (f_len T.n_len (ab_cons (f_b (f_ix hu (b_v 1) (f_b f_int))) ab_nil))) (f_b (f_glI rfl T.c_MAX_STATES.choose_spec)) (nomark _)) (ss_one s_never) ss_nil)
      (ss_one (s_ret (f_v 1)))))
theorem sc_renamed_letters : FnScope N_renamed_letters ["machine", "words"] (defScope s_renamed_letters) := ⟨rfl, rfl, rfl, by decide +kernel, rfl, by decide +kernel, by decide +kernel⟩
theorem d_renamed_letters (T : Txt K mg) : DefD P w K mg base 7 "renamed_letters" LY.F_renamed_letters := by
  refine .of (N := N_renamed_letters) (b := LY.b_renamed_letters) T.t_renamed_letters sc_renamed_letters fun f cdv A outer s H E hr => ?_
  have hu64 := hr.units
  have hu := hu_of hr
  have hu65 : _ + 65 < cLine := room65 hr
  exact (ss_cons (s_own 2 (n_lst a_nil) sc_renamed_letters.nd)
      (ss_cons (s_for PassesOwn.never rfl (i_rng1 T.n_range (a_cons (f_len T.n_len (ab_cons (f_b (f_ix hu (b_v 0) (f_b f_int))) ab_nil)) a_nil)) (g_name 3 sc_renamed_letters.nd) (ss_one (s_app 2 (f_tuple T.n_tuple (ab_cons (n_b (n_lcH [("word", 4)] rfl sc_renamed_letters.nd (toH (i_any (f_v 1))) (show blkC N_renamed_letters (defScope s_renamed_letters) _ _ = true by decide +kernel) (fun _ _ _ _ _ => (gc_name 4 sc_renamed_letters.nd)) (fun _ _ _ _ _ => ts_nil) (fun _ _ _ _ _ => (f_call (d_state_behind T) (hr.mono (by decide)) (a_cons (f_v 0) (a_cons (f_v 3) (a_cons (f_v 4) a_nil))))))) ab_nil)))))
      (ss_one (s_ret (f_call (d_bounded T) (hr.mono (by decide)) (a_cons (f_tup (a_cons (f_ix hu (b_v 0) (f_b f_int)) (a_cons (f_tuple T.n_tuple (ab_cons (b_v 2) ab_nil)) (a_cons (f_ix hu (b_v 0) (f_b f_int)) a_nil)))) a_nil))))))
theorem sc_letter_orders : FnScope N_letter_orders ["letters"] (defScope s_letter_orders) := ⟨rfl, rfl, rfl, by decide +kernel, rfl, by decide +kernel, by decide +kernel⟩
theorem d_letter_orders (T : Txt K mg) : DefD P w K mg base 1 "letter_orders" LY.F_letter_orders := by
  refine .of (N := N_letter_orders) (b := LY.b_letter_orders) T.t_letter_orders sc_letter_orders fun f cdv A outer s H E hr => ?_
  have hu64 := hr.units
  have hu := hu_of hr
  have hu65 : _ + 65 < cLine := room65 hr
  exact (ss_cons (s_set 1 (n_f (n_lst (a_cons (f_tup a_nil) a_nil))) sc_letter_orders.nd)
      (ss_cons (s_for PassesOwn.never rfl (i_rng1 T.n_range (a_cons (f_v 0) a_nil)) (g_name 2 sc_letter_orders.nd) (ss_cons (s_own 3 (n_lst a_nil) sc_letter_orders.nd)
      (ss_cons (s_for PassesOwn.never rfl (i_any (f_v 1)) (g_name 4 sc_letter_orders.nd) (ss_one (s_ext 3 (n_b (n_lcH [("index", 5)] rfl sc_letter_orders.nd (toH (i_rng1 T.n_range (a_cons (f_v 0) a_nil))) (show blkC N_letter_orders (defScope s_letter_orders) _ _ = true by decide +kernel) (fun _ _ _ _ _ => (gc_name 5 sc_letter_orders.nd)) (fun _ _ _ _ _ => (ts_one (t_cm (c_nin hu65) (b_v 5) (b_v 4) (by with_unfolding_all rfl)))) (fun _ _ _ _ _ => (f_add (b_v 4) (f_b (f_tup (a_cons (f_v 5) a_nil))))))))))
      (ss_one (s_frz 3 (s_set 1 (f_v 3) sc_letter_orders.nd))))))
      (ss_one (s_ret (f_v 1)))))
theorem sc_with_names : FnScope N_with_names ["machine", "order"] (defScope s_with_names) := ⟨rfl, rfl, rfl, by decide +kernel, rfl, by decide +kernel, by decide +kernel⟩
theorem d_with_names (T : Txt K mg) : DefD P w K mg base 8 "with_names" LY.F_with_names := by
  refine .of (N := N_with_names) (b := LY.b_with_names) T.t_with_names sc_with_names fun f cdv A outer s H E hr => ?_
  have hu64 := hr.units
  have hu := hu_of hr
  have hu65 : _ + 65 < cLine := room65 hr
  exact (ss_one (s_ret (f_call (d_renamed_letters T) (hr.mono (by decide)) (a_cons (f_v 0) (a_cons (n_f (n_lcH [("index", 2)] rfl sc_with_names.nd (toH (i_any (f_v 1))) (show blkC N_with_names (defScope s_with_names) _ _ = true by decide +kernel) (fun _ _ _ _ _ => (gc_name 2 sc_with_names.nd)) (fun _ _ _ _ _ => ts_nil) (fun _ _ _ _ _ => (f_ix hu (f_b (f_glS rfl T.c_LETTERS.choose_spec)) (b_v 2))))) a_nil)))))
theorem sc_letter_kin : FnScope N_letter_kin ["first", "second"] (defScope s_letter_kin) := ⟨rfl, rfl, rfl, by decide +kernel, rfl, by decide +kernel, by decide +kernel⟩
theorem d_letter_kin (T : Txt K mg) : DefD P w K mg base 9 "letter_kin" LY.F_letter_kin := by
  refine .of (N := N_letter_kin) (b := LY.b_letter_kin) T.t_letter_kin sc_letter_kin fun f cdv A outer s H E hr => ?_
  have hu64 := hr.units
  have hu := hu_of hr
  have hu65 : _ + 65 < cLine := room65 hr
  exact (ss_cons (s_for PassesOwn.never rfl (i_any (f_call (d_letter_orders T) (hr.mono (by decide)) (a_cons (f_ix hu (b_v 0) (f_b f_int)) a_nil))) (g_name 2 sc_letter_kin.nd) (ss_one (s_if (t_cm c_is (f_b (f_call (d_parting_word T) (hr.mono (by decide)) (a_cons (f_call (d_with_names T) (hr.mono (by decide)) (a_cons (f_v 0) (a_cons (f_v 2) a_nil))) (a_cons (f_v 1) a_nil)))) (f_b f_non) (nomark _)) (ss_one (s_ret (f_v 2))) ss_nil)))
      (ss_one (s_ret f_non)))
theorem sc_own_kin : FnScope N_own_kin ["machine"] (defScope s_own_kin) := ⟨rfl, rfl, rfl, by decide +kernel, rfl, by decide +kernel, by decide +kernel⟩
theorem d_own_kin (T : Txt K mg) : DefD P w K mg base 9 "own_kin" LY.F_own_kin := by
  refine .of (N := N_own_kin) (b := LY.b_own_kin) T.t_own_kin sc_own_kin fun f cdv A outer s H E hr => ?_
  have hu64 := hr.units
  have hu := hu_of hr
  have hu65 : _ + 65 < cLine := room65 hr
  exact (ss_cons (s_set 1 (f_call (d_letter_orders T) (hr.mono (by decide)) (a_cons (f_ix hu (b_v 0) (f_b f_int)) a_nil)) sc_own_kin.nd)
      (ss_one (s_ret (n_f (n_lcH [("order", 2)] rfl sc_own_kin.nd (toH (i_any (f_v 1))) (show blkC N_own_kin (defScope s_own_kin) _ _ = true by decide +kernel) (fun _ _ _ _ _ => (gc_name 2 sc_own_kin.nd)) (fun _ _ _ _ _ => (ts_one (t_cm c_is (f_b (f_call (d_parting_word T) (hr.mono (by decide)) (a_cons (f_call (d_with_names T) (hr.mono (by decide)) (a_cons (f_v 0) (a_cons (f_v 2) a_nil))) (a_cons (f_v 0) a_nil)))) (f_b f_non) (nomark _)))) (fun _ _ _ _ _ => (f_v 2)))))))
theorem sc_law_same : FnScope N_law_same ["told", "due"] (defScope s_law_same) := ⟨rfl, rfl, rfl, by decide +kernel, rfl, by decide +kernel, by decide +kernel⟩
theorem d_law_same (T : Txt K mg) : ∀ n, DefD P w K mg base (n + 0) "_law_same" (LC.F_law_same n)
  | 0 => .nil T.t_law_same
  | n + 1 => by
    have hrec : DefD P w K mg base (n + 0) "_law_same" (LC.F_law_same n) := d_law_same T n
    refine .of (N := N_law_same) (b := LC.b_law_same (LC.F_law_same n)) T.t_law_same sc_law_same fun f cdv A outer s H E hr => ?_
    have hu64 := hr.units
    have hu := hu_of hr
    have hu65 : _ + 65 < cLine := room65 hr
    exact (ss_cons (s_if (t_w (w_or (t_val (f_isi "bool" T.n_isinstance T.n_bool (b_v 1))) (w_or1 (t_val (f_isi "bool" T.n_isinstance T.n_bool (b_v 0)))))) (ss_one (s_ret (f_and (f_isi "bool" T.n_isinstance T.n_bool (b_v 1)) (f_and (f_isi "bool" T.n_isinstance T.n_bool (b_v 0)) (f_one (f_cm (c_eq hu64) (b_v 0) (b_v 1) (nomark _))))))) ss_nil)
      (ss_cons (s_if (t_w (w_or (t_cm c_is (b_v 1) (f_b f_non) (nomark _)) (w_or1 (t_val (f_isi "int" T.n_isinstance T.n_int (b_v 1)))))) (ss_one (s_ret (f_and (f_cm (c_eq hu64) (b_v 0) (b_v 1) (nomark _)) (f_one (f_or (f_cm c_is (b_v 1) (f_b f_non) (nomark _)) (f_one (f_isi "int" T.n_isinstance T.n_int (b_v 0)))))))) ss_nil)
      (ss_cons (s_if (t_val (f_isi "str" T.n_isinstance T.n_str (b_v 1))) (ss_one (s_ret (f_and (f_isi "str" T.n_isinstance T.n_str (b_v 0)) (f_one (f_cm (c_eq hu64) (b_v 0) (b_v 1) (nomark _)))))) ss_nil)
      (ss_cons (s_if (t_w (w_or (t_cm (c_ne hu64) (f_b (f_isi "list" T.n_isinstance T.n_list (b_v 1))) (f_b (f_isi "list" T.n_isinstance T.n_list (b_v 0))) (nomark _)) (w_or1 (t_cm (c_ne hu64) (f_b (f_isi "tuple" T.n_isinstance T.n_tuple (b_v 1))) (f_b (f_isi "tuple" T.n_isinstance T.n_tuple (b_v 0))) (nomark _))))) (ss_one (s_ret f_bl)) ss_nil)
      (ss_cons (s_if (t_cm (c_ne hu64) (f_b (f_len T.n_len (ab_cons (b_v 0) ab_nil))) (f_b (f_len T.n_len (ab_cons (b_v 1) ab_nil))) (nomark _)) (ss_one (s_ret f_bl)) ss_nil)
      (ss_cons (s_for PassesOwn.never rfl (i_rng1 T.n_range (a_cons (f_len T.n_len (ab_cons (b_v 1) ab_nil)) a_nil)) (g_name 2 sc_law_same.nd) (ss_one (s_if (t_not (t_val (f_call hrec (hr.mono (by omega)) (a_cons (f_ix hu (b_v 0) (b_v 2)) (a_cons (f_ix hu (b_v 1) (b_v 2)) a_nil))))) (ss_one (s_ret f_bl)) ss_nil)))
      (ss_one (s_ret f_bl))))))))
theorem sc_law_number : FnScope N_law_number ["script", "k"] (defScope s_law_number) := ⟨rfl, rfl, rfl, by decide +kernel, rfl, by decide +kernel, by decide +kernel⟩
theorem d_law_number (T : Txt K mg) : DefD P w K mg base 1 "_law_number" LC.F_law_number := by
  refine .of (N := N_law_number) (b := LC.b_law_number) T.t_law_number sc_law_number fun f cdv A outer s H E hr => ?_
  have hu64 := hr.units
  have hu := hu_of hr
  have hu65 : _ + 65 < cLine := room65 hr
  exact (ss_cons (s_set 2 (f_add (f_b (f_mul (f_b (f_sum rfl T.n_sum (ab_cons (b_v 0) ab_nil))) (f_b f_int))) (f_b (f_mul (f_b f_int) (f_b (f_add (b_v 1) (f_b f_int)))))) sc_law_number.nd)
      (ss_cons (s_if (t_cm c_lt (b_v 1) (f_b (f_len T.n_len (ab_cons (b_v 0) ab_nil))) (nomark _)) (ss_one (s_set 2 (f_ix hu (b_v 0) (b_v 1)) sc_law_number.nd)) ss_nil)
      (ss_one (s_ret (f_abs T.n_abs (ab_cons (b_v 2) ab_nil))))))
theorem sc_law_draws : FnScope N_law_draws ["script", "k", "count", "many"] (defScope s_law_draws) := ⟨rfl, rfl, rfl, by decide +kernel, rfl, by decide +kernel, by decide +kernel⟩
theorem d_law_draws (T : Txt K mg) : DefD P w K mg base 2 "_law_draws" LC.F_law_draws := by
  refine .of (N := N_law_draws) (b := LC.b_law_draws) T.t_law_draws sc_law_draws fun f cdv A outer s H E hr => ?_
  have hu64 := hr.units
  have hu := hu_of hr
  have hu65 : _ + 65 < cLine := room65 hr
  exact (ss_cons (s_set 4 (f_call (d_law_number T) (hr.mono (by decide)) (a_cons (f_v 0) (a_cons (f_v 1) a_nil))) sc_law_draws.nd)
      (ss_cons (s_own 5 (n_lst a_nil) sc_law_draws.nd)
      (ss_cons (s_if (t_cm c_ge (b_v 4) (f_b (f_pow (f_b f_int) (f_b f_int))) (nomark _)) (ss_cons (s_set 4 (f_sub (b_v 4) (f_b (f_pow (f_b f_int) (f_b f_int)))) sc_law_draws.nd)
      (ss_cons (s_for PassesOwn.never rfl (i_rng1 T.n_range (a_cons (f_v 2) a_nil)) (g_name 6 sc_law_draws.nd) (ss_cons (s_app 5 (f_mod (b_v 4) (b_v 3)))
      (ss_one (s_set 4 (f_fdiv (b_v 4) (b_v 3)) sc_law_draws.nd))))
      (ss_one (s_frz 5 (s_ret (f_v 5)))))) ss_nil)
      (ss_cons (s_set 7 (f_add (f_b (f_mod (b_v 4) (f_b f_int))) (f_b f_int)) sc_law_draws.nd)
      (ss_cons (s_for PassesOwn.never rfl (i_rng1 T.n_range (a_cons (f_v 2) a_nil)) (g_name 6 sc_law_draws.nd) (ss_cons (s_set 7 (f_mod (f_b (f_add (f_b (f_add (f_b (f_mul (b_v 7) (f_b f_int))) (f_b (f_mul (f_b f_int) (b_v 6))))) (f_b f_int))) (f_b f_int)) sc_law_draws.nd)
      (ss_cons (s_set 8 (f_mod (f_b (f_add (f_b (f_add (f_b (f_mul (b_v 7) (b_v 7))) (f_b (f_mul (f_b f_int) (b_v 6))))) (f_b f_int))) (f_b f_int)) sc_law_draws.nd)
      (ss_one (s_app 5 (f_mod (f_b (f_fdiv (b_v 8) (f_b f_int))) (b_v 3)))))))
      (ss_one (s_frz 5 (s_ret (f_v 5)))))))))
theorem sc_law_machine : FnScope N_law_machine ["script", "k", "letters", "n"] (defScope s_law_machine) := ⟨rfl, rfl, rfl, by decide +kernel, rfl, by decide +kernel, by decide +kernel⟩
theorem d_law_machine (T : Txt K mg) : DefD P w K mg base 3 "_law_machine" LM.F_law_machine := by
  refine .of (N := N_law_machine) (b := LM.b_law_machine) T.t_law_machine sc_law_machine fun f cdv A outer s H E hr => ?_
  have hu64 := hr.units
  have hu := hu_of hr
  have hu65 : _ + 65 < cLine := room65 hr
  exact (ss_cons (s_set 4 (f_call (d_law_draws T) (hr.mono (by decide)) (a_cons (f_v 0) (a_cons (f_v 1) (a_cons (f_add (f_b (f_mul (b_v 3) (b_v 2))) (b_v 3)) (a_cons (f_mul (b_v 3) (f_b f_int)) a_nil))))) sc_law_machine.nd)
      (ss_cons (s_own 5 (n_lst a_nil) sc_law_machine.nd)
      (ss_cons (s_for PassesOwn.never rfl (i_rng1 T.n_range (a_cons (f_v 3) a_nil)) (g_name 6 sc_law_machine.nd) (ss_one (s_app 5 (f_tuple T.n_tuple (ab_cons (n_b (n_lcH [("pick", 8)] rfl sc_law_machine.nd (toH (i_any (f_sl (b_v 4) (p_some (f_mul (b_v 6) (b_v 2))) (p_some (f_add (f_b (f_mul (b_v 6) (b_v 2))) (b_v 2)))))) (show blkC N_law_machine (defScope s_law_machine) _ _ = true by decide +kernel) (fun _ _ _ _ _ => (gc_name 8 sc_law_machine.nd)) (fun _ _ _ _ _ => ts_nil) (fun _ _ _ _ _ => (f_mod (b_v 8) (b_v 3))))) ab_nil)))))
      (ss_cons (s_thenF 7 (s_lcH 7 [("p", 6)] rfl sc_law_machine.nd (toH (i_rng1 T.n_range (a_cons (f_v 3) a_nil))) (show blkC N_law_machine (defScope s_law_machine) _ _ = true by decide +kernel) (fun _ _ _ _ _ => (gc_name 6 sc_law_machine.nd)) (fun _ _ _ _ _ => (ts_one (t_cm (c_eq hu64) (f_b (f_mod (f_b (f_ix hu (b_v 4) (f_b (f_add (f_b (f_mul (b_v 3) (b_v 2))) (b_v 6))))) (f_b f_int))) (f_b f_int) (nomark _)))) (fun _ _ _ _ _ => (f_v 6))))
      (ss_one (s_ret (f_tup (a_cons (f_v 2) (a_cons (f_tuple T.n_tuple (ab_cons (b_v 5) ab_nil)) (a_cons (f_tuple T.n_tuple (ab_cons (b_v 7) ab_nil)) a_nil))))))))))
theorem sc_law_parted : FnScope N_law_parted ["machine", "states"] (defScope s_law_parted) := ⟨rfl, rfl, rfl, by decide +kernel, rfl, by decide +kernel, by decide +kernel⟩
theorem d_law_parted (T : Txt K mg) : DefD P w K mg base 1 "_law_parted" LN.F_law_parted := by
  refine .of (N := N_law_parted) (b := LN.b_law_parted) T.t_law_parted sc_law_parted fun f cdv A outer s H E hr => ?_
  have hu64 := hr.units
  have hu := hu_of hr
  have hu65 : _ + 65 < cLine := room65 hr
  exact (ss_cons (s_own 2 n_dT sc_law_parted.nd)
      (ss_cons (s_set 3 (f_sub (f_b f_int) (f_b f_int)) sc_law_parted.nd)
      (ss_cons (s_while 1000000 PassesOwn.never (t_cm c_gt (f_b (f_lenT T.n_len (b_v 2))) (b_v 3) (nomark _)) (ss_cons (s_set 3 (f_lenT T.n_len (b_v 2)) sc_law_parted.nd)
      (ss_one (s_for PassesOwn.never rfl (i_any (f_v 1)) (g_name 4 sc_law_parted.nd) (ss_one (s_for PassesOwn.never rfl (i_any (f_v 1)) (g_name 5 sc_law_parted.nd) (ss_cons (s_set 6 (f_cm (c_ne hu64) (f_b (f_cm (c_in hu65) (b_v 4) (f_b (f_ix hu (b_v 0) (f_b f_int))) (by with_unfolding_all rfl))) (f_b (f_cm (c_in hu65) (b_v 5) (f_b (f_ix hu (b_v 0) (f_b f_int))) (by with_unfolding_all rfl))) (nomark _)) sc_law_parted.nd)
      (ss_cons (s_for PassesOwn.never rfl (i_rng1 T.n_range (a_cons (f_ix hu (b_v 0) (f_b f_int)) a_nil)) (g_name 7 sc_law_parted.nd) (ss_one (s_if (t_cm (c_in hu65) (f_b (f_tup (a_cons (f_ix hu (f_b (f_ix hu (f_b (f_ix hu (b_v 0) (f_b f_int))) (b_v 4))) (b_v 7)) (a_cons (f_ix hu (f_b (f_ix hu (f_b (f_ix hu (b_v 0) (f_b f_int))) (b_v 5))) (b_v 7)) a_nil)))) (b_v 2) (by with_unfolding_all rfl)) (ss_one (s_set 6 f_bl sc_law_parted.nd)) ss_nil)))
      (ss_one (s_if (t_val (f_v 6)) (ss_one (s_put 2 hu f_bl (f_tup (a_cons (f_v 4) (a_cons (f_v 5) a_nil))))) ss_nil))))))))))
      (ss_one (s_frz 2 (s_ret (f_v 2)))))))
theorem sc_law_least : FnScope N_law_least ["machine"] (defScope s_law_least) := ⟨rfl, rfl, rfl, by decide +kernel, rfl, by decide +kernel, by decide +kernel⟩
theorem d_law_least (T : Txt K mg) : DefD P w K mg base 2 "_law_least" LN.F_law_least := by
  refine .of (N := N_law_least) (b := LN.b_law_least) T.t_law_least sc_law_least fun f cdv A outer s H E hr => ?_
  have hu64 := hr.units
  have hu := hu_of hr
  have hu65 : _ + 65 < cLine := room65 hr
  exact (ss_cons (s_own 1 (n_lst (a_cons f_int a_nil)) sc_law_least.nd)
      (ss_cons (s_set 2 f_int sc_law_least.nd)
      (ss_cons (s_while 1000000 PassesOwn.never (t_cm c_lt (b_v 2) (f_b (f_len T.n_len (ab_cons (b_v 1) ab_nil))) (nomark _)) (ss_cons (s_for PassesOwn.never rfl (i_any (f_ix hu (f_b (f_ix hu (b_v 0) (f_b f_int))) (f_b (f_ix hu (b_v 1) (b_v 2))))) (g_name 3 sc_law_least.nd) (ss_one (s_if (t_cm (c_nin hu65) (b_v 3) (b_v 1) (by with_unfolding_all rfl)) (ss_one (s_app 1 (f_v 3))) ss_nil)))
      (ss_one (s_set 2 (f_add (b_v 2) (f_b f_int)) sc_law_least.nd))))
      (ss_cons (s_frz 1 (s_set 4 (f_call (d_law_parted T) (hr.mono (by decide)) (a_cons (f_v 0) (a_cons (f_v 1) a_nil))) sc_law_least.nd))
      (ss_cons (s_own 5 (n_lst a_nil) sc_law_least.nd)
      (ss_cons (s_frz 1 (s_for PassesOwn.never rfl (i_any (f_v 1)) (g_name 6 sc_law_least.nd) (ss_one (s_if (t_cm (c_eq hu64) (f_b (f_len T.n_len (ab_cons (n_b (n_lcH [("q", 3)] rfl sc_law_least.nd (i_anyB (b_v 5)) (show blkC N_law_least (defScope s_law_least) _ _ = true by decide +kernel) (fun _ _ _ _ _ => (gc_name 3 sc_law_least.nd)) (fun _ _ _ _ _ => (ts_one (t_cm (c_nin hu65) (f_b (f_tup (a_cons (f_v 6) (a_cons (f_v 3) a_nil)))) (b_v 4) (by with_unfolding_all rfl)))) (fun _ _ _ _ _ => (f_v 3)))) ab_nil))) (f_b f_int) (nomark _)) (ss_one (s_app 5 (f_v 6))) ss_nil))))
      (ss_cons (s_own 7 (n_lst (a_cons (f_ix hu (b_v 5) (f_b f_int)) a_nil)) sc_law_least.nd)
      (ss_cons (s_set 2 f_int sc_law_least.nd)
      (ss_cons (s_while 1000000 PassesOwn.never (t_cm c_lt (b_v 2) (f_b (f_len T.n_len (ab_cons (b_v 7) ab_nil))) (nomark _)) (ss_cons (s_for PassesOwn.never rfl (i_any (f_ix hu (f_b (f_ix hu (b_v 0) (f_b f_int))) (f_b (f_ix hu (b_v 7) (b_v 2))))) (g_name 8 sc_law_least.nd) (ss_cons (s_set 3 (f_ix hu (n_b (n_lcH [("r", 10)] rfl sc_law_least.nd (i_anyB (b_v 5)) (show blkC N_law_least (defScope s_law_least) _ _ = true by decide +kernel) (fun _ _ _ _ _ => (gc_name 10 sc_law_least.nd)) (fun _ _ _ _ _ => (ts_one (t_cm (c_nin hu65) (f_b (f_tup (a_cons (f_v 8) (a_cons (f_v 10) a_nil)))) (b_v 4) (by with_unfolding_all rfl)))) (fun _ _ _ _ _ => (f_v 10)))) (f_b f_int)) sc_law_least.nd)
      (ss_one (s_if (t_cm (c_nin hu65) (b_v 3) (b_v 7) (by with_unfolding_all rfl)) (ss_one (s_app 7 (f_v 3))) ss_nil))))
      (ss_one (s_set 2 (f_add (b_v 2) (f_b f_int)) sc_law_least.nd))))
      (ss_cons (s_own 9 (n_lst a_nil) sc_law_least.nd)
      (ss_cons (s_frz 7 (s_for PassesOwn.never rfl (i_any (f_v 7)) (g_name 6 sc_law_least.nd) (ss_one (s_app 9 (f_tuple T.n_tuple (ab_cons (n_b (n_lcH [("q", 3)] rfl sc_law_least.nd (toH (i_any (f_ix hu (f_b (f_ix hu (b_v 0) (f_b f_int))) (b_v 6)))) (show blkC N_law_least (defScope s_law_least) _ _ = true by decide +kernel) (fun _ _ _ _ _ => (gc_name 3 sc_law_least.nd)) (fun _ _ _ _ _ => ts_nil) (fun _ _ _ _ _ => (f_ix hu (n_b (n_lcH [("j", 11)] rfl sc_law_least.nd (toH (i_rng1 T.n_range (a_cons (f_len T.n_len (ab_cons (b_v 7) ab_nil)) a_nil))) (by kernel_rfl) (fun _ _ _ _ _ => (gc_name 11 sc_law_least.nd)) (fun _ _ _ _ _ => (ts_one (t_cm (c_nin hu65) (f_b (f_tup (a_cons (f_v 3) (a_cons (f_ix hu (b_v 7) (b_v 11)) a_nil)))) (b_v 4) (by with_unfolding_all rfl)))) (fun _ _ _ _ _ => (f_v 11)))) (f_b f_int))))) ab_nil))))))
      (ss_one (s_ret (f_tup (a_cons (f_ix hu (b_v 0) (f_b f_int)) (a_cons (f_tuple T.n_tuple (ab_cons (b_v 9) ab_nil)) (a_cons (f_tuple T.n_tuple (ab_cons (n_b (n_lcH [("j", 11)] rfl sc_law_least.nd (toH (i_rng1 T.n_range (a_cons (f_len T.n_len (ab_cons (b_v 7) ab_nil)) a_nil))) (show blkC N_law_least (defScope s_law_least) _ _ = true by decide +kernel) (fun _ _ _ _ _ => (gc_name 11 sc_law_least.nd)) (fun _ _ _ _ _ => (ts_one (t_cm (c_in hu65) (f_b (f_ix hu (b_v 7) (b_v 11))) (f_b (f_ix hu (b_v 0) (f_b f_int))) (by with_unfolding_all rfl)))) (fun _ _ _ _ _ => (f_v 11)))) ab_nil)) a_nil)))))))))))))))))
theorem sc_law_orders : FnScope N_law_orders ["letters"] (defScope s_law_orders) := ⟨rfl, rfl, rfl, by decide +kernel, rfl, by decide +kernel, by decide +kernel⟩
theorem d_law_orders (T : Txt K mg) : DefD P w K mg base 1 "_law_orders" LY.F_law_orders := by
  refine .of (N := N_law_orders) (b := LY.b_law_orders) T.t_law_orders sc_law_orders fun f cdv A outer s H E hr => ?_
  have hu64 := hr.units
  have hu := hu_of hr
  have hu65 : _ + 65 < cLine := room65 hr
  exact (ss_one (s_ret (f_ix hu (n_b (n_lst (a_cons (n_f (n_lst (a_cons (f_tup (a_cons f_int a_nil)) a_nil))) (a_cons (n_f (n_lst (a_cons (f_tup (a_cons f_int (a_cons f_int a_nil))) (a_cons (f_tup (a_cons f_int (a_cons f_int a_nil))) a_nil)))) (a_cons (n_f (n_lst (a_cons (f_tup (a_cons f_int (a_cons f_int (a_cons f_int a_nil)))) (a_cons (f_tup (a_cons f_int (a_cons f_int (a_cons f_int a_nil)))) (a_cons (f_tup (a_cons f_int (a_cons f_int (a_cons f_int a_nil)))) (a_cons (f_tup (a_cons f_int (a_cons f_int (a_cons f_int a_nil)))) (a_cons (f_tup (a_cons f_int (a_cons f_int (a_cons f_int a_nil)))) (a_cons (f_tup (a_cons f_int (a_cons f_int (a_cons f_int a_nil)))) a_nil)))))))) a_nil))))) (f_b (f_sub (b_v 0) (f_b f_int))))))
theorem sc_law_renamed : FnScope N_law_renamed ["machine", "order"] (defScope s_law_renamed) := ⟨rfl, rfl, rfl, by decide +kernel, rfl, by decide +kernel, by decide +kernel⟩
theorem d_law_renamed (T : Txt K mg) : DefD P w K mg base 1 "_law_renamed" LY.F_law_renamed := by
  refine .of (N := N_law_renamed) (b := LY.b_law_renamed) T.t_law_renamed sc_law_renamed fun f cdv A outer s H E hr => ?_
  have hu64 := hr.units
  have hu := hu_of hr
  have hu65 : _ + 65 < cLine := room65 hr
  exact (ss_one (s_ret (f_tup (a_cons (f_ix hu (b_v 0) (f_b f_int)) (a_cons (f_tuple T.n_tuple (ab_cons (n_b (n_lcH [("row", 2)] rfl sc_law_renamed.nd (toH (i_any (f_ix hu (b_v 0) (f_b f_int)))) (show blkC N_law_renamed (defScope s_law_renamed) _ _ = true by decide +kernel) (fun _ _ _ _ _ => (gc_name 2 sc_law_renamed.nd)) (fun _ _ _ _ _ => ts_nil) (fun _ _ _ _ _ => (f_tuple T.n_tuple (ab_cons (n_b (n_lcH [("i", 3)] rfl sc_law_renamed.nd (toH (i_rng1 T.n_range (a_cons (f_ix hu (b_v 0) (f_b f_int)) a_nil))) (by kernel_rfl) (fun _ _ _ _ _ => (gc_name 3 sc_law_renamed.nd)) (fun _ _ _ _ _ => ts_nil) (fun _ _ _ _ _ => (f_ix hu (b_v 2) (f_b (f_ix hu (b_v 1) (b_v 3))))))) ab_nil))))) ab_nil)) (a_cons (f_ix hu (b_v 0) (f_b f_int)) a_nil))))))
theorem sc_law : FnScope N_law ["script"] (defScope s_law) := ⟨rfl, rfl, rfl, by decide +kernel, rfl, by decide +kernel, by decide +kernel⟩
def L1_law : FS :=
    (sSeq (thenF 8 (sOwn 8 (eLc [10] (iAny (eV 4)) (gN 10) (toT (o2 eqD (eCall LN.F_law_least (lC (eCall LY.F_law_renamed (lC (eV 3) (lC (eV 10) lN))) lN)) (eCall LN.F_law_least (lC (eV 7) lN)))) (eV 10))))
    (sSeq (sAsg (eC .none) (gN 9))
    (sSeq (sIf (toT (o2 gtD (eCall lenF (lC (eW 8) lN)) (eC (.int 0)))) (sAsg (o2 ixD (eW 8) (eC (.int 0))) (gN 9)) sNx)
    (sIf (tNotF (toT (eCall (LC.F_law_same 4) (lC (eCall LY.F_letter_kin (lC (eV 3) (lC (eV 7) lN))) (lC (eV 9) lN))))) (sRet (eC (.bool false))) sNx))))
def b_law : FS :=
    (sSeq (sAsg (eCall LC.F_law_draws (lC (eV 0) (lC (eC (.int 0)) (lC (eC (.int 4)) (lC (eC (.int 720)) lN))))) (gN 1))
    (sSeq (sAsg (o2 addD (eC (.int 1)) (o2 modD (o2 ixD (eW 1) (eC (.int 0))) (eC (.int 3)))) (gN 2))
    (sSeq (sAsg (eCall LM.F_law_machine (lC (eV 0) (lC (eC (.int 1)) (lC (eV 2) (lC (o2 addD (eC (.int 1)) (o2 modD (o2 ixD (eW 1) (eC (.int 1))) (eC (.int 5)))) lN))))) (gN 3))
    (sSeq (sAsg (eCall LY.F_law_orders (lC (eV 2) lN)) (gN 4))
    (sSeq (sAsg (eCall LY.F_law_renamed (lC (eV 3) (lC (o2 ixD (eW 4) (o2 modD (o2 ixD (eW 1) (eC (.int 2))) (eCall lenF (lC (eW 4) lN)))) lN))) (gN 5))
    (sSeq (sAsg (eCall LM.F_law_machine (lC (eV 0) (lC (eC (.int 2)) (lC (eV 2) (lC (o2 addD (eC (.int 1)) (o2 modD (o2 ixD (eW 1) (eC (.int 3))) (eC (.int 3)))) lN))))) (gN 6))
    (sSeq (sFor (iAny (eLst (lC (eV 5) (lC (eCall LN.F_law_least (lC (eV 5) lN)) (lC (eV 6) (lC (eV 3) lN)))))) (gN 7) L1_law)
    (sSeq (thenF 8 (sOwn 8 (eLc [10] (iAny (eV 4)) (gN 10) (toT (o2 eqD (eCall LN.F_law_least (lC (eCall LY.F_law_renamed (lC (eV 3) (lC (eV 10) lN))) lN)) (eCall LN.F_law_least (lC (eV 3) lN)))) (eV 10))))
    (sRet (eAnd (eCall (LC.F_law_same 4) (lC (eCall LY.F_own_kin (lC (eV 3) lN)) (lC (eV 8) lN))) (o2 isnD (eCall LY.F_letter_kin (lC (eV 3) (lC (eV 5) lN))) (eC .none))))))))))))
def F_law : List D → Option D := callF 11 1 b_law
theorem ok_law {f : Addr} {fd : FuncData} (T : Txt K mg) (F : Fun K "law" "law" s_law f fd) : FnOk P w K mg base CX0 10 f fd ["script"] (spD ⟨P, w, K⟩ 1 F_law) := by
  refine F.okD (N := N_law) (b := b_law) sc_law fun cdv A outer s H E hr => ?_
  have hu64 := hr.units
  have hu := hu_of hr
  have hu65 : _ + 65 < cLine := room65 hr
  exact (ss_cons (s_set 1 (f_call (d_law_draws T) (hr.mono (by decide)) (a_cons (f_v 0) (a_cons f_int (a_cons f_int (a_cons f_int a_nil))))) sc_law.nd)
      (ss_cons (s_set 2 (f_add (f_b f_int) (f_b (f_mod (f_b (f_ix hu (b_v 1) (f_b f_int))) (f_b f_int)))) sc_law.nd)
      (ss_cons (s_set 3 (f_call (d_law_machine T) (hr.mono (by decide)) (a_cons (f_v 0) (a_cons f_int (a_cons (f_v 2) (a_cons (f_add (f_b f_int) (f_b (f_mod (f_b (f_ix hu (b_v 1) (f_b f_int))) (f_b f_int)))) a_nil))))) sc_law.nd)
      (ss_cons (s_set 4 (f_call (d_law_orders T) (hr.mono (by decide)) (a_cons (f_v 2) a_nil)) sc_law.nd)
      (ss_cons (s_set 5 (f_call (d_law_renamed T) (hr.mono (by decide)) (a_cons (f_v 3) (a_cons (f_ix hu (b_v 4) (f_b (f_mod (f_b (f_ix hu (b_v 1) (f_b f_int))) (f_b (f_len T.n_len (ab_cons (b_v 4) ab_nil)))))) a_nil))) sc_law.nd)
      (ss_cons (s_set 6 (f_call (d_law_machine T) (hr.mono (by decide)) (a_cons (f_v 0) (a_cons f_int (a_cons (f_v 2) (a_cons (f_add (f_b f_int) (f_b (f_mod (f_b (f_ix hu (b_v 1) (f_b f_int))) (f_b f_int)))) a_nil))))) sc_law.nd)
      (ss_cons (s_for PassesOwn.never rfl (i_any (n_f (n_lst (a_cons (f_v 5) (a_cons (f_call (d_law_least T) (hr.mono (by decide)) (a_cons (f_v 5) a_nil)) (a_cons (f_v 6) (a_cons (f_v 3) a_nil))))))) (g_name 7 sc_law.nd) (ss_cons (s_thenF 8 (s_lcH 8 [("order", 10)] rfl sc_law.nd (toH (i_any (f_v 4))) (show blkC N_law (defScope s_law) _ _ = true by decide +kernel) (fun _ _ _ _ _ => (gc_name 10 sc_law.nd)) (fun _ _ _ _ _ => (ts_one (t_cm (c_eq hu64) (f_b (f_call (d_law_least T) (hr.mono (by decide)) (a_cons (f_call (d_law_renamed T) (hr.mono (by decide)) (a_cons (f_v 3) (a_cons (f_v 10) a_nil))) a_nil))) (f_b (f_call (d_law_least T) (hr.mono (by decide)) (a_cons (f_v 7) a_nil))) (nomark _)))) (fun _ _ _ _ _ => (f_v 10))))
      (ss_cons (s_set 9 f_non sc_law.nd)
      (ss_cons (s_if (t_cm c_gt (f_b (f_len T.n_len (ab_cons (b_v 8) ab_nil))) (f_b f_int) (nomark _)) (ss_one (s_set 9 (f_ix hu (b_v 8) (f_b f_int)) sc_law.nd)) ss_nil)
      (ss_one (s_if (t_not (t_val (f_call (d_law_same T 4) (hr.mono (by decide)) (a_cons (f_call (d_letter_kin T) (hr.mono (by decide)) (a_cons (f_v 3) (a_cons (f_v 7) a_nil))) (a_cons (f_v 9) a_nil))))) (ss_one (s_ret f_bl)) ss_nil))))))
      (ss_cons (s_thenF 8 (s_lcH 8 [("order", 10)] rfl sc_law.nd (toH (i_any (f_v 4))) (show blkC N_law (defScope s_law) _ _ = true by decide +kernel) (fun _ _ _ _ _ => (gc_name 10 sc_law.nd)) (fun _ _ _ _ _ => (ts_one (t_cm (c_eq hu64) (f_b (f_call (d_law_least T) (hr.mono (by decide)) (a_cons (f_call (d_law_renamed T) (hr.mono (by decide)) (a_cons (f_v 3) (a_cons (f_v 10) a_nil))) a_nil))) (f_b (f_call (d_law_least T) (hr.mono (by decide)) (a_cons (f_v 3) a_nil))) (nomark _)))) (fun _ _ _ _ _ => (f_v 10))))
      (ss_one (s_ret (f_and (f_call (d_law_same T 4) (hr.mono (by decide)) (a_cons (f_call (d_own_kin T) (hr.mono (by decide)) (a_cons (f_v 3) a_nil)) (a_cons (f_v 8) a_nil))) (f_one (f_cm c_isn (f_b (f_call (d_letter_kin T) (hr.mono (by decide)) (a_cons (f_v 3) (a_cons (f_v 5) a_nil)))) (f_b f_non) (nomark _))))))))))))))
end
/-- what the top has written -/
theorem all_mk {l : PySem.W.OpenLaw} {w : World} {K : PySem.W.Frag} {h : Heap} {mg : Str → Option Value} {fa : Addr} (hT : ∀ ns : List Int, ns.length ≤ 63 → F_law [scrD ns] = some (.bool true)) (X : K.In h) (G : h.Ns mainGlobals mg) (hfa : mg "law" = some (.ref fa))
    {od0 an0 : Option Addr} {sl0 : Array (Option Value)} {oc0 kV0 dc0 pm0 cd0 ct0 : Value} {f0 : Addr}
    {od1 an1 : Option Addr} {sl1 : Array (Option Value)} {oc1 kV1 dc1 pm1 cd1 ct1 : Value} {f1 : Addr}
    {od2 an2 : Option Addr} {sl2 : Array (Option Value)} {oc2 kV2 dc2 pm2 cd2 ct2 : Value} {f2 : Addr}
    {od3 an3 : Option Addr} {sl3 : Array (Option Value)} {oc3 kV3 dc3 pm3 cd3 ct3 : Value} {f3 : Addr}
    {od4 an4 : Option Addr} {sl4 : Array (Option Value)} {oc4 kV4 dc4 pm4 cd4 ct4 : Value} {f4 : Addr}
    {od5 an5 : Option Addr} {sl5 : Array (Option Value)} {oc5 kV5 dc5 pm5 cd5 ct5 : Value} {f5 : Addr}
    {od6 an6 : Option Addr} {sl6 : Array (Option Value)} {oc6 kV6 dc6 pm6 cd6 ct6 : Value} {f6 : Addr}
    {od7 an7 : Option Addr} {sl7 : Array (Option Value)} {oc7 kV7 dc7 pm7 cd7 ct7 : Value} {f7 : Addr}
    {od8 an8 : Option Addr} {sl8 : Array (Option Value)} {oc8 kV8 dc8 pm8 cd8 ct8 : Value} {f8 : Addr}
    {od9 an9 : Option Addr} {sl9 : Array (Option Value)} {oc9 kV9 dc9 pm9 cd9 ct9 : Value} {f9 : Addr}
    {od10 an10 : Option Addr} {sl10 : Array (Option Value)} {oc10 kV10 dc10 pm10 cd10 ct10 : Value} {f10 : Addr}
    {od11 an11 : Option Addr} {sl11 : Array (Option Value)} {oc11 kV11 dc11 pm11 cd11 ct11 : Value} {f11 : Addr}
    {od12 an12 : Option Addr} {sl12 : Array (Option Value)} {oc12 kV12 dc12 pm12 cd12 ct12 : Value} {f12 : Addr}
    {od13 an13 : Option Addr} {sl13 : Array (Option Value)} {oc13 kV13 dc13 pm13 cd13 ct13 : Value} {f13 : Addr}
    {od14 an14 : Option Addr} {sl14 : Array (Option Value)} {oc14 kV14 dc14 pm14 cd14 ct14 : Value} {f14 : Addr}
    {od15 an15 : Option Addr} {sl15 : Array (Option Value)} {oc15 kV15 dc15 pm15 cd15 ct15 : Value} {f15 : Addr}
    {od16 an16 : Option Addr} {sl16 : Array (Option Value)} {oc16 kV16 dc16 pm16 cd16 ct16 : Value} {f16 : Addr}
    {od17 an17 : Option Addr} {sl17 : Array (Option Value)} {oc17 kV17 dc17 pm17 cd17 ct17 : Value} {f17 : Addr}
    {od18 an18 : Option Addr} {sl18 : Array (Option Value)} {oc18 kV18 dc18 pm18 cd18 ct18 : Value} {f18 : Addr}
    {od19 an19 : Option Addr} {sl19 : Array (Option Value)} {oc19 kV19 dc19 pm19 cd19 ct19 : Value} {f19 : Addr}
    {od20 an20 : Option Addr} {sl20 : Array (Option Value)} {oc20 kV20 dc20 pm20 cd20 ct20 : Value} {f20 : Addr}
    {od21 an21 : Option Addr} {sl21 : Array (Option Value)} {oc21 kV21 dc21 pm21 cd21 ct21 : Value} {f21 : Addr}
    {od22 an22 : Option Addr} {sl22 : Array (Option Value)} {oc22 kV22 dc22 pm22 cd22 ct22 : Value} {f22 : Addr}
    {od23 an23 : Option Addr} {sl23 : Array (Option Value)} {oc23 kV23 dc23 pm23 cd23 ct23 : Value} {f23 : Addr}
    {od24 an24 : Option Addr} {sl24 : Array (Option Value)} {oc24 kV24 dc24 pm24 cd24 ct24 : Value} {f24 : Addr}
    {od25 an25 : Option Addr} {sl25 : Array (Option Value)} {oc25 kV25 dc25 pm25 cd25 ct25 : Value} {f25 : Addr}
    {od26 an26 : Option Addr} {sl26 : Array (Option Value)} {oc26 kV26 dc26 pm26 cd26 ct26 : Value} {f26 : Addr}
    {od27 an27 : Option Addr} {sl27 : Array (Option Value)} {oc27 kV27 dc27 pm27 cd27 ct27 : Value} {f27 : Addr}
    {od28 an28 : Option Addr} {sl28 : Array (Option Value)} {oc28 kV28 dc28 pm28 cd28 ct28 : Value} {f28 : Addr}
    {tk_LETTERS : Tok}
    {tk_MAX_STATES : Tok}
    (a0 : PySem.W.nsIn K mainGlobals "letter_index" = some (some (.ref f0))) (l0 : K.lookup f0 = some ⟨oc0, od0, .func (PySem.W.fnOf "letter_index" "letter_index" (defArgs s_letter_index) (defBody s_letter_index) (defScope s_letter_index) .none kV0 dc0 pm0 an0 cd0 ct0), sl0⟩) (c0 : PySem.W.codeIn K cd0 "letter_index" = true) (k0 : PySem.W.keepIn K (.ref f0) = true)
    (a1 : PySem.W.nsIn K mainGlobals "state_behind" = some (some (.ref f1))) (l1 : K.lookup f1 = some ⟨oc1, od1, .func (PySem.W.fnOf "state_behind" "state_behind" (defArgs s_state_behind) (defBody s_state_behind) (defScope s_state_behind) .none kV1 dc1 pm1 an1 cd1 ct1), sl1⟩) (c1 : PySem.W.codeIn K cd1 "state_behind" = true) (k1 : PySem.W.keepIn K (.ref f1) = true)
    (a2 : PySem.W.nsIn K mainGlobals "is_final" = some (some (.ref f2))) (l2 : K.lookup f2 = some ⟨oc2, od2, .func (PySem.W.fnOf "is_final" "is_final" (defArgs s_is_final) (defBody s_is_final) (defScope s_is_final) .none kV2 dc2 pm2 an2 cd2 ct2), sl2⟩) (c2 : PySem.W.codeIn K cd2 "is_final" = true) (k2 : PySem.W.keepIn K (.ref f2) = true)
    (a3 : PySem.W.nsIn K mainGlobals "access_from" = some (some (.ref f3))) (l3 : K.lookup f3 = some ⟨oc3, od3, .func (PySem.W.fnOf "access_from" "access_from" (defArgs s_access_from) (defBody s_access_from) (defScope s_access_from) .none kV3 dc3 pm3 an3 cd3 ct3), sl3⟩) (c3 : PySem.W.codeIn K cd3 "access_from" = true) (k3 : PySem.W.keepIn K (.ref f3) = true)
    (a4 : PySem.W.nsIn K mainGlobals "access_words" = some (some (.ref f4))) (l4 : K.lookup f4 = some ⟨oc4, od4, .func (PySem.W.fnOf "access_words" "access_words" (defArgs s_access_words) (defBody s_access_words) (defScope s_access_words) .none kV4 dc4 pm4 an4 cd4 ct4), sl4⟩) (c4 : PySem.W.codeIn K cd4 "access_words" = true) (k4 : PySem.W.keepIn K (.ref f4) = true)
    (a5 : PySem.W.nsIn K mainGlobals "reachable" = some (some (.ref f5))) (l5 : K.lookup f5 = some ⟨oc5, od5, .func (PySem.W.fnOf "reachable" "reachable" (defArgs s_reachable) (defBody s_reachable) (defScope s_reachable) .none kV5 dc5 pm5 an5 cd5 ct5), sl5⟩) (c5 : PySem.W.codeIn K cd5 "reachable" = true) (k5 : PySem.W.keepIn K (.ref f5) = true)
    (a6 : PySem.W.nsIn K mainGlobals "first_parts" = some (some (.ref f6))) (l6 : K.lookup f6 = some ⟨oc6, od6, .func (PySem.W.fnOf "first_parts" "first_parts" (defArgs s_first_parts) (defBody s_first_parts) (defScope s_first_parts) .none kV6 dc6 pm6 an6 cd6 ct6), sl6⟩) (c6 : PySem.W.codeIn K cd6 "first_parts" = true) (k6 : PySem.W.keepIn K (.ref f6) = true)
    (a7 : PySem.W.nsIn K mainGlobals "finer_parts" = some (some (.ref f7))) (l7 : K.lookup f7 = some ⟨oc7, od7, .func (PySem.W.fnOf "finer_parts" "finer_parts" (defArgs s_finer_parts) (defBody s_finer_parts) (defScope s_finer_parts) .none kV7 dc7 pm7 an7 cd7 ct7), sl7⟩) (c7 : PySem.W.codeIn K cd7 "finer_parts" = true) (k7 : PySem.W.keepIn K (.ref f7) = true)
    (a8 : PySem.W.nsIn K mainGlobals "part_count" = some (some (.ref f8))) (l8 : K.lookup f8 = some ⟨oc8, od8, .func (PySem.W.fnOf "part_count" "part_count" (defArgs s_part_count) (defBody s_part_count) (defScope s_part_count) .none kV8 dc8 pm8 an8 cd8 ct8), sl8⟩) (c8 : PySem.W.codeIn K cd8 "part_count" = true) (k8 : PySem.W.keepIn K (.ref f8) = true)
    (a9 : PySem.W.nsIn K mainGlobals "same_parts" = some (some (.ref f9))) (l9 : K.lookup f9 = some ⟨oc9, od9, .func (PySem.W.fnOf "same_parts" "same_parts" (defArgs s_same_parts) (defBody s_same_parts) (defScope s_same_parts) .none kV9 dc9 pm9 an9 cd9 ct9), sl9⟩) (c9 : PySem.W.codeIn K cd9 "same_parts" = true) (k9 : PySem.W.keepIn K (.ref f9) = true)
    (a10 : PySem.W.nsIn K mainGlobals "numbered_states" = some (some (.ref f10))) (l10 : K.lookup f10 = some ⟨oc10, od10, .func (PySem.W.fnOf "numbered_states" "numbered_states" (defArgs s_numbered_states) (defBody s_numbered_states) (defScope s_numbered_states) .none kV10 dc10 pm10 an10 cd10 ct10), sl10⟩) (c10 : PySem.W.codeIn K cd10 "numbered_states" = true) (k10 : PySem.W.keepIn K (.ref f10) = true)
    (a11 : PySem.W.nsIn K mainGlobals "least" = some (some (.ref f11))) (l11 : K.lookup f11 = some ⟨oc11, od11, .func (PySem.W.fnOf "least" "least" (defArgs s_least) (defBody s_least) (defScope s_least) .none kV11 dc11 pm11 an11 cd11 ct11), sl11⟩) (c11 : PySem.W.codeIn K cd11 "least" = true) (k11 : PySem.W.keepIn K (.ref f11) = true)
    (a12 : PySem.W.nsIn K mainGlobals "parting_from" = some (some (.ref f12))) (l12 : K.lookup f12 = some ⟨oc12, od12, .func (PySem.W.fnOf "parting_from" "parting_from" (defArgs s_parting_from) (defBody s_parting_from) (defScope s_parting_from) .none kV12 dc12 pm12 an12 cd12 ct12), sl12⟩) (c12 : PySem.W.codeIn K cd12 "parting_from" = true) (k12 : PySem.W.keepIn K (.ref f12) = true)
    (a13 : PySem.W.nsIn K mainGlobals "parting_word" = some (some (.ref f13))) (l13 : K.lookup f13 = some ⟨oc13, od13, .func (PySem.W.fnOf "parting_word" "parting_word" (defArgs s_parting_word) (defBody s_parting_word) (defScope s_parting_word) .none kV13 dc13 pm13 an13 cd13 ct13), sl13⟩) (c13 : PySem.W.codeIn K cd13 "parting_word" = true) (k13 : PySem.W.keepIn K (.ref f13) = true)
    (a14 : PySem.W.nsIn K mainGlobals "bounded" = some (some (.ref f14))) (l14 : K.lookup f14 = some ⟨oc14, od14, .func (PySem.W.fnOf "bounded" "bounded" (defArgs s_bounded) (defBody s_bounded) (defScope s_bounded) .none kV14 dc14 pm14 an14 cd14 ct14), sl14⟩) (c14 : PySem.W.codeIn K cd14 "bounded" = true) (k14 : PySem.W.keepIn K (.ref f14) = true)
    (a15 : PySem.W.nsIn K mainGlobals "renamed_letters" = some (some (.ref f15))) (l15 : K.lookup f15 = some ⟨oc15, od15, .func (PySem.W.fnOf "renamed_letters" "renamed_letters" (defArgs s_renamed_letters) (defBody s_renamed_letters) (defScope s_renamed_letters) .none kV15 dc15 pm15 an15 cd15 ct15), sl15⟩) (c15 : PySem.W.codeIn K cd15 "renamed_letters" = true) (k15 : PySem.W.keepIn K (.ref f15) = true)
    (a16 : PySem.W.nsIn K mainGlobals "letter_orders" = some (some (.ref f16))) (l16 : K.lookup f16 = some ⟨oc16, od16, .func (PySem.W.fnOf "letter_orders" "letter_orders" (defArgs s_letter_orders) (defBody s_letter_orders) (defScope s_letter_orders) .none kV16 dc16 pm16 an16 cd16 ct16), sl16⟩) (c16 : PySem.W.codeIn K cd16 "letter_orders" = true) (k16 : PySem.W.keepIn K (.ref f16) = true)
    (a17 : PySem.W.nsIn K mainGlobals "with_names" = some (some (.ref f17))) (l17 : K.lookup f17 = some ⟨oc17, od17, .func (PySem.W.fnOf "with_names" "with_names" (defArgs s_with_names) (defBody s_with_names) (defScope s_with_names) .none kV17 dc17 pm17 an17 cd17 ct17), sl17⟩) (c17 : PySem.W.codeIn K cd17 "with_names" = true) (k17 : PySem.W.keepIn K (.ref f17) = true)
    (a18 : PySem.W.nsIn K mainGlobals "letter_kin" = some (some (.ref f18))) (l18 : K.lookup f18 = some ⟨oc18, od18, .func (PySem.W.fnOf "letter_kin" "letter_kin" (defArgs s_letter_kin) (defBody s_letter_kin) (defScope s_letter_kin) .none kV18 dc18 pm18 an18 cd18 ct18), sl18⟩) (c18 : PySem.W.codeIn K cd18 "letter_kin" = true) (k18 : PySem.W.keepIn K (.ref f18) = true)
    (a19 : PySem.W.nsIn K mainGlobals "own_kin" = some (some (.ref f19))) (l19 : K.lookup f19 = some ⟨oc19, od19, .func (PySem.W.fnOf "own_kin" "own_kin" (defArgs s_own_kin) (defBody s_own_kin) (defScope s_own_kin) .none kV19 dc19 pm19 an19 cd19 ct19), sl19⟩) (c19 : PySem.W.codeIn K cd19 "own_kin" = true) (k19 : PySem.W.keepIn K (.ref f19) = true)
    (a20 : PySem.W.nsIn K mainGlobals "_law_same" = some (some (.ref f20))) (l20 : K.lookup f20 = some ⟨oc20, od20, .func (PySem.W.fnOf "_law_same" "_law_same" (defArgs s_law_same) (defBody s_law_same) (defScope s_law_same) .none kV20 dc20 pm20 an20 cd20 ct20), sl20⟩) (c20 : PySem.W.codeIn K cd20 "_law_same" = true) (k20 : PySem.W.keepIn K (.ref f20) = true)
    (a21 : PySem.W.nsIn K mainGlobals "_law_number" = some (some (.ref f21))) (l21 : K.lookup f21 = some ⟨oc21, od21, .func (PySem.W.fnOf "_law_number" "_law_number" (defArgs s_law_number) (defBody s_law_number) (defScope s_law_number) .none kV21 dc21 pm21 an21 cd21 ct21), sl21⟩) (c21 : PySem.W.codeIn K cd21 "_law_number" = true) (k21 : PySem.W.keepIn K (.ref f21) = true)
    (a22 : PySem.W.nsIn K mainGlobals "_law_draws" = some (some (.ref f22))) (l22 : K.lookup f22 = some ⟨oc22, od22, .func (PySem.W.fnOf "_law_draws" "_law_draws" (defArgs s_law_draws) (defBody s_law_draws) (defScope s_law_draws) .none kV22 dc22 pm22 an22 cd22 ct22), sl22⟩) (c22 : PySem.W.codeIn K cd22 "_law_draws" = true) (k22 : PySem.W.keepIn K (.ref f22) = true)
    (a23 : PySem.W.nsIn K mainGlobals "_law_machine" = some (some (.ref f23))) (l23 : K.lookup f23 = some ⟨oc23, od23, .func (PySem.W.fnOf "_law_machine" "_law_machine" (defArgs s_law_machine) (defBody s_law_machine) (defScope s_law_machine) .none kV23 dc23 pm23 an23 cd23 ct23), sl23⟩) (c23 : PySem.W.codeIn K cd23 "_law_machine" = true) (k23 : PySem.W.keepIn K (.ref f23) = true)
    (a24 : PySem.W.nsIn K mainGlobals "_law_least" = some (some (.ref f24))) (l24 : K.lookup f24 = some ⟨oc24, od24, .func (PySem.W.fnOf "_law_least" "_law_least" (defArgs s_law_least) (defBody s_law_least) (defScope s_law_least) .none kV24 dc24 pm24 an24 cd24 ct24), sl24⟩) (c24 : PySem.W.codeIn K cd24 "_law_least" = true) (k24 : PySem.W.keepIn K (.ref f24) = true)
    (a25 : PySem.W.nsIn K mainGlobals "_law_parted" = some (some (.ref f25))) (l25 : K.lookup f25 = some ⟨oc25, od25, .func (PySem.W.fnOf "_law_parted" "_law_parted" (defArgs s_law_parted) (defBody s_law_parted) (defScope s_law_parted) .none kV25 dc25 pm25 an25 cd25 ct25), sl25⟩) (c25 : PySem.W.codeIn K cd25 "_law_parted" = true) (k25 : PySem.W.keepIn K (.ref f25) = true)
    (a26 : PySem.W.nsIn K mainGlobals "_law_orders" = some (some (.ref f26))) (l26 : K.lookup f26 = some ⟨oc26, od26, .func (PySem.W.fnOf "_law_orders" "_law_orders" (defArgs s_law_orders) (defBody s_law_orders) (defScope s_law_orders) .none kV26 dc26 pm26 an26 cd26 ct26), sl26⟩) (c26 : PySem.W.codeIn K cd26 "_law_orders" = true) (k26 : PySem.W.keepIn K (.ref f26) = true)
    (a27 : PySem.W.nsIn K mainGlobals "_law_renamed" = some (some (.ref f27))) (l27 : K.lookup f27 = some ⟨oc27, od27, .func (PySem.W.fnOf "_law_renamed" "_law_renamed" (defArgs s_law_renamed) (defBody s_law_renamed) (defScope s_law_renamed) .none kV27 dc27 pm27 an27 cd27 ct27), sl27⟩) (c27 : PySem.W.codeIn K cd27 "_law_renamed" = true) (k27 : PySem.W.keepIn K (.ref f27) = true)
    (a28 : PySem.W.nsIn K mainGlobals "law" = some (some (.ref f28))) (l28 : K.lookup f28 = some ⟨oc28, od28, .func (PySem.W.fnOf "law" "law" (defArgs s_law) (defBody s_law) (defScope s_law) .none kV28 dc28 pm28 an28 cd28 ct28), sl28⟩) (c28 : PySem.W.codeIn K cd28 "law" = true) (k28 : PySem.W.keepIn K (.ref f28) = true)
    (z_abs : PySem.W.nsIn K mainGlobals "abs" = some none)
    (z_bool : PySem.W.nsIn K mainGlobals "bool" = some none)
    (z_int : PySem.W.nsIn K mainGlobals "int" = some none)
    (z_isinstance : PySem.W.nsIn K mainGlobals "isinstance" = some none)
    (z_len : PySem.W.nsIn K mainGlobals "len" = some none)
    (z_list : PySem.W.nsIn K mainGlobals "list" = some none)
    (z_range : PySem.W.nsIn K mainGlobals "range" = some none)
    (z_set : PySem.W.nsIn K mainGlobals "set" = some none)
    (z_str : PySem.W.nsIn K mainGlobals "str" = some none)
    (z_sum : PySem.W.nsIn K mainGlobals "sum" = some none)
    (z_tuple : PySem.W.nsIn K mainGlobals "tuple" = some none)
    (y_LETTERS : PySem.W.nsIn K mainGlobals "LETTERS" = some (some (.str "abc" tk_LETTERS)))
    (y_MAX_STATES : PySem.W.nsIn K mainGlobals "MAX_STATES" = some (some (.int 40 tk_MAX_STATES)))
    : ∃ fd : FuncData, (∀ (s : Shared) (v : Value), BindsTo s fd ⟨[v], []⟩ [("script", v)]) ∧ ∀ base : Heap, K.In base → base.Ns mainGlobals mg → FnOk l.prog w K mg base CX0 10 fa fd ["script"] (spLaw K) := by
  have e := hfa.symm.trans (PySem.W.mg_of X G a28)
  cases e
  have T : Txt K mg := ⟨.mk' X G a0 l0 c0 k0 (fun _ _ _ _ _ _ us hl => match us, hl with | [_], _ => rfl),
    .mk' X G a1 l1 c1 k1 (fun _ _ _ _ _ _ us hl => match us, hl with | [_, _, _], _ => rfl),
    .mk' X G a2 l2 c2 k2 (fun _ _ _ _ _ _ us hl => match us, hl with | [_, _], _ => rfl),
    .mk' X G a3 l3 c3 k3 (fun _ _ _ _ _ _ us hl => match us, hl with | [_, _], _ => rfl),
    .mk' X G a4 l4 c4 k4 (fun _ _ _ _ _ _ us hl => match us, hl with | [_], _ => rfl),
    .mk' X G a5 l5 c5 k5 (fun _ _ _ _ _ _ us hl => match us, hl with | [_], _ => rfl),
    .mk' X G a6 l6 c6 k6 (fun _ _ _ _ _ _ us hl => match us, hl with | [_, _], _ => rfl),
    .mk' X G a7 l7 c7 k7 (fun _ _ _ _ _ _ us hl => match us, hl with | [_, _], _ => rfl),
    .mk' X G a8 l8 c8 k8 (fun _ _ _ _ _ _ us hl => match us, hl with | [_], _ => rfl),
    .mk' X G a9 l9 c9 k9 (fun _ _ _ _ _ _ us hl => match us, hl with | [_], _ => rfl),
    .mk' X G a10 l10 c10 k10 (fun _ _ _ _ _ _ us hl => match us, hl with | [_, _], _ => rfl),
    .mk' X G a11 l11 c11 k11 (fun _ _ _ _ _ _ us hl => match us, hl with | [_], _ => rfl),
    .mk' X G a12 l12 c12 k12 (fun _ _ _ _ _ _ us hl => match us, hl with | [_, _, _, _], _ => rfl),
    .mk' X G a13 l13 c13 k13 (fun _ _ _ _ _ _ us hl => match us, hl with | [_, _], _ => rfl),
    .mk' X G a14 l14 c14 k14 (fun _ _ _ _ _ _ us hl => match us, hl with | [_], _ => rfl),
    .mk' X G a15 l15 c15 k15 (fun _ _ _ _ _ _ us hl => match us, hl with | [_, _], _ => rfl),
    .mk' X G a16 l16 c16 k16 (fun _ _ _ _ _ _ us hl => match us, hl with | [_], _ => rfl),
    .mk' X G a17 l17 c17 k17 (fun _ _ _ _ _ _ us hl => match us, hl with | [_, _], _ => rfl),
    .mk' X G a18 l18 c18 k18 (fun _ _ _ _ _ _ us hl => match us, hl with | [_, _], _ => rfl),
    .mk' X G a19 l19 c19 k19 (fun _ _ _ _ _ _ us hl => match us, hl with | [_], _ => rfl),
    .mk' X G a20 l20 c20 k20 (fun _ _ _ _ _ _ us hl => match us, hl with | [_, _], _ => rfl),
    .mk' X G a21 l21 c21 k21 (fun _ _ _ _ _ _ us hl => match us, hl with | [_, _], _ => rfl),
    .mk' X G a22 l22 c22 k22 (fun _ _ _ _ _ _ us hl => match us, hl with | [_, _, _, _], _ => rfl),
    .mk' X G a23 l23 c23 k23 (fun _ _ _ _ _ _ us hl => match us, hl with | [_, _, _, _], _ => rfl),
    .mk' X G a24 l24 c24 k24 (fun _ _ _ _ _ _ us hl => match us, hl with | [_], _ => rfl),
    .mk' X G a25 l25 c25 k25 (fun _ _ _ _ _ _ us hl => match us, hl with | [_, _], _ => rfl),
    .mk' X G a26 l26 c26 k26 (fun _ _ _ _ _ _ us hl => match us, hl with | [_], _ => rfl),
    .mk' X G a27 l27 c27 k27 (fun _ _ _ _ _ _ us hl => match us, hl with | [_, _], _ => rfl),
    .mk' X G a28 l28 c28 k28 (fun _ _ _ _ _ _ us hl => match us, hl with | [_], _ => rfl),
    PySem.W.mg_none_of X G z_abs,
    PySem.W.mg_none_of X G z_bool,
    PySem.W.mg_none_of X G z_int,
    PySem.W.mg_none_of X G z_isinstance,
    PySem.W.mg_none_of X G z_len,
    PySem.W.mg_none_of X G z_list,
    PySem.W.mg_none_of X G z_range,
    PySem.W.mg_none_of X G z_set,
    PySem.W.mg_none_of X G z_str,
    PySem.W.mg_none_of X G z_sum,
    PySem.W.mg_none_of X G z_tuple,
    ⟨_, PySem.W.mg_of X G y_LETTERS⟩,
    ⟨_, PySem.W.mg_of X G y_MAX_STATES⟩⟩
  exact ⟨_, fun s v => .of_eq rfl, fun base _ _ => law_imp (ok_law T (fun_mk (st := s_law) l28 c28 k28)) hT⟩
theorem walk {l : PySem.W.OpenLaw} {q : Program} {loose : List Str} {XP : (Str → Option Value) → Heap → Prop} {YP : World → Heap → Prop} {d : DefRec} {K : Params → PySem.W.Frag} (hn : l.most = some 63) (hdf : d.params.defaults = [])
    (hY : ∀ (w : World) (h : Heap), YP w h → (K w.params).In h)
    (F : ∀ (w : World) (mg : Str → Option Value) (fa : Addr) (h : Heap), (K w.params).In h → h.Ns mainGlobals mg → mg d.name = some (.ref fa) →
      ∃ fd : FuncData, (∀ (s : Shared) (u : Value), BindsTo s fd ⟨[u], []⟩ [("script", u)]) ∧ ∀ base : Heap, (K w.params).In base → base.Ns mainGlobals mg → FnOk l.prog w (K w.params) mg base CX0 10 fa fd ["script"] (spLaw (K w.params))) :
    PySem.W.WalkO q loose XP YP l.row.toRowW d [] (fun f vs => PySem.call f vs) :=
  L2.walk_of (n := 63) (k := 10) (x := "script") (CX := fun _ => CX0) (sp := fun w => spLaw (K w.params)) hn (by decide) hdf ⟨rfl, by decide, by decide⟩ hY F (fun _ _ a ns hl _ hS => ⟨a, ns, rfl, hS, hl, fun _ => rfl⟩) fun _ _ _ _ _ z => z
end G85
end

set_option Elab.async false
set_option linter.all false
set_option maxRecDepth 100000
set_option maxHeartbeats 4000000
/-! H85: the law. -/
namespace G85
open PySem L2 DV LC MM LM MN LN LY
theorem plain_dO (k : Nat) {L : Nat} {o : List Nat} (h : Ord L o) (hL : L ≤ 3) : plain (k + 2) (dO o) := plain_tuple.mpr ⟨by rw [List.length_map, h.len]; omega, fun x hx => by
  obtain ⟨n, _, rfl⟩ := List.mem_map.mp hx
  trivial⟩
theorem find_filter {α : Type} (p : α → Bool) : ∀ l : List α, l.find? p = (l.filter p).head?
  | [] => rfl
  | x :: l => by
    rw [List.find?_cons, List.filter_cons]
    cases p x with
    | true => rfl
    | false => exact find_filter p l
theorem modN' {a b : Nat} (h : 0 < b) : modD (dN a) (dN b) = some (dN (a % b)) := by
  rw [mod_ii (by omega)]
  rfl
section
variable {ns : List Int} {sh : List Nat} {m r d b : Mc}
theorem turn_eq (ok : m.Ok) (okb : b.Ok) (hL : m.L = b.L) (hm : m.n ≤ 40) (hb : b.n ≤ 40) (S0 S1 S2 S5 S6 S8 S9 : Option Sl) :
    ∃ S8' S9', L1_law [S0, S1, S2, shD (eM m), shD (.list ((ords m.L).map dO)), S5, S6, shD (eM b), S8, S9, none] = some (.nx [S0, S1, S2, shD (eM m), shD (.list ((ords m.L).map dO)), S5, S6, shD (eM b), S8', S9', none]) := by
  have h3 := ok.L3
  have ll := ords_len (L := m.L)
  have lk := letter_kin_eq ok okb hL hm hb
  have it : itemsD (.list ((ords m.L).map dO)) = some ((ords m.L).map dO) := rfl
  have lc : lcO (some ((ords m.L).map dO)) (gN 10) (toT (o2 eqD (eCall LN.F_law_least (lC (eCall LY.F_law_renamed (lC (eV 3) (lC (eV 10) lN))) lN)) (eCall LN.F_law_least (lC (eV 7) lN)))) (eV 10) [S0, S1, S2, shD (eM m), shD (.list ((ords m.L).map dO)), S5, S6, shD (eM b), S8, S9, none] = some (.list (((ords m.L).filter (kinB m b)).map dO)) := by
    rw [lcO_s (by rw [List.length_map]; omega)]
    have := lcL_filter (i := 10) (t := toT (o2 eqD (eCall LN.F_law_least (lC (eCall LY.F_law_renamed (lC (eV 3) (lC (eV 10) lN))) lN)) (eCall LN.F_law_least (lC (eV 7) lN)))) (a := eV 10) (ρ := [S0, S1, S2, shD (eM m), shD (.list ((ords m.L).map dO)), S5, S6, shD (eM b), S8, S9, none]) dO (kinB m b) dO (ords m.L) (fun o ho => by
      obtain ⟨x, y, e1, e2, e3⟩ := law_same_least ok okb hL hm hb (ords_ok ho)
      have lr := law_renamed_eq ok (ords_ok ho)
      generalize dO o = T at *
      simp only [shD, dv, lr, e1, e2, e3]) (fun o _ _ => by
      generalize dO o = T at *
      simp only [shD, dv])
    rw [this]
    rfl
  have hall : ∀ o ∈ (ords m.L).filter (kinB m b), Ord m.L o := fun o ho => ords_ok (List.mem_filter.mp ho).1
  rw [find_filter] at lk
  generalize (ords m.L).filter (kinB m b) = os at *
  generalize (ords m.L).map dO = X at *
  simp only [shD] at lc
  cases os with
  | nil =>
    have q : decide ((0 : Int) > 0) = false := rfl
    have ln : lenF [.list ([] : List D)] = some (.int 0) := rfl
    have sm : F_law_same 4 [.none, .none] = some (.bool true) := law_same_eq 4 .none trivial
    have lk' : F_letter_kin [eM m, eM b] = some .none := lk
    refine ⟨shD (.list []), shD .none, ?_⟩
    rw [List.map_nil] at lc
    simp only [L1_law, shD, dv, it, lc, ln, lk', sm, gt_ii, q]
  | cons o os =>
    have q : decide ((((o :: os).map dO).length : Int) > 0) = true := decide_eq_true (by rw [List.length_map, List.length_cons]; omega)
    have ln : lenF [.list ((o :: os).map dO)] = some (.int (((o :: os).map dO).length : Int)) := rfl
    have x0 : ixD (.list ((o :: os).map dO)) (.int 0) = some (dO o) := ix_l0
    have sm : F_law_same 4 [dO o, dO o] = some (.bool true) := law_same_eq 4 _ (plain_dO 2 (hall o List.mem_cons_self) h3)
    have lk' : F_letter_kin [eM m, eM b] = some (dO o) := lk
    refine ⟨shD (.list ((o :: os).map dO)), shD (dO o), ?_⟩
    generalize (o :: os).map dO = Y at *
    generalize dO o = T at *
    simp only [L1_law, shD, dv, it, lc, ln, lk', sm, gt_ii, q, x0]
end
theorem law_true (ns : List Int) (hns : ns.length ≤ 63) : F_law [scrD ns] = some (.bool true) := by
  rw [F_law, callF_1, b_law]
  obtain ⟨sh, d1, d2, _⟩ := draws_eq ns 0 4 720 (by decide) (by decide) (by decide)
  rw [show dN 0 = PyData.int 0 from rfl, show dN 4 = PyData.int 4 from rfl, show dN 720 = PyData.int 720 from rfl] at d1
  have x0 : ixD (.list (sh.map dN)) (.int 0) = some (dN (sh.getD 0 0)) := ix_numsL (i := 0) (by rw [List.getD_eq_getElem?_getD, List.getElem?_eq_getElem (by omega)]; rfl)
  have x1 : ixD (.list (sh.map dN)) (.int 1) = some (dN (sh.getD 1 0)) := ix_numsL (i := 1) (by rw [List.getD_eq_getElem?_getD, List.getElem?_eq_getElem (by omega)]; rfl)
  have x2 : ixD (.list (sh.map dN)) (.int 2) = some (dN (sh.getD 2 0)) := ix_numsL (i := 2) (by rw [List.getD_eq_getElem?_getD, List.getElem?_eq_getElem (by omega)]; rfl)
  have x3 : ixD (.list (sh.map dN)) (.int 3) = some (dN (sh.getD 3 0)) := ix_numsL (i := 3) (by rw [List.getD_eq_getElem?_getD, List.getElem?_eq_getElem (by omega)]; rfl)
  have m0 : modD (dN (sh.getD 0 0)) (.int 3) = some (dN (sh.getD 0 0 % 3)) := modN' (b := 3) (by decide)
  have m1 : modD (dN (sh.getD 1 0)) (.int 5) = some (dN (sh.getD 1 0 % 5)) := modN' (b := 5) (by decide)
  have m3 : modD (dN (sh.getD 3 0)) (.int 3) = some (dN (sh.getD 3 0 % 3)) := modN' (b := 3) (by decide)
  have l0 := Nat.mod_lt (sh.getD 0 0) (show 0 < 3 by decide)
  have l1 := Nat.mod_lt (sh.getD 1 0) (show 0 < 5 by decide)
  have l3 := Nat.mod_lt (sh.getD 3 0) (show 0 < 3 by decide)
  generalize sh.getD 0 0 % 3 = c0 at *
  generalize sh.getD 1 0 % 5 = c1 at *
  generalize sh.getD 3 0 % 3 = c3 at *
  have s0 : (1 : Int) + (c0 : Int) = ((1 + c0 : Nat) : Int) := by omega
  have s1 : (1 : Int) + (c1 : Int) = ((1 + c1 : Nat) : Int) := by omega
  have s3 : (1 : Int) + (c3 : Int) = ((1 + c3 : Nat) : Int) := by omega
  obtain ⟨m, em, ok, mL, mn, _⟩ := law_machine_eq ns (k := 1) (L := 1 + c0) (n := 1 + c1) (by omega) (by omega) (by omega) (by omega)
  obtain ⟨d, ed, okd, dL, dn, _⟩ := law_machine_eq ns (k := 2) (L := 1 + c0) (n := 1 + c3) (by omega) (by omega) (by omega) (by omega)
  rw [show dN 1 = PyData.int 1 from rfl] at em
  rw [show dN 2 = PyData.int 2 from rfl] at ed
  have lo := law_orders_eq (L := 1 + c0) (by omega) (by omega)
  have hp := ords_pos (L := 1 + c0) (by omega) (by omega)
  have ll := ords_len (L := 1 + c0)
  have lln : lenF [.list ((ords (1 + c0)).map dO)] = some (dN (ords (1 + c0)).length) := by rw [len_l, List.length_map]
  have m2 : modD (dN (sh.getD 2 0)) (dN (ords (1 + c0)).length) = some (dN (sh.getD 2 0 % (ords (1 + c0)).length)) := modN' hp
  have l2 := Nat.mod_lt (sh.getD 2 0) hp
  generalize sh.getD 2 0 % (ords (1 + c0)).length = c2 at *
  obtain ⟨o, ho⟩ : ∃ o, (ords (1 + c0))[c2]? = some o := ⟨_, List.getElem?_eq_getElem l2⟩
  have hom : o ∈ ords (1 + c0) := List.mem_of_getElem? ho
  have xo : ixD (.list ((ords (1 + c0)).map dO)) (dN c2) = some (dO o) := ix_l (by rw [List.getElem?_map, ho]; rfl)
  have hOrd : Ord m.L o := mL ▸ ords_ok hom
  have er := law_renamed_eq ok hOrd
  have okr := ren_ok ok hOrd
  have hrn : (ren m o).n = m.n := ren_n
  have hrr : (ren m o).n * (ren m o).n ≤ 40 * 40 := Nat.mul_le_mul (by omega) (by omega)
  obtain ⟨t, et, lt, _, tn⟩ := law_least_eq okr (by omega)
  rw [← mL] at lo lln hp ll xo hom
  have l4 : lstO [eM (ren m o), eM t, eM d, eM m] = some (.list ([ren m o, t, d, m].map eM)) := lstO_s (by show 4 ≤ _; decide)
  have it4 : itemsD (.list ([ren m o, t, d, m].map eM)) = some ([ren m o, t, d, m].map eM) := rfl
  -- the loop
  obtain ⟨ρ, e, o7, o8, o9, rfl⟩ := for_list (i := 7) (s := L1_law) eM [ren m o, t, d, m] (fun p ρ => ∃ o7 o8 o9, ρ = [shD (scrD ns), shD (.list (sh.map dN)), shD (dN (1 + c0)), shD (eM m), shD (.list ((ords m.L).map dO)), shD (eM (ren m o)), shD (eM d), o7, o8, o9, none]) (fun p b r ρ hs ⟨o7, o8, o9, hr⟩ => by
    subst hr
    have hb : b.Ok ∧ m.L = b.L ∧ b.n ≤ 40 := by
      have : b ∈ [ren m o, t, d, m] := by rw [hs]; simp
      simp only [List.mem_cons, List.not_mem_nil, or_false] at this
      rcases this with rfl | rfl | rfl | rfl
      · exact ⟨okr, rfl, by omega⟩
      · exact ⟨lt.ok, lt.L.symm, by omega⟩
      · exact ⟨okd, by omega, by omega⟩
      · exact ⟨ok, rfl, by omega⟩
    obtain ⟨S8, S9, e⟩ := turn_eq ok hb.1 hb.2.1 (by omega) hb.2.2 (shD (scrD ns)) (shD (.list (sh.map dN))) (shD (dN (1 + c0))) (shD (eM (ren m o))) (shD (eM d)) o8 o9
    exact ⟨_, e, _, _, _, rfl⟩) (ρ := [shD (scrD ns), shD (.list (sh.map dN)), shD (dN (1 + c0)), shD (eM m), shD (.list ((ords m.L).map dO)), shD (eM (ren m o)), shD (eM d), none, none, none, none]) ⟨_, _, _, rfl⟩
  have it : itemsD (.list ((ords m.L).map dO)) = some ((ords m.L).map dO) := rfl
  have h3 := ok.L3
  have lc : lcO (some ((ords m.L).map dO)) (gN 10) (toT (o2 eqD (eCall LN.F_law_least (lC (eCall LY.F_law_renamed (lC (eV 3) (lC (eV 10) lN))) lN)) (eCall LN.F_law_least (lC (eV 3) lN)))) (eV 10) [shD (scrD ns), shD (.list (sh.map dN)), shD (dN (1 + c0)), shD (eM m), shD (.list ((ords m.L).map dO)), shD (eM (ren m o)), shD (eM d), o7, o8, o9, none] = some (.list (((ords m.L).filter (kinB m m)).map dO)) := by
    rw [lcO_s (by rw [List.length_map]; omega)]
    have := lcL_filter (i := 10) (t := toT (o2 eqD (eCall LN.F_law_least (lC (eCall LY.F_law_renamed (lC (eV 3) (lC (eV 10) lN))) lN)) (eCall LN.F_law_least (lC (eV 3) lN)))) (a := eV 10) (ρ := [shD (scrD ns), shD (.list (sh.map dN)), shD (dN (1 + c0)), shD (eM m), shD (.list ((ords m.L).map dO)), shD (eM (ren m o)), shD (eM d), o7, o8, o9, none]) dO (kinB m m) dO (ords m.L) (fun o ho => by
      obtain ⟨x, y, e1, e2, e3⟩ := law_same_least ok ok rfl (by omega) (by omega) (ords_ok ho)
      have lr := law_renamed_eq ok (ords_ok ho)
      generalize dO o = T at *
      simp only [shD, dv, lr, e1, e2, e3]) (fun o _ _ => by
      generalize dO o = T at *
      simp only [shD, dv])
    rw [this]
    rfl
  have ok1 := own_kin_eq ok (by omega)
  have sm : F_law_same 4 [.list (((ords m.L).filter (kinB m m)).map dO), .list (((ords m.L).filter (kinB m m)).map dO)] = some (.bool true) := law_same_eq 4 _ (plain_list.mpr ⟨by
    rw [List.length_map]
    have := List.length_filter_le (kinB m m) (ords m.L)
    omega, fun x hx => by
    obtain ⟨o', ho', rfl⟩ := List.mem_map.mp hx
    exact plain_dO 1 (ords_ok (List.mem_filter.mp ho').1) h3⟩)
  have lk := letter_kin_eq ok okr rfl (by omega) (by omega)
  obtain ⟨o', ho'⟩ : ∃ o', (ords m.L).find? (kinB m (ren m o)) = some o' := by
    have : ((ords m.L).find? (kinB m (ren m o))).isSome = true := List.find?_isSome.mpr ⟨o, hom, kinB_iff.mpr fun w _ => Iff.rfl⟩
    exact Option.isSome_iff_exists.mp this
  rw [ho'] at lk
  have nn : isnD (dO o') .none = some (.bool true) := by rw [isn_n]; rfl
  have lk' : F_letter_kin [eM m, eM (ren m o)] = some (dO o') := lk
  generalize (ords m.L).filter (kinB m m) = W at *
  generalize W.map dO = Z at *
  rw [mL] at lo lln xo it lc e
  generalize (ords (1 + c0)).length = M at *
  generalize (ords (1 + c0)).map dO = X at *
  generalize dO o' = T' at *
  generalize dO o = T at *
  generalize [ren m o, t, d, m].map eM = Y4 at *
  simp only [shD] at e lc
  simp only [dv, dv0, d1, x0, x1, x2, x3, m0, m1, m2, m3, s0, s1, s3, em, ed, lo, lln, xo, er, et, l4, it4, e, it, lc, ok1, sm, lk', nn]
end G85

open PySem PySem.W PyProof.Rows
set_option maxRecDepth 100000 in
set_option maxHeartbeats 0 in
theorem PySem.Challenge.cw_viewedwords_k85_letter_kin_holds : PySem.Challenge.rw_viewedwords_k85_letter_kin.Holds := by
  w_on; o_law; k_head; (case hw => w_witness2)
  k_fill
  refine G85.walk (l := PySem.Challenge.rw_viewedwords_k85_letter_kin) rfl rfl (fun w h Y => PySem.W.kIn_of Y) ?F
  case F =>
    intro w mg fa h KX G hmg
    refine' G85.all_mk G85.law_true KX G hmg ?a0 ?l0 ?c0 ?k0 ?a1 ?l1 ?c1 ?k1 ?a2 ?l2 ?c2 ?k2 ?a3 ?l3 ?c3 ?k3 ?a4 ?l4 ?c4 ?k4 ?a5 ?l5 ?c5 ?k5 ?a6 ?l6 ?c6 ?k6 ?a7 ?l7 ?c7 ?k7 ?a8 ?l8 ?c8 ?k8 ?a9 ?l9 ?c9 ?k9 ?a10 ?l10 ?c10 ?k10 ?a11 ?l11 ?c11 ?k11 ?a12 ?l12 ?c12 ?k12 ?a13 ?l13 ?c13 ?k13 ?a14 ?l14 ?c14 ?k14 ?a15 ?l15 ?c15 ?k15 ?a16 ?l16 ?c16 ?k16 ?a17 ?l17 ?c17 ?k17 ?a18 ?l18 ?c18 ?k18 ?a19 ?l19 ?c19 ?k19 ?a20 ?l20 ?c20 ?k20 ?a21 ?l21 ?c21 ?k21 ?a22 ?l22 ?c22 ?k22 ?a23 ?l23 ?c23 ?k23 ?a24 ?l24 ?c24 ?k24 ?a25 ?l25 ?c25 ?k25 ?a26 ?l26 ?c26 ?k26 ?a27 ?l27 ?c27 ?k27 ?a28 ?l28 ?c28 ?k28 ?z_abs ?z_bool ?z_int ?z_isinstance ?z_len ?z_list ?z_range ?z_set ?z_str ?z_sum ?z_tuple ?y_LETTERS ?y_MAX_STATES
    (case a0 => k_is); (case l0 => k_is); (case c0 => k_is); (case k0 => k_is)
    (case a1 => k_is); (case l1 => k_is); (case c1 => k_is); (case k1 => k_is)
    (case a2 => k_is); (case l2 => k_is); (case c2 => k_is); (case k2 => k_is)
    (case a3 => k_is); (case l3 => k_is); (case c3 => k_is); (case k3 => k_is)
    (case a4 => k_is); (case l4 => k_is); (case c4 => k_is); (case k4 => k_is)
    (case a5 => k_is); (case l5 => k_is); (case c5 => k_is); (case k5 => k_is)
    (case a6 => k_is); (case l6 => k_is); (case c6 => k_is); (case k6 => k_is)
    (case a7 => k_is); (case l7 => k_is); (case c7 => k_is); (case k7 => k_is)
    (case a8 => k_is); (case l8 => k_is); (case c8 => k_is); (case k8 => k_is)
    (case a9 => k_is); (case l9 => k_is); (case c9 => k_is); (case k9 => k_is)
    (case a10 => k_is); (case l10 => k_is); (case c10 => k_is); (case k10 => k_is)
    (case a11 => k_is); (case l11 => k_is); (case c11 => k_is); (case k11 => k_is)
    (case a12 => k_is); (case l12 => k_is); (case c12 => k_is); (case k12 => k_is)
    (case a13 => k_is); (case l13 => k_is); (case c13 => k_is); (case k13 => k_is)
    (case a14 => k_is); (case l14 => k_is); (case c14 => k_is); (case k14 => k_is)
    (case a15 => k_is); (case l15 => k_is); (case c15 => k_is); (case k15 => k_is)
    (case a16 => k_is); (case l16 => k_is); (case c16 => k_is); (case k16 => k_is)
    (case a17 => k_is); (case l17 => k_is); (case c17 => k_is); (case k17 => k_is)
    (case a18 => k_is); (case l18 => k_is); (case c18 => k_is); (case k18 => k_is)
    (case a19 => k_is); (case l19 => k_is); (case c19 => k_is); (case k19 => k_is)
    (case a20 => k_is); (case l20 => k_is); (case c20 => k_is); (case k20 => k_is)
    (case a21 => k_is); (case l21 => k_is); (case c21 => k_is); (case k21 => k_is)
    (case a22 => k_is); (case l22 => k_is); (case c22 => k_is); (case k22 => k_is)
    (case a23 => k_is); (case l23 => k_is); (case c23 => k_is); (case k23 => k_is)
    (case a24 => k_is); (case l24 => k_is); (case c24 => k_is); (case k24 => k_is)
    (case a25 => k_is); (case l25 => k_is); (case c25 => k_is); (case k25 => k_is)
    (case a26 => k_is); (case l26 => k_is); (case c26 => k_is); (case k26 => k_is)
    (case a27 => k_is); (case l27 => k_is); (case c27 => k_is); (case k27 => k_is)
    (case a28 => k_is); (case l28 => k_is); (case c28 => k_is); (case k28 => k_is)
    (case z_abs => k_is); (case z_bool => k_is); (case z_int => k_is); (case z_isinstance => k_is)
    (case z_len => k_is); (case z_list => k_is); (case z_range => k_is); (case z_set => k_is)
    (case z_str => k_is); (case z_sum => k_is); (case z_tuple => k_is); (case y_LETTERS => k_is)
    (case y_MAX_STATES => k_is)

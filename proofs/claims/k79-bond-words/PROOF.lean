import PyProof.Rows.All
import Wide.All
import OpenK.AllK
import Wide.FinOn
import HandS.ForMost
import KE.KDictKeyed
import HandS.TupAny
import HandS.Deep
import HandS.TupLe
import HandS.WordsDict
import PyProof.StrOps2
import HandS.IsInst
import HandS.Style
import HandS.StrMore
import HandS.TupLen
import HandS.Replace
import HandS.Conv
import HandS.More
import HandS.DictComp
import PyProof.SliceList
import KE.KRevSl
import HandS.SortRule
import HandS.SortKw
import HandS.Keys
import KE.KSortKey
import PySem.Challenge.RW_viewedwords_k79_words_of_bonds
set_option Elab.async false
set_option linter.all false
set_option Elab.async false
set_option linter.all false
set_option maxRecDepth 100000
/-! DVa: plain data (PyData) over the abstract heap: what is frozen (G), what a slot owns; canonical readings. -/
namespace DV
open PySem PySem.Spec PyProof.Rows L2

/-- data; a dict carries its kind ahead of its pairs: (none, 0) keys are ints and texts, (none, 1) flat tuples of these, (none, 2) nested tuples -/
abbrev D := PyData
abbrev St := L2.St
structure Wd where
  P : Program
  w : World
  K : PySem.W.Frag
def keyD : Key → D
  | .inl i => .int i
  | .inr x => .str x
mutual
def nkD : NestedKey → D
  | .none => .none
  | .num i => .int i
  | .text x => .str x
  | .tup ks => .tuple (nkDs ks)
def nkDs : List NestedKey → List D
  | [] => []
  | k :: ks => nkD k :: nkDs ks
end
/-- the entries of a dict with nested tuples as keys, as they stand -/
def rawN (W : Wd) (a : Addr) (xs : List (NestedKey × Addr × V)) (h : Heap) : Prop :=
  ∃ (vs : List (NestedKey × Addr × Value)) (o : Obj) (es : Array DictEntry) (ep : Nat), Paired (fun (p : NestedKey × Addr × V) (q : NestedKey × Addr × Value) => p.1 = q.1 ∧ p.2.1 = q.2.1 ∧ RelV p.2.2 q.2.2) xs vs ∧
    h.get? a = some o ∧ o.ExactDict ∧ o.data = .dict es ep ∧ es.toList = vs.map (entryOfKey (nestedKind W.P W.w)) ∧ (a == sysModules) = false ∧ (xs.map (·.1)).Nodup ∧ xs.length ≤ sizeLine
/-- the script, which is only read -/
def scrD (ns : List Int) : D := .dict [(.none, .list (ns.map .int))]
mutual
inductive Rep (W : Wd) (G : Hp) : D → V → Prop
  | non : Rep W G .none .non
  | bl (b : Bool) : Rep W G (.bool b) (.bl b)
  | int (i : Int) : Rep W G (.int i) (.int i)
  | str (x : Str) : Rep W G (.str x) (.str x)
  | scr {a : Addr} {ns : List Int} : SqL W.K G a (ns.map V.int) → Rep W G (scrD ns) (.ref a)
  | lst {a : Addr} {xs : List V} {ds : List D} : G a = some (.lst xs) → Reps W G ds xs → Rep W G (.list ds) (.ref a)
  | tup {a : Addr} {xs : List V} {ds : List D} : G a = some (.tup xs) → Reps W G ds xs → Rep W G (.tuple ds) (.ref a)
  | dcK {a : Addr} {od : Obj} {kv : List (Key × V)} {kvs : List (D × D)} : G a = some (.frz od (.dK kv)) → kvs.map (·.1) = kv.map (fun p => keyD p.1) → Reps W G (kvs.map (·.2)) (kv.map (·.2)) → Rep W G (.dict ((.none, .int 0) :: kvs)) (.ref a)
  | dcT {a : Addr} {od : Obj} {kv : List (List Key × V)} {kvs : List (D × D)} : G a = some (.frz od (.dT kv)) → kvs.map (·.1) = kv.map (fun p => .tuple (p.1.map keyD)) → Reps W G (kvs.map (·.2)) (kv.map (·.2)) → Rep W G (.dict ((.none, .int 1) :: kvs)) (.ref a)
  | dcN {a : Addr} {kv : List (NestedKey × Addr × V)} {kvs : List (D × D)} : G a = some (.ext (rawN W a kv)) → kvs.map (·.1) = kv.map (fun p => nkD p.1) → Reps W G (kvs.map (·.1)) (kv.map (fun p => .ref p.2.1)) → Reps W G (kvs.map (·.2)) (kv.map (·.2.2)) → Rep W G (.dict ((.none, .int 2) :: kvs)) (.ref a)
inductive Reps (W : Wd) (G : Hp) : List D → List V → Prop
  | nil : Reps W G [] []
  | cons {d : D} {ds : List D} {v : V} {vs : List V} : Rep W G d v → Reps W G ds vs → Reps W G (d :: ds) (v :: vs)
end
section
variable {W : Wd} {G G' H H' : Hp}
mutual
theorem Rep.mono (s : Same G G') : ∀ {d : D} {v : V}, Rep W G d v → Rep W G' d v
  | _, _, .non => .non
  | _, _, .bl b => .bl b
  | _, _, .int i => .int i
  | _, _, .str x => .str x
  | _, _, .scr h => .scr (s.seq h)
  | _, _, .lst h r => .lst (s _ _ h) (Reps.mono s r)
  | _, _, .tup h r => .tup (s _ _ h) (Reps.mono s r)
  | _, _, .dcK h k r => .dcK (s _ _ h) k (Reps.mono s r)
  | _, _, .dcT h k r => .dcT (s _ _ h) k (Reps.mono s r)
  | _, _, .dcN h k r r' => .dcN (s _ _ h) k (Reps.mono s r) (Reps.mono s r')
theorem Reps.mono (s : Same G G') : ∀ {d : List D} {v : List V}, Reps W G d v → Reps W G' d v
  | _, _, .nil => .nil
  | _, _, .cons r t => .cons (Rep.mono s r) (Reps.mono s t)
end
theorem Reps.length : ∀ {ds : List D} {vs : List V}, Reps W G ds vs → ds.length = vs.length
  | _, _, .nil => rfl
  | _, _, .cons _ t => congrArg (· + 1) (Reps.length t)
theorem Reps.get : ∀ {ds : List D} {vs : List V} {i : Nat} {d : D}, Reps W G ds vs → ds[i]? = some d → ∃ v, vs[i]? = some v ∧ Rep W G d v
  | _, _, i, _, .nil, e => by simp at e
  | _, _, 0, _, .cons r _, e => by simp at e; subst e; exact ⟨_, rfl, r⟩
  | _, _, i + 1, d, .cons _ t, e => by
    obtain ⟨u, h1, h2⟩ := Reps.get (i := i) (d := d) t (by simpa using e)
    exact ⟨u, by simpa using h1, h2⟩
theorem Reps.getV : ∀ {ds : List D} {vs : List V} {i : Nat} {v : V}, Reps W G ds vs → vs[i]? = some v → ∃ d, ds[i]? = some d ∧ Rep W G d v
  | _, _, i, _, .nil, e => by simp at e
  | _, _, 0, _, .cons r _, e => by simp at e; subst e; exact ⟨_, rfl, r⟩
  | _, _, i + 1, d, .cons _ t, e => by
    obtain ⟨u, h1, h2⟩ := Reps.getV (i := i) (v := d) t (by simpa using e)
    exact ⟨u, by simpa using h1, h2⟩
theorem Reps.append : ∀ {ds es : List D} {vs us : List V}, Reps W G ds vs → Reps W G es us → Reps W G (ds ++ es) (vs ++ us)
  | _, _, _, _, .nil, s => s
  | _, _, _, _, .cons r t, s => .cons r (Reps.append t s)
theorem Reps.snoc {ds : List D} {vs : List V} {d : D} {v : V} (r : Reps W G ds vs) (q : Rep W G d v) : Reps W G (ds ++ [d]) (vs ++ [v]) := r.append (.cons q .nil)
theorem Reps.set {d : D} {v : V} (q : Rep W G d v) : ∀ {ds : List D} {vs : List V} (i : Nat), Reps W G ds vs → Reps W G (ds.set i d) (vs.set i v)
  | _, _, _, .nil => .nil
  | _, _, 0, .cons _ t => .cons q t
  | _, _, i + 1, .cons r t => .cons r (Reps.set q i t)
theorem Reps.take : ∀ {ds : List D} {vs : List V} (n : Nat), Reps W G ds vs → Reps W G (ds.take n) (vs.take n)
  | _, _, 0, _ => .nil
  | _, _, _ + 1, .nil => .nil
  | _, _, n + 1, .cons r t => .cons r (Reps.take n t)
theorem Reps.drop : ∀ {ds : List D} {vs : List V} (n : Nat), Reps W G ds vs → Reps W G (ds.drop n) (vs.drop n)
  | _, _, 0, r => r
  | _, _, _ + 1, .nil => .nil
  | _, _, n + 1, .cons _ t => Reps.drop n t
theorem Reps.reverse : ∀ {ds : List D} {vs : List V}, Reps W G ds vs → Reps W G ds.reverse vs.reverse
  | _, _, .nil => .nil
  | _, _, .cons r t => by rw [List.reverse_cons, List.reverse_cons]; exact (Reps.reverse t).snoc r
end

/-- what stands at the address of an owned thing: its parts are frozen -/
inductive Top (W : Wd) (G H : Hp) : D → Addr → Prop
  | lst {a : Addr} {xs : List V} {ds : List D} : H a = some (.lst xs) → Reps W G ds xs → Top W G H (.list ds) a
  | dcK {a : Addr} {kv : List (Key × V)} {kvs : List (D × D)} : H a = some (.dK kv) → kvs.map (·.1) = kv.map (fun p => keyD p.1) → Reps W G (kvs.map (·.2)) (kv.map (·.2)) → Top W G H (.dict ((.none, .int 0) :: kvs)) a
  | dcT {a : Addr} {kv : List (List Key × V)} {kvs : List (D × D)} : H a = some (.dT kv) → kvs.map (·.1) = kv.map (fun p => .tuple (p.1.map keyD)) → Reps W G (kvs.map (·.2)) (kv.map (·.2)) → Top W G H (.dict ((.none, .int 1) :: kvs)) a
  | dcN {a : Addr} {kv : List (NestedKey × Addr × V)} {kvs : List (D × D)} : H a = some (.ext (rawN W a kv)) → kvs.map (·.1) = kv.map (fun p => nkD p.1) → Reps W G (kvs.map (·.1)) (kv.map (fun p => .ref p.2.1)) → Reps W G (kvs.map (·.2)) (kv.map (·.2.2)) → Top W G H (.dict ((.none, .int 2) :: kvs)) a
section
variable {W : Wd} {G G' H H' : Hp} {d : D} {a : Addr}
theorem Top.mono (s : Same G G') (e : H' a = H a) (t : Top W G H d a) : Top W G' H' d a := by
  cases t with
  | lst h r => exact .lst (e.trans h) (r.mono s)
  | dcK h k r => exact .dcK (e.trans h) k (r.mono s)
  | dcT h k r => exact .dcT (e.trans h) k (r.mono s)
  | dcN h k r r' => exact .dcN (e.trans h) k (r.mono s) (r'.mono s)
theorem Top.at (t : Top W G H d a) : ∃ o, H a = some o := by
  cases t with
  | lst h r => exact ⟨_, h⟩
  | dcK h k r => exact ⟨_, h⟩
  | dcT h k r => exact ⟨_, h⟩
  | dcN h k r r' => exact ⟨_, h⟩
theorem Top.same (s : Same G G') (sh : Same H H') (t : Top W G H d a) : Top W G' H' d a := by
  obtain ⟨o, e⟩ := t.at
  exact t.mono s ((sh _ _ e).trans e.symm)
theorem Top.mut (t : Top W G H d a) : Mut (H a) := by
  cases t with
  | lst h r => rw [h]; trivial
  | dcK h k r => rw [h]; trivial
  | dcT h k r => rw [h]; trivial
  | dcN h k r r' => rw [h]; trivial
end

/-! ### environments -/
inductive Sl where
  | shr (d : D)
  | own (d : D)
abbrev Env := List (Option Sl)

structure Rp (W : Wd) (B G H : Hp) (ρ : Env) (σ : St) : Prop where
  bh : Same B H
  gh : Same G H
  len : ρ.length = σ.length
  shr : ∀ (i : Nat) d, ρ[i]? = some (some (.shr d)) → ∃ v, σ[i]? = some (some v) ∧ Rep W G d v
  own : ∀ (i : Nat) d, ρ[i]? = some (some (.own d)) → ∃ a, σ[i]? = some (some (.ref a)) ∧ B a = none ∧ G a = none ∧ Top W G H d a
  sep : ∀ (i j : Nat) d e a, ρ[i]? = some (some (.own d)) → ρ[j]? = some (some (.own e)) → σ[i]? = some (some (.ref a)) → σ[j]? = some (some (.ref a)) → i = j

theorem Top.notup {W : Wd} {G H : Hp} {d : D} {a : Addr} {xs : List V} (t : Top W G H d a) : H a ≠ some (.tup xs) := by
  cases t with
  | lst h r => rw [h]; exact fun z => nomatch z
  | dcK h k r => rw [h]; exact fun z => nomatch z
  | dcT h k r => rw [h]; exact fun z => nomatch z
  | dcN h k r r' => rw [h]; exact fun z => nomatch z
/-- nothing stands there that may be owned -/
def Nw (H : Hp) (b : Addr) : Prop := H b = none ∨ ∃ xs, H b = some (.tup xs)
theorem Nw.back {H H' : Hp} {b : Addr} (s : Same H H') (n : Nw H' b) : Nw H b := by
  rcases n with n | ⟨xs, n⟩
  · exact .inl (s.free n)
  · cases q : H b with
    | none => exact .inl q
    | some o =>
      have z := s b o q
      rw [n] at z
      cases z
      exact .inr ⟨xs, q⟩
theorem Top.old {W : Wd} {G H : Hp} {d : D} {a : Addr} (t : Top W G H d a) : ¬ Nw H a := by
  rintro (n | ⟨xs, n⟩)
  · obtain ⟨o, e⟩ := t.at
    rw [n] at e
    cases e
  · exact t.notup n
/-- an expression's step: the heap grows, and what is newly frozen is new -/
structure Gw (G H G' H' : Hp) : Prop where
  g : Same G G'
  h : Same H H'
  gh : Same G' H'
  new : ∀ b o, G' b = some o → G b = some o ∨ Nw H b
theorem Gw.refl {G H : Hp} (s : Same G H) : Gw G H G H := ⟨Same.refl _, Same.refl _, s, fun _ _ e => .inl e⟩
theorem Gw.trans {G H G1 H1 G2 H2 : Hp} (a : Gw G H G1 H1) (b : Gw G1 H1 G2 H2) : Gw G H G2 H2 := ⟨a.g.trans b.g, a.h.trans b.h, b.gh, fun c o e => by
  rcases b.new c o e with e | e
  · exact a.new c o e
  · exact .inr (e.back a.h)⟩
/-- a statement's step -/
structure Gs (B G G' : Hp) : Prop where
  g : Same G G'
  new : ∀ b o, G' b = some o → G b = some o ∨ Nw B b
theorem Gs.refl {B G : Hp} : Gs B G G := ⟨Same.refl _, fun _ _ e => .inl e⟩
theorem Gs.trans {B G G1 G2 : Hp} (a : Gs B G G1) (b : Gs B G1 G2) : Gs B G G2 := ⟨a.g.trans b.g, fun c o e => by
  rcases b.new c o e with e | e
  · exact a.new c o e
  · exact .inr e⟩
theorem Gw.gs {B G H G' H' : Hp} (s : Same B H) (a : Gw G H G' H') : Gs B G G' := ⟨a.g, fun b o e => by
  rcases a.new b o e with e | e
  · exact .inl e
  · exact .inr (e.back s)⟩
section
variable {W : Wd} {B G H G' H' : Hp} {ρ : Env} {σ : St}
theorem Rp.step (r : Rp W B G H ρ σ) (w : Gw G H G' H') : Rp W B G' H' ρ σ where
  bh := r.bh.trans w.h
  gh := w.gh
  len := r.len
  shr := fun i d e => let ⟨v, h1, h2⟩ := r.shr i d e; ⟨v, h1, h2.mono w.g⟩
  own := fun i d e => by
    obtain ⟨a, h1, h2, h3, h4⟩ := r.own i d e
    obtain ⟨o, ho⟩ := h4.at
    refine ⟨a, h1, h2, ?_, h4.same w.g w.h⟩
    cases q : G' a with
    | none => rfl
    | some u =>
      rcases w.new a u q with z | z
      · rw [h3] at z; cases z
      · exact absurd z h4.old
  sep := r.sep
theorem Rp.set_shr (r : Rp W B G H ρ σ) {i : Nat} {d : D} {v : V} (q : Rep W G d v) : Rp W B G H (ρ.set i (some (.shr d))) (σ.set i (some v)) where
  bh := r.bh
  gh := r.gh
  len := by simp [r.len]
  shr := fun j e h => by
    by_cases hj : i = j
    · subst hj
      have hl : i < ρ.length := by
        have := (List.getElem?_eq_some_iff.mp h).1
        simpa using this
      rw [List.getElem?_set_self hl] at h
      cases h
      exact ⟨v, by rw [List.getElem?_set_self (by rw [← r.len]; exact hl)], q⟩
    · rw [List.getElem?_set_ne hj] at h
      rw [List.getElem?_set_ne hj]
      exact r.shr j e h
  own := fun j e h => by
    by_cases hj : i = j
    · subst hj
      have hl : i < ρ.length := by
        have := (List.getElem?_eq_some_iff.mp h).1
        simpa using this
      rw [List.getElem?_set_self hl] at h
      cases h
    · rw [List.getElem?_set_ne hj] at h
      rw [List.getElem?_set_ne hj]
      exact r.own j e h
  sep := fun j k d1 d2 a h1 h2 h3 h4 => by
    by_cases hj : i = j
    · subst hj
      have hl : i < ρ.length := by
        have := (List.getElem?_eq_some_iff.mp h1).1
        simpa using this
      rw [List.getElem?_set_self hl] at h1
      cases h1
    · by_cases hk : i = k
      · subst hk
        have hl : i < ρ.length := by
          have := (List.getElem?_eq_some_iff.mp h2).1
          simpa using this
        rw [List.getElem?_set_self hl] at h2
        cases h2
      · rw [List.getElem?_set_ne hj] at h1 h3
        rw [List.getElem?_set_ne hk] at h2 h4
        exact r.sep j k d1 d2 a h1 h2 h3 h4
/-- a slot comes to own a new thing -/
theorem Rp.set_own (r : Rp W B G H ρ σ) {i : Nat} {d : D} {a : Addr} (hB : B a = none) (hG : G a = none) (t : Top W G H d a) (hn : ∀ (j : Nat) e, ρ[j]? = some (some (.own e)) → σ[j]? ≠ some (some (.ref a))) :
    Rp W B G H (ρ.set i (some (.own d))) (σ.set i (some (.ref a))) where
  bh := r.bh
  gh := r.gh
  len := by simp [r.len]
  shr := fun j e h => by
    by_cases hj : i = j
    · subst hj
      have hl : i < ρ.length := by
        have := (List.getElem?_eq_some_iff.mp h).1
        simpa using this
      rw [List.getElem?_set_self hl] at h
      cases h
    · rw [List.getElem?_set_ne hj] at h
      rw [List.getElem?_set_ne hj]
      exact r.shr j e h
  own := fun j e h => by
    by_cases hj : i = j
    · subst hj
      have hl : i < ρ.length := by
        have := (List.getElem?_eq_some_iff.mp h).1
        simpa using this
      rw [List.getElem?_set_self hl] at h
      cases h
      exact ⟨a, by rw [List.getElem?_set_self (by rw [← r.len]; exact hl)], hB, hG, t⟩
    · rw [List.getElem?_set_ne hj] at h
      rw [List.getElem?_set_ne hj]
      exact r.own j e h
  sep := fun j k d1 d2 b h1 h2 h3 h4 => by
    have hl : ∀ {m : Nat} {x}, (ρ.set i (some (.own d)))[m]? = some x → m < ρ.length := fun {m x} h => by
      have := (List.getElem?_eq_some_iff.mp h).1
      simpa using this
    have hl1 := hl h1
    have hl2 := hl h2
    by_cases hj : i = j
    · subst hj
      by_cases hk : i = k
      · exact hk
      · rw [List.getElem?_set_self (by rw [← r.len]; exact hl1)] at h3
        cases h3
        rw [List.getElem?_set_ne hk] at h2 h4
        exact absurd h4 (hn k d2 h2)
    · rw [List.getElem?_set_ne hj] at h1 h3
      by_cases hk : i = k
      · subst hk
        rw [List.getElem?_set_self (by rw [← r.len]; exact hl2)] at h4
        cases h4
        exact absurd h3 (hn j d1 h1)
      · rw [List.getElem?_set_ne hk] at h2 h4
        exact r.sep j k d1 d2 b h1 h2 h3 h4
/-- the thing that slot i owns is changed -/
theorem Rp.upd_own (r : Rp W B G H ρ σ) {i : Nat} {d d' : D} {a : Addr} {o : HO} (hi : ρ[i]? = some (some (.own d))) (ha : σ[i]? = some (some (.ref a))) (t : Top W G (upd H a o) d' a) :
    Rp W B G (upd H a o) (ρ.set i (some (.own d'))) σ := by
  obtain ⟨a', h1, h2, h3, h4⟩ := r.own i d hi
  rw [ha] at h1
  cases h1
  have hl : i < ρ.length := (List.getElem?_eq_some_iff.mp hi).1
  refine ⟨fun b u e => ?_, fun b u e => ?_, by simp [r.len], fun j e h => ?_, fun j e h => ?_, fun j k d1 d2 b q1 q2 q3 q4 => ?_⟩
  · rw [upd_ne (ne_of_none e h2)]; exact r.bh b u e
  · rw [upd_ne (ne_of_none e h3)]; exact r.gh b u e
  · by_cases hj : i = j
    · subst hj
      rw [List.getElem?_set_self hl] at h
      cases h
    · rw [List.getElem?_set_ne hj] at h
      exact r.shr j e h
  · by_cases hj : i = j
    · subst hj
      rw [List.getElem?_set_self hl] at h
      cases h
      exact ⟨a, ha, h2, h3, t⟩
    · rw [List.getElem?_set_ne hj] at h
      obtain ⟨b, g1, g2, g3, g4⟩ := r.own j e h
      refine ⟨b, g1, g2, g3, g4.mono (Same.refl _) ?_⟩
      rw [upd_ne]
      rintro rfl
      exact hj (r.sep i j d e b hi h ha g1)
  · have pre : ∀ {m : Nat} {x}, (ρ.set i (some (.own d')))[m]? = some (some (.own x)) → ∃ y, ρ[m]? = some (some (.own y)) := fun {m x} h => by
      by_cases hm : i = m
      · subst hm; exact ⟨d, hi⟩
      · rw [List.getElem?_set_ne hm] at h
        exact ⟨x, h⟩
    obtain ⟨y1, z1⟩ := pre q1
    obtain ⟨y2, z2⟩ := pre q2
    exact r.sep j k y1 y2 b z1 z2 q3 q4
/-- slots forgotten -/
theorem Rp.forget (r : Rp W B G H ρ σ) {i : Nat} : Rp W B G H (ρ.set i none) σ where
  bh := r.bh
  gh := r.gh
  len := by simp [r.len]
  shr := fun j e h => by
    by_cases hj : i = j
    · subst hj
      have hl : i < ρ.length := by
        have := (List.getElem?_eq_some_iff.mp h).1
        simpa using this
      rw [List.getElem?_set_self hl] at h
      cases h
    · rw [List.getElem?_set_ne hj] at h
      exact r.shr j e h
  own := fun j e h => by
    by_cases hj : i = j
    · subst hj
      have hl : i < ρ.length := by
        have := (List.getElem?_eq_some_iff.mp h).1
        simpa using this
      rw [List.getElem?_set_self hl] at h
      cases h
    · rw [List.getElem?_set_ne hj] at h
      exact r.own j e h
  sep := fun j k d1 d2 a h1 h2 h3 h4 => by
    by_cases hj : i = j
    · subst hj
      have hl : i < ρ.length := by
        have := (List.getElem?_eq_some_iff.mp h1).1
        simpa using this
      rw [List.getElem?_set_self hl] at h1
      cases h1
    · by_cases hk : i = k
      · subst hk
        have hl : i < ρ.length := by
          have := (List.getElem?_eq_some_iff.mp h2).1
          simpa using this
        rw [List.getElem?_set_self hl] at h2
        cases h2
      · rw [List.getElem?_set_ne hj] at h1
        rw [List.getElem?_set_ne hk] at h2
        exact r.sep j k d1 d2 a h1 h2 h3 h4
end
end DV

set_option Elab.async false
set_option linter.all false
set_option maxRecDepth 100000
/-! DVb: canonical readings of expressions, tests, arguments, statements; names, blocks, if, while, for, return; a def as a function of data. -/
namespace DV
open PySem PySem.Spec PyProof.Rows L2

abbrev _root_.L2.Cx.wd (X : Cx) : Wd := ⟨X.prog, X.w, X.K⟩

def Bor (W : Wd) (G H : Hp) (d : D) (v : V) : Prop := Rep W G d v ∨ ∃ p, v = V.ref p ∧ Top W G H d p
theorem Bor.step {W : Wd} {G H G' H' : Hp} {d : D} {v : V} (b : Bor W G H d v) (w : Gw G H G' H') : Bor W G' H' d v := by
  rcases b with b | ⟨p, e, t⟩
  · exact .inl (b.mono w.g)
  · exact .inr ⟨p, e, t.same w.g w.h⟩
def Frs (W : Wd) (G H G' H' : Hp) (d : D) (v : V) : Prop := ∃ p, v = V.ref p ∧ H p = none ∧ G' p = none ∧ Top W G' H' d p
inductive Bors (W : Wd) (G H : Hp) : List D → List V → Prop
  | nil : Bors W G H [] []
  | cons {d : D} {ds : List D} {v : V} {vs : List V} : Bor W G H d v → Bors W G H ds vs → Bors W G H (d :: ds) (v :: vs)
theorem Bors.step {W : Wd} {G H G' H' : Hp} (w : Gw G H G' H') : ∀ {ds : List D} {vs : List V}, Bors W G H ds vs → Bors W G' H' ds vs
  | _, _, .nil => .nil
  | _, _, .cons b t => .cons (b.step w) (Bors.step w t)

abbrev FE := Env → Option D
abbrev FT := Env → Option Bool
abbrev FL := Env → Option (List D)
/-- frozen, borrowed, new -/
def tF (W : Wd) (F : FE) : TE := fun σ H Q => ∃ B G ρ d, Rp W B G H ρ σ ∧ F ρ = some d ∧ ∀ v G' H', Gw G H G' H' → Rep W G' d v → Q v H'
def tB (W : Wd) (F : FE) : TE := fun σ H Q => ∃ B G ρ d, Rp W B G H ρ σ ∧ F ρ = some d ∧ ∀ v G' H', Gw G H G' H' → Bor W G' H' d v → Q v H'
def tN (W : Wd) (F : FE) : TE := fun σ H Q => ∃ B G ρ d, Rp W B G H ρ σ ∧ F ρ = some d ∧ ∀ v G' H', Gw G H G' H' → Frs W G H G' H' d v → Q v H'
def tT (W : Wd) (F : FT) : TT := fun σ H Q => ∃ B G ρ b, Rp W B G H ρ σ ∧ F ρ = some b ∧ ∀ G' H', Gw G H G' H' → Q b H'
def tAF (W : Wd) (F : FL) : TA := fun σ H Q => ∃ B G ρ ds, Rp W B G H ρ σ ∧ F ρ = some ds ∧ ∀ vs G' H', Gw G H G' H' → Reps W G' ds vs → Q vs H'
def tAB (W : Wd) (F : FL) : TA := fun σ H Q => ∃ B G ρ ds, Rp W B G H ρ σ ∧ F ρ = some ds ∧ ∀ vs G' H', Gw G H G' H' → Bors W G' H' ds vs → Q vs H'
abbrev PF (X : Cx) (e : Expr) (F : FE) : Prop := PE X e (tF X.wd F)
abbrev PB (X : Cx) (e : Expr) (F : FE) : Prop := PE X e (tB X.wd F)
abbrev PN (X : Cx) (e : Expr) (F : FE) : Prop := PE X e (tN X.wd F)
abbrev PTD (X : Cx) (e : Expr) (F : FT) : Prop := PT X e (tT X.wd F)
abbrev PWD (X : Cx) (e : Expr) (F : FT) : Prop := PW X e (tT X.wd F)
abbrev PAF (X : Cx) (es : List Expr) (F : FL) : Prop := PA X es (tAF X.wd F)
abbrev PAB (X : Cx) (es : List Expr) (F : FL) : Prop := PA X es (tAB X.wd F)

section
variable {X : Cx} {e : Expr} {F : FE}
theorem PE.weak {t t' : TE} (h : PE X e t) (i : ∀ σ H Q, t' σ H Q → t σ H Q) : PE X e t' := ⟨fun pins s σ H Q I q => h.run pins s σ H Q I (i σ H Q q)⟩
theorem PT.weak {t t' : TT} (h : PT X e t) (i : ∀ σ H Q, t' σ H Q → t σ H Q) : PT X e t' := ⟨fun pins s σ H Q I q => h.run pins s σ H Q I (i σ H Q q)⟩
theorem PW.weak {t t' : TT} (h : PW X e t) (i : ∀ σ H Q, t' σ H Q → t σ H Q) : PW X e t' := ⟨fun wh pins s σ H Q I q => h.run wh pins s σ H Q I (i σ H Q q)⟩
theorem PA.weak {es : List Expr} {t t' : TA} (h : PA X es t) (i : ∀ σ H Q, t' σ H Q → t σ H Q) : PA X es t' := ⟨fun pos pins s σ H Q I q => h.run pos pins s σ H Q I (i σ H Q q)⟩
theorem PS.weak {st : Stmt} {t t' : TS} (h : PS X st t) (i : ∀ D σ H, t' D σ H → t D σ H) : PS X st t' := ⟨fun pins s σ H D I q => h.run pins s σ H D I (i D σ H q)⟩
theorem PSs.weak {st : List Stmt} {t t' : TS} (h : PSs X st t) (i : ∀ D σ H, t' D σ H → t D σ H) : PSs X st t' := ⟨fun pins s σ H D I q => h.run pins s σ H D I (i D σ H q)⟩

theorem f_b (h : PF X e F) : PB X e F := PE.weak h fun σ H Q ⟨B, G, ρ, d, r, k, q⟩ => ⟨B, G, ρ, d, r, k, fun v G' H' w z => q v G' H' w (.inl z)⟩
theorem n_b (h : PN X e F) : PB X e F := PE.weak h fun σ H Q ⟨B, G, ρ, d, r, k, q⟩ => ⟨B, G, ρ, d, r, k, fun v G' H' w z => by
  obtain ⟨p, e, _, _, t⟩ := z
  exact q v G' H' w (.inr ⟨p, e, t⟩)⟩
theorem upd_same_of {H : Hp} {a : Addr} {o : HO} (h : H a = some o) : upd H a o = H := by
  funext b
  by_cases e : b = a
  · subst e; rw [upd_same, h]
  · rw [upd_ne e]
theorem Gw.freeze {G H G' H' : Hp} {p : Addr} {o u : HO} (w : Gw G H G' H') (hp : H p = none) (hg : G' p = none) (ho : H' p = some o) : Gw G H (upd G' p u) (upd H' p u) where
  g := w.g.trans fun b z e => by rw [upd_ne (ne_of_none e hg)]; exact e
  h := fun b z e => by rw [upd_ne (ne_of_none e hp)]; exact w.h b z e
  gh := fun b z e => by
    by_cases hb : b = p
    · subst hb; rw [upd_same] at e ⊢; exact e
    · rw [upd_ne hb] at e ⊢; exact w.gh b z e
  new := fun b z e => by
    by_cases hb : b = p
    · subst hb; exact .inr (.inl hp)
    · rw [upd_ne hb] at e; exact w.new b z e
theorem same_upd {G : Hp} {p : Addr} {u : HO} (hg : G p = none) : Same G (upd G p u) := fun b z e => by rw [upd_ne (ne_of_none e hg)]; exact e
/-- what is new is frozen: a dict is locked for good -/
theorem n_f (h : PN X e F) : PF X e F := by
  refine ⟨fun pins s σ H Q I q => ?_⟩
  obtain ⟨B, G, ρ, d, r, k, q⟩ := q
  refine thn (h.run pins s σ H (fun v H' => ∃ G', Gw G H G' H' ∧ Frs X.wd G H G' H' d v) I ⟨B, G, ρ, d, r, k, fun v G' H' w z => ⟨G', w, z⟩⟩) fun u s' ⟨v, H', I', rv, G', w, p, ev, hp, hg, t⟩ => ?_
  subst ev
  cases t with
  | @lst _ xs _ h1 h2 =>
    have w' := w.freeze (u := .lst xs) hp hg h1
    rw [upd_same_of h1] at w'
    exact ⟨_, H', I', rv, q _ _ H' w' (.lst upd_same (h2.mono (same_upd hg)))⟩
  | dcK h1 h2 h3 =>
    obtain ⟨od, I2⟩ := I'.lock h1 True.intro
    exact ⟨_, _, I2, rv, q _ _ _ (w.freeze hp hg h1) (.dcK upd_same h2 (h3.mono (same_upd hg)))⟩
  | dcT h1 h2 h3 =>
    obtain ⟨od, I2⟩ := I'.lock h1 True.intro
    exact ⟨_, _, I2, rv, q _ _ _ (w.freeze hp hg h1) (.dcT upd_same h2 (h3.mono (same_upd hg)))⟩
  | @dcN _ kv _ h1 h2 h3 h4 =>
    have w' := w.freeze (u := .ext (rawN X.wd p kv)) hp hg h1
    rw [upd_same_of h1] at w'
    exact ⟨_, H', I', rv, q _ _ H' w' (.dcN upd_same h2 (h3.mono (same_upd hg)) (h4.mono (same_upd hg)))⟩
end

/-! ### names and constants -/
def eV (i : Nat) : FE := fun ρ => match ρ[i]? with
  | some (some (.shr d)) => some d
  | _ => none
/-- read in place -/
def eW (i : Nat) : FE := fun ρ => match ρ[i]? with
  | some (some (.shr d)) => some d
  | some (some (.own d)) => some d
  | _ => none
def eC (d : D) : FE := fun _ => some d
section
variable {X : Cx}
theorem f_v (i : Nat) {x : Str} {pos : Pos} (hN : X.N[i]? = some x := by rfl) (hv : Vis X.env.scope x := by first | exact Or.inl rfl | exact Or.inr (Or.inl rfl) | exact Or.inr (Or.inr rfl)) (hd : (x == ("__debug__" : Str)) = false := by decide)
    (hcd : (x == ("__classdict__" : Str)) = false := by decide) : PF X (.Name x pos) (eV i) := by
  refine PE.weak (pe_var (i := i) hN hv hd hcd) fun σ H Q ⟨B, G, ρ, d, r, k, q⟩ => ?_
  unfold eV at k
  split at k
  · rename_i z
    cases k
    obtain ⟨v, h1, h2⟩ := r.shr i _ z
    exact ⟨v, h1, q v G H (Gw.refl r.gh) h2⟩
  · cases k
theorem b_v (i : Nat) {x : Str} {pos : Pos} (hN : X.N[i]? = some x := by rfl) (hv : Vis X.env.scope x := by first | exact Or.inl rfl | exact Or.inr (Or.inl rfl) | exact Or.inr (Or.inr rfl)) (hd : (x == ("__debug__" : Str)) = false := by decide)
    (hcd : (x == ("__classdict__" : Str)) = false := by decide) : PB X (.Name x pos) (eW i) := by
  refine PE.weak (pe_var (i := i) hN hv hd hcd) fun σ H Q ⟨B, G, ρ, d, r, k, q⟩ => ?_
  unfold eW at k
  split at k
  · rename_i z
    cases k
    obtain ⟨v, h1, h2⟩ := r.shr i _ z
    exact ⟨v, h1, q v G H (Gw.refl r.gh) (.inl h2)⟩
  · rename_i z
    cases k
    obtain ⟨a, h1, h2, h3, h4⟩ := r.own i _ z
    exact ⟨_, h1, q _ G H (Gw.refl r.gh) (.inr ⟨a, rfl, h4⟩)⟩
  · cases k
theorem f_c {e : Expr} {d : D} {v : V} (h : PE X e (tC v)) (hr : ∀ G, Rep X.wd G d v) : PF X e (eC d) := PE.weak h fun σ H Q ⟨B, G, ρ, d', r, k, q⟩ => by
  cases k
  exact q v G H (Gw.refl r.gh) (hr G)
theorem f_int {i j pos} : PF X (.Constant (.int i) j pos) (eC (.int i)) := f_c pe_int fun _ => .int _
theorem f_bl {b j pos} : PF X (.Constant (.bool b) j pos) (eC (.bool b)) := f_c pe_bl fun _ => .bl _
theorem f_non {j pos} : PF X (.Constant .none j pos) (eC .none) := f_c pe_non fun _ => .non
theorem f_str {x j pos} : PF X (.Constant (.str x) j pos) (eC (.str x)) := f_c pe_str fun _ => .str _
/-- a text or an int that stands at the top of the module -/
theorem f_glS {x : Str} {pos : Pos} {z : Str} {t : Tok} (hg : Gl X x) (hm : X.mg x = some (.str z t)) (hd : (x == ("__debug__" : Str)) = false := by decide) : PF X (.Name x pos) (eC (.str z)) := f_c (pe_glob (v := V.str z) hg hm ⟨_, rfl⟩ hd) fun _ => .str _
theorem f_glI {x : Str} {pos : Pos} {z : Int} {t : Tok} (hg : Gl X x) (hm : X.mg x = some (.int z t)) (hd : (x == ("__debug__" : Str)) = false := by decide) : PF X (.Name x pos) (eC (.int z)) := f_c (pe_glob (v := V.int z) hg hm ⟨_, rfl⟩ hd) fun _ => .int _

/-! ### two and one in a row -/
def o1 (f : D → Option D) (a : FE) : FE := fun ρ => (a ρ).bind f
def o2 (f : D → D → Option D) (a b : FE) : FE := fun ρ => (a ρ).bind fun x => (b ρ).bind fun y => f x y
/-- an operation by values does what f says of data -/
def OpD (W : Wd) (r : V → V → Hp → VK → Prop) (f : D → D → Option D) : Prop :=
  ∀ (x y d : D) (v u : V) (G H : Hp) (Q : VK), f x y = some d → Bor W G H x v → Bor W G H y u → Same G H → (∀ z G' H', Gw G H G' H' → Rep W G' d z → Q z H') → r v u H Q
theorem two {a b : Expr} {Fa Fb : FE} {r : V → V → Hp → VK → Prop} {f : D → D → Option D} (hf : OpD X.wd r f) {σ : St} {H : Hp} {Q : VK} (h : tF X.wd (o2 f Fa Fb) σ H Q) : tOp r (tB X.wd Fa) (tB X.wd Fb) σ H Q := by
  obtain ⟨B, G, ρ, d, rp, k, q⟩ := h
  obtain ⟨x, hx, k⟩ := Option.bind_eq_some_iff.mp k
  obtain ⟨y, hy, k⟩ := Option.bind_eq_some_iff.mp k
  refine ⟨B, G, ρ, x, rp, hx, fun v G1 H1 w1 b1 => ⟨B, G1, ρ, y, rp.step w1, hy, fun u G2 H2 w2 b2 => ?_⟩⟩
  exact hf x y d v u G2 H2 Q k (b1.step w2) b2 w2.gh fun z G3 H3 w3 rz => q z G3 H3 ((w1.trans w2).trans w3) rz
theorem f_op {op : Operator} {a b : Expr} {pos : Pos} {Fa Fb : FE} {r : R2} {f : D → D → Option D} (ho : OpR X (binaryOp op) r) (hf : OpD X.wd r f) (ha : PB X a Fa) (hb : PB X b Fb) : PF X (.BinOp a op b pos) (o2 f Fa Fb) :=
  PE.weak (pe_op ho ha hb) fun _ _ _ h => two (a := a) (b := b) hf h
theorem f_cmp {op : CmpOp} {a b : Expr} {pos : Pos} {Fa Fb : FE} {r : R2} {f : D → D → Option D} (ho : OpR X (compareOp op) r) (hf : OpD X.wd r f) (ha : PB X a Fa) (hb : PB X b Fb) (hm : behindInMarks op b = false) :
    PF X (.Compare a [op] [b] pos) (o2 f Fa Fb) := PE.weak (pe_cmpR ho ha hb hm) fun _ _ _ h => two (a := a) (b := b) hf h
def asB : D → Option Bool
  | .bool b => some b
  | _ => none
def toT (F : FE) : FT := fun ρ => (F ρ).bind asB
def ofT (F : FT) : FE := fun ρ => (F ρ).map .bool
theorem t_cmp {op : CmpOp} {a b : Expr} {pos : Pos} {Fa Fb : FE} {r : R2} {f : D → D → Option D} (ho : OpR X (compareOp op) r) (hf : OpD X.wd r f) (ha : PB X a Fa) (hb : PB X b Fb) (hm : behindInMarks op b = false) :
    PTD X (.Compare a [op] [b] pos) (toT (o2 f Fa Fb)) := PT.weak (pt_cmpR ho ha hb hm) fun σ H Q h => by
  obtain ⟨B, G, ρ, c, rp, k, q⟩ := h
  obtain ⟨d, hd, k⟩ := Option.bind_eq_some_iff.mp k
  refine two (a := a) (b := b) hf (Q := fun x H' => ∃ k, x = .bl k ∧ Q k H') ⟨B, G, ρ, d, rp, hd, fun v G' H' w rv => ?_⟩
  cases d <;> first | cases k | skip
  cases rv
  exact ⟨_, rfl, q G' H' w⟩
/-- an expression that gives True or False, as a test -/
theorem t_val {e : Expr} {F : FE} (h : PF X e F) (he : ∀ whole, isTrue e X.env whole = (do let v ← whole; standAt e.pos; holding [v] (truthy v)) := by intro _; rfl) : PTD X e (toT F) := PT.weak (pt_val h he) fun σ H Q h => by
  obtain ⟨B, G, ρ, c, rp, k, q⟩ := h
  obtain ⟨d, hd, k⟩ := Option.bind_eq_some_iff.mp k
  refine ⟨B, G, ρ, d, rp, hd, fun v G' H' w rv => ?_⟩
  cases d <;> first | cases k | skip
  cases rv
  exact ⟨_, rfl, q G' H' w⟩

/-! ### and, or, not -/
def tAndF (a b : FT) : FT := fun ρ => (a ρ).bind fun x => if x = true then b ρ else some false
def tOrF (a b : FT) : FT := fun ρ => (a ρ).bind fun x => if x = true then some true else b ρ
def tNotF (a : FT) : FT := fun ρ => (a ρ).map fun x => !x
variable {a b : Expr} {rest : List Expr} {pos : Pos} {Fa Fb : FT}
theorem w_and1 (ha : PTD X a Fa) : PWD X (.BoolOp .And [a] pos) Fa := pw_and1 ha
theorem w_or1 (ha : PTD X a Fa) : PWD X (.BoolOp .Or [a] pos) Fa := pw_or1 ha
theorem w_and (ha : PTD X a Fa) (hb : PWD X (.BoolOp .And (b :: rest) pos) Fb) : PWD X (.BoolOp .And (a :: b :: rest) pos) (tAndF Fa Fb) := PW.weak (pw_and ha hb) fun σ H Q ⟨B, G, ρ, c, rp, k, q⟩ => by
  obtain ⟨x, hx, k⟩ := Option.bind_eq_some_iff.mp k
  refine ⟨B, G, ρ, x, rp, hx, fun G1 H1 w1 => ?_⟩
  by_cases e : x = true
  · rw [if_pos e] at k ⊢
    exact ⟨B, G1, ρ, c, rp.step w1, k, fun G2 H2 w2 => q G2 H2 (w1.trans w2)⟩
  · rw [if_neg e] at k ⊢
    cases k
    exact q G1 H1 w1
theorem w_or (ha : PTD X a Fa) (hb : PWD X (.BoolOp .Or (b :: rest) pos) Fb) : PWD X (.BoolOp .Or (a :: b :: rest) pos) (tOrF Fa Fb) := PW.weak (pw_or ha hb) fun σ H Q ⟨B, G, ρ, c, rp, k, q⟩ => by
  obtain ⟨x, hx, k⟩ := Option.bind_eq_some_iff.mp k
  refine ⟨B, G, ρ, x, rp, hx, fun G1 H1 w1 => ?_⟩
  by_cases e : x = true
  · rw [if_pos e] at k ⊢
    cases k
    exact q G1 H1 w1
  · rw [if_neg e] at k ⊢
    exact ⟨B, G1, ρ, c, rp.step w1, k, fun G2 H2 w2 => q G2 H2 (w1.trans w2)⟩
theorem t_w {e : Expr} {F : FT} (h : PWD X e F) : PTD X e F := h.pt
theorem t_not (ha : PTD X a Fa) : PTD X (.UnaryOp .Not a pos) (tNotF Fa) := PT.weak (pt_not ha) fun σ H Q ⟨B, G, ρ, c, rp, k, q⟩ => by
  obtain ⟨x, hx, k⟩ := Option.map_eq_some_iff.mp k
  subst k
  exact ⟨B, G, ρ, x, rp, hx, fun G1 H1 w1 => q G1 H1 w1⟩
def eAnd (a b : FE) : FE := fun ρ => ((a ρ).bind asB).bind fun x => if x = true then b ρ else some (.bool false)
def eOr (a b : FE) : FE := fun ρ => ((a ρ).bind asB).bind fun x => if x = true then some (.bool true) else b ρ
def eNot (a : FE) : FE := fun ρ => ((a ρ).bind asB).map fun x => .bool (!x)
theorem f_one {op} {F : FE} (h : PF X a F) : PF X (.BoolOp op [a] pos) F := pe_one h
theorem f_and {F F' : FE} (ha : PF X a F) (hb : PF X (.BoolOp .And (b :: rest) pos) F') : PF X (.BoolOp .And (a :: b :: rest) pos) (eAnd F F') := PE.weak (pe_and ha hb) fun σ H Q ⟨B, G, ρ, d, rp, k, q⟩ => by
  obtain ⟨x, hx, k⟩ := Option.bind_eq_some_iff.mp k
  obtain ⟨d', hd, hx⟩ := Option.bind_eq_some_iff.mp hx
  refine ⟨B, G, ρ, d', rp, hd, fun v G1 H1 w1 rv => ?_⟩
  cases d' <;> first | cases hx | skip
  cases rv
  refine ⟨_, rfl, ?_⟩
  by_cases e : x = true
  · rw [if_pos e] at k ⊢
    exact ⟨B, G1, ρ, d, rp.step w1, k, fun v G2 H2 w2 => q v G2 H2 (w1.trans w2)⟩
  · rw [if_neg e] at k ⊢
    cases k
    exact q _ G1 H1 w1 (.bl _)
theorem f_or {F F' : FE} (ha : PF X a F) (hb : PF X (.BoolOp .Or (b :: rest) pos) F') : PF X (.BoolOp .Or (a :: b :: rest) pos) (eOr F F') := PE.weak (pe_or ha hb) fun σ H Q ⟨B, G, ρ, d, rp, k, q⟩ => by
  obtain ⟨x, hx, k⟩ := Option.bind_eq_some_iff.mp k
  obtain ⟨d', hd, hx⟩ := Option.bind_eq_some_iff.mp hx
  refine ⟨B, G, ρ, d', rp, hd, fun v G1 H1 w1 rv => ?_⟩
  cases d' <;> first | cases hx | skip
  cases rv
  refine ⟨_, rfl, ?_⟩
  by_cases e : x = true
  · rw [if_pos e] at k ⊢
    cases k
    exact q _ G1 H1 w1 (.bl _)
  · rw [if_neg e] at k ⊢
    exact ⟨B, G1, ρ, d, rp.step w1, k, fun v G2 H2 w2 => q v G2 H2 (w1.trans w2)⟩
theorem f_not {F : FE} (ha : PF X a F) : PF X (.UnaryOp .Not a pos) (eNot F) := PE.weak (pe_not ha) fun σ H Q ⟨B, G, ρ, d, rp, k, q⟩ => by
  obtain ⟨x, hx, k⟩ := Option.map_eq_some_iff.mp k
  obtain ⟨d', hd, hx⟩ := Option.bind_eq_some_iff.mp hx
  subst k
  refine ⟨B, G, ρ, d', rp, hd, fun v G1 H1 w1 rv => ?_⟩
  cases d' <;> first | cases hx | skip
  cases rv
  exact ⟨_, rfl, q _ G1 H1 w1 (.bl _)⟩
def eIf (c : FT) (a b : FE) : FE := fun ρ => (c ρ).bind fun x => if x = true then a ρ else b ρ
theorem f_if {c : Expr} {Fc : FT} {F F' : FE} (hc : PTD X c Fc) (ha : PF X a F) (hb : PF X b F') : PF X (.IfExp c a b pos) (eIf Fc F F') := PE.weak (pe_ifExp hc ha hb) fun σ H Q ⟨B, G, ρ, d, rp, k, q⟩ => by
  obtain ⟨x, hx, k⟩ := Option.bind_eq_some_iff.mp k
  refine ⟨B, G, ρ, x, rp, hx, fun G1 H1 w1 => ?_⟩
  by_cases e : x = true
  · rw [if_pos e] at k ⊢
    exact ⟨B, G1, ρ, d, rp.step w1, k, fun v G2 H2 w2 => q v G2 H2 (w1.trans w2)⟩
  · rw [if_neg e] at k ⊢
    exact ⟨B, G1, ρ, d, rp.step w1, k, fun v G2 H2 w2 => q v G2 H2 (w1.trans w2)⟩

/-! ### arguments -/
def lN : FL := fun _ => some []
def lC (a : FE) (l : FL) : FL := fun ρ => (a ρ).bind fun x => (l ρ).map fun xs => x :: xs
variable {es : List Expr} {F : FE} {L : FL}
theorem a_nil : PAF X [] lN := PA.weak pa_nil fun σ H Q ⟨B, G, ρ, d, rp, k, q⟩ => by
  cases k
  exact q [] G H (Gw.refl rp.gh) .nil
theorem a_cons (ha : PF X a F) (hr : PAF X es L) (hs : starEach (a :: es) X.env = (false, eval a X.env) :: starEach es X.env := by rfl) : PAF X (a :: es) (lC F L) := PA.weak (pa_cons ha hr hs) fun σ H Q ⟨B, G, ρ, d, rp, k, q⟩ => by
  obtain ⟨x, hx, k⟩ := Option.bind_eq_some_iff.mp k
  obtain ⟨xs, hxs, k⟩ := Option.map_eq_some_iff.mp k
  subst k
  refine ⟨B, G, ρ, x, rp, hx, fun v G1 H1 w1 rv => ⟨B, G1, ρ, xs, rp.step w1, hxs, fun vs G2 H2 w2 rvs => ?_⟩⟩
  exact q _ G2 H2 (w1.trans w2) (.cons (rv.mono w2.g) rvs)
theorem ab_nil : PAB X [] lN := PA.weak pa_nil fun σ H Q ⟨B, G, ρ, d, rp, k, q⟩ => by
  cases k
  exact q [] G H (Gw.refl rp.gh) .nil
theorem ab_cons (ha : PB X a F) (hr : PAB X es L) (hs : starEach (a :: es) X.env = (false, eval a X.env) :: starEach es X.env := by rfl) : PAB X (a :: es) (lC F L) := PA.weak (pa_cons ha hr hs) fun σ H Q ⟨B, G, ρ, d, rp, k, q⟩ => by
  obtain ⟨x, hx, k⟩ := Option.bind_eq_some_iff.mp k
  obtain ⟨xs, hxs, k⟩ := Option.map_eq_some_iff.mp k
  subst k
  refine ⟨B, G, ρ, x, rp, hx, fun v G1 H1 w1 rv => ⟨B, G1, ρ, xs, rp.step w1, hxs, fun vs G2 H2 w2 rvs => ?_⟩⟩
  exact q _ G2 H2 (w1.trans w2) (.cons (rv.step w2) rvs)
end

/-! ### statements -/
inductive Out where
  | nx (ρ : Env) | rt (d : D) | bk (ρ : Env) | ct (ρ : Env)
abbrev FS := Env → Option Out
def After (W : Wd) (B G : Hp) (E : Ends) : Out → Prop
  | .nx ρ => ∀ σ G' H', Gs B G G' → Rp W B G' H' ρ σ → E.nx σ H'
  | .rt d => ∀ v G' H', Gs B G G' → Same B H' → Same G' H' → Rep W G' d v → E.rt v H'
  | .bk ρ => ∀ σ G' H', Gs B G G' → Rp W B G' H' ρ σ → E.bk σ H'
  | .ct ρ => ∀ σ G' H', Gs B G G' → Rp W B G' H' ρ σ → E.ct σ H'
def tS (W : Wd) (F : FS) : TS := fun E σ H => ∃ B G ρ o, Rp W B G H ρ σ ∧ F ρ = some o ∧ After W B G E o
abbrev PSD (X : Cx) (st : Stmt) (F : FS) : Prop := PS X st (tS X.wd F)
abbrev PSsD (X : Cx) (st : List Stmt) (F : FS) : Prop := PSs X st (tS X.wd F)
theorem After.from {W : Wd} {B G G1 : Hp} {E : Ends} {o : Out} (s : Gs B G G1) (a : After W B G E o) : After W B G1 E o := by
  cases o with
  | nx ρ => exact fun σ G' H' g r => a σ G' H' (s.trans g) r
  | rt d => exact fun v G' H' g b z r => a v G' H' (s.trans g) b z r
  | bk ρ => exact fun σ G' H' g r => a σ G' H' (s.trans g) r
  | ct ρ => exact fun σ G' H' g r => a σ G' H' (s.trans g) r
def sNx : FS := fun ρ => some (.nx ρ)
def sSeq (a b : FS) : FS := fun ρ => (a ρ).bind fun o => match o with
  | .nx ρ' => b ρ'
  | o => some o
section
variable {X : Cx} {st : Stmt} {rest : List Stmt} {F F' : FS} {pos : Pos}
theorem ss_nil : PSsD X [] sNx := PSs.weak pss_nil fun E σ H ⟨B, G, ρ, o, r, k, a⟩ => by
  cases k
  exact a σ G H Gs.refl r
theorem ss_cons (h1 : PSD X st F) (h2 : PSsD X rest F') : PSsD X (st :: rest) (sSeq F F') := PSs.weak (pss_cons h1 h2) fun E σ H ⟨B, G, ρ, o, r, k, a⟩ => by
  obtain ⟨o1, h1, k⟩ := Option.bind_eq_some_iff.mp k
  refine ⟨B, G, ρ, o1, r, h1, ?_⟩
  cases o1 with
  | nx ρ' => exact fun σ' G' H' g r' => ⟨B, G', ρ', o, r', k, a.from g⟩
  | rt d => cases k; exact a
  | bk ρ' => cases k; exact a
  | ct ρ' => cases k; exact a
theorem ss_one (h1 : PSD X st F) : PSsD X [st] F := pss_one h1
theorem s_pass : PSD X (.Pass pos) sNx := PS.weak ps_pass fun E σ H ⟨B, G, ρ, o, r, k, a⟩ => by
  cases k
  exact a σ G H Gs.refl r
def sBk : FS := fun ρ => some (.bk ρ)
def sCt : FS := fun ρ => some (.ct ρ)
theorem s_break : PSD X (.Break pos) sBk := PS.weak ps_break fun E σ H ⟨B, G, ρ, o, r, k, a⟩ => by
  cases k
  exact a σ G H Gs.refl r
theorem s_continue : PSD X (.Continue pos) sCt := PS.weak ps_continue fun E σ H ⟨B, G, ρ, o, r, k, a⟩ => by
  cases k
  exact a σ G H Gs.refl r
def sNever : FS := fun _ => none
theorem s_never : PSD X st sNever := PS.weak ps_never fun E σ H ⟨B, G, ρ, o, r, k, a⟩ => by cases k
theorem ss_never : PSsD X rest sNever := PSs.weak pss_never fun E σ H ⟨B, G, ρ, o, r, k, a⟩ => by cases k
def sRet (F : FE) : FS := fun ρ => (F ρ).map .rt
theorem s_ret {e : Expr} {F : FE} (h : PF X e F) : PSD X (.Return (some e) pos) (sRet F) := PS.weak (ps_ret h) fun E σ H ⟨B, G, ρ, o, r, k, a⟩ => by
  obtain ⟨d, hd, k⟩ := Option.map_eq_some_iff.mp k
  subst k
  exact ⟨B, G, ρ, d, r, hd, fun v G' H' w rv => a v G' H' (w.gs r.bh) (r.bh.trans w.h) w.gh rv⟩
def sRetN : FS := fun _ => some (.rt .none)
theorem s_retN : PSD X (.Return none pos) sRetN := PS.weak ps_retN fun E σ H ⟨B, G, ρ, o, r, k, a⟩ => by
  cases k
  exact a _ G H Gs.refl r.bh r.gh .non
def sEx (F : FE) : FS := fun ρ => (F ρ).map fun _ => .nx ρ
theorem s_expr {e : Expr} {F : FE} (h : PB X e F) (hs : swapsWith e none pos.line X.env = pure false := by rfl) : PSD X (.Expr e pos) (sEx F) := PS.weak (ps_expr h hs) fun E σ H ⟨B, G, ρ, o, r, k, a⟩ => by
  obtain ⟨d, hd, k⟩ := Option.map_eq_some_iff.mp k
  subst k
  exact ⟨B, G, ρ, d, r, hd, fun v G' H' w rv => a σ G' H' (w.gs r.bh) (r.step w)⟩
def sIf (c : FT) (a b : FS) : FS := fun ρ => (c ρ).bind fun x => if x = true then a ρ else b ρ
theorem s_if {c : Expr} {a b : List Stmt} {Fc : FT} (hc : PTD X c Fc) (ha : PSsD X a F) (hb : PSsD X b F') : PSD X (.If c a b pos) (sIf Fc F F') := PS.weak (ps_if hc ha hb) fun E σ H ⟨B, G, ρ, o, r, k, a⟩ => by
  obtain ⟨x, hx, k⟩ := Option.bind_eq_some_iff.mp k
  refine ⟨B, G, ρ, x, r, hx, fun G1 H1 w1 => ?_⟩
  by_cases e : x = true
  · rw [if_pos e] at k ⊢
    exact ⟨B, G1, ρ, o, r.step w1, k, a.from (w1.gs r.bh)⟩
  · rw [if_neg e] at k ⊢
    exact ⟨B, G1, ρ, o, r.step w1, k, a.from (w1.gs r.bh)⟩

/-! ### targets -/
abbrev FG := D → Env → Option Env
def tG (W : Wd) (F : FG) : TG := fun v σ H Q => ∃ B G ρ d ρ', Rp W B G H ρ σ ∧ Rep W G d v ∧ F d ρ = some ρ' ∧ ∀ σ' G' H', Gs B G G' → Rp W B G' H' ρ' σ' → Q σ' H'
def tGs (W : Wd) (F : List D → Env → Option Env) : TGs := fun vs σ H Q => ∃ B G ρ ds ρ', Rp W B G H ρ σ ∧ Reps W G ds vs ∧ F ds ρ = some ρ' ∧ ∀ σ' G' H', Gs B G G' → Rp W B G' H' ρ' σ' → Q σ' H'
abbrev PGD (X : Cx) (e : Expr) (F : FG) : Prop := PG X e (tG X.wd F)
abbrev PGsD (X : Cx) (es : List Expr) (F : List D → Env → Option Env) : Prop := PGs X es (tGs X.wd F)
theorem PG.weak {e : Expr} {t t' : TG} (h : PG X e t) (i : ∀ v σ H Q, t' v σ H Q → t v σ H Q) : PG X e t' := ⟨fun pins s σ H v u Q I rv q => h.run pins s σ H v u Q I rv (i v σ H Q q)⟩
theorem PGs.weak {e : List Expr} {t t' : TGs} (h : PGs X e t) (i : ∀ v σ H Q, t' v σ H Q → t v σ H Q) : PGs X e t' := ⟨fun pins s σ H v u Q I rv q => h.run pins s σ H v u Q I rv (i v σ H Q q)⟩
def gN (i : Nat) : FG := fun d ρ => some (ρ.set i (some (.shr d)))
theorem g_name (i : Nat) {x : Str} (hN : X.N.Nodup) (hi : X.N[i]? = some x := by rfl) (hx : Loc X.env.scope x := by first | exact Or.inl rfl | exact Or.inr rfl) (hf : X.fn x = true ∨ X.env.scope.names.lookup x = some .local := by first | exact .inl rfl | exact .inr rfl | assumption) : PGD X (.Name x pos) (gN i) :=
  PG.weak (pg_name (i := i) hN hi hx hf) fun v σ H Q ⟨B, G, ρ, d, ρ', r, rv, k, q⟩ => by
    cases k
    exact q _ G H Gs.refl (r.set_shr rv)
def gsN : List D → Env → Option Env := fun ds ρ => match ds with
  | [] => some ρ
  | _ => none
def gsC (g : FG) (h : List D → Env → Option Env) : List D → Env → Option Env := fun ds ρ => match ds with
  | d :: r => (g d ρ).bind fun ρ' => h r ρ'
  | _ => none
theorem gs_nil : PGsD X [] gsN := PGs.weak pgs_nil fun vs σ H Q ⟨B, G, ρ, ds, ρ', r, rv, k, q⟩ => by
  cases rv with
  | nil => cases k; exact ⟨rfl, q _ G H Gs.refl r⟩
  | cons _ _ => cases k
end
end DV

set_option Elab.async false
set_option linter.all false
set_option maxRecDepth 100000
/-! DVc: targets, assignments, what a slot owns and its changes, loops, defs and their calls. -/
noncomputable section
namespace DV
open PySem PySem.Spec PyProof.Rows L2

section
variable {X : Cx} {st : Stmt} {rest : List Stmt} {F F' : FS} {pos : Pos}
/-! ### targets of several names -/
theorem gs_cons {e : Expr} {es : List Expr} {g : FG} {h : List D → Env → Option Env} (h1 : PGD X e g) (h2 : PGsD X es h)
    (hs : (assignEach (e :: es) X.env).map (·.2) = assign e X.env :: (assignEach es X.env).map (·.2) := by rfl) : PGsD X (e :: es) (gsC g h) :=
  PGs.weak (pgs_cons h1 h2 hs) fun vs σ H Q ⟨B, G, ρ, ds, ρ', r, rv, k, q⟩ => by
    cases rv with
    | nil => cases k
    | @cons d ds v vs r1 r2 =>
      obtain ⟨ρ1, k1, k2⟩ := Option.bind_eq_some_iff.mp k
      exact ⟨v, vs, rfl, B, G, ρ, d, ρ1, r, r1, k1, fun σ' G' H' gs r' => ⟨B, G', ρ1, ds, ρ', r', r2.mono gs.g, k2, fun σ2 G2 H2 gs2 rr => q σ2 G2 H2 (gs.trans gs2) rr⟩⟩
/-- (a, b, ..) = a tuple of n items -/
def gT (n : Nat) (h : List D → Env → Option Env) : FG := fun d ρ => match d with
  | .tuple ds => if ds.length = n then h ds ρ else none
  | _ => none
theorem g_tup {es : List Expr} {k : Nat} {n : Nat} {h : List D → Env → Option Env} (hc : X.calm = true) (hh : PGsD X es h)
    (hn : (assignEach es X.env).length = n := by rfl) (hst : (assignEach es X.env).findIdx? (·.1) = none := by rfl) : PGD X (.Tuple es k pos) (gT n h) :=
  PG.weak (pg_tup hc hh hn hst) fun v σ H Q ⟨B, G, ρ, d, ρ', r, rv, k, q⟩ => by
    unfold gT at k
    split at k
    · split at k
      · rename_i ds hl
        cases rv with
        | tup h1 h2 => exact ⟨_, _, rfl, SqT.of (r.gh _ _ h1), by rw [← h2.length]; exact hl, B, G, ρ, _, ρ', r, h2, k, q⟩
      · cases k
    · cases k

/-! ### assignments -/
def sAsg (F : FE) (g : FG) : FS := fun ρ => (F ρ).bind fun d => (g d ρ).map .nx
theorem s_asg {tg e : Expr} {Fe : FE} {g : FG} (he : PF X e Fe) (hg : PGD X tg g) (hs : swapsWithSole [tg] e pos.line X.env = pure false := by rfl) (hw : swappedStores [tg] e X.env = pure none := by rfl)
    (h1 : (assignEach [tg] X.env).map (·.2) = [assign tg X.env] := by rfl) : PSD X (.Assign [tg] e pos) (sAsg Fe g) :=
  PS.weak (ps_asg he hg hs hw h1) fun E σ H ⟨B, G, ρ, o, r, k, a⟩ => by
    obtain ⟨d, hd, k⟩ := Option.bind_eq_some_iff.mp k
    obtain ⟨ρ', hg, k⟩ := Option.map_eq_some_iff.mp k
    subst k
    exact ⟨B, G, ρ, d, r, hd, fun v G' H' w rv => ⟨B, G', ρ, d, ρ', r.step w, rv, hg, fun σ' G2 H2 gs r' => a σ' G2 H2 ((w.gs r.bh).trans gs) r'⟩⟩
/-- a new thing is owned -/
def sOwn (i : Nat) (F : FE) : FS := fun ρ => (F ρ).map fun d => .nx (ρ.set i (some (.own d)))
theorem s_own (i : Nat) {x : Str} {e : Expr} {pos' : Pos} {Fe : FE} (he : PN X e Fe) (hN : X.N.Nodup) (hi : X.N[i]? = some x := by rfl) (hx : Loc X.env.scope x := by first | exact Or.inl rfl | exact Or.inr rfl)
    (hs : swapsWith e (some (.Name x pos')) pos.line X.env = pure false := by rfl) (hf : X.fn x = true ∨ X.env.scope.names.lookup x = some .local := by first | exact .inl rfl | exact .inr rfl | assumption) : PSD X (.Assign [.Name x pos'] e pos) (sOwn i Fe) :=
  PS.weak (ps_set (i := i) hN hi hx he hs hf) fun E σ H ⟨B, G, ρ, o, r, k, a⟩ => by
    obtain ⟨d, hd, k⟩ := Option.map_eq_some_iff.mp k
    subst k
    refine ⟨B, G, ρ, d, r, hd, fun v G' H' w ⟨p, ev, hp, hg, t⟩ => ?_⟩
    subst ev
    refine a _ G' H' (w.gs r.bh) ((r.step w).set_own (r.bh.free hp) hg t fun j e' hj hσ => ?_)
    obtain ⟨b, h1, h2, h3, h4⟩ := r.own j e' hj
    rw [hσ] at h1
    cases h1
    obtain ⟨o, ho⟩ := h4.at
    rw [hp] at ho
    cases ho
/-- name = e, a frozen value (also where e is a list comprehension on one line) -/
theorem s_set (i : Nat) {x : Str} {e : Expr} {pos' : Pos} {Fe : FE} (he : PF X e Fe) (hN : X.N.Nodup) (hi : X.N[i]? = some x := by rfl) (hx : Loc X.env.scope x := by first | exact Or.inl rfl | exact Or.inr rfl)
    (hs : swapsWith e (some (.Name x pos')) pos.line X.env = pure false := by rfl) (hf : X.fn x = true ∨ X.env.scope.names.lookup x = some .local := by first | exact .inl rfl | exact .inr rfl | assumption) : PSD X (.Assign [.Name x pos'] e pos) (sAsg Fe (gN i)) :=
  PS.weak (ps_set (i := i) hN hi hx he hs hf) fun E σ H ⟨B, G, ρ, o, r, k, a⟩ => by
    obtain ⟨d, hd, k⟩ := Option.bind_eq_some_iff.mp k
    obtain ⟨ρ', hg, k⟩ := Option.map_eq_some_iff.mp k
    subst k
    cases hg
    exact ⟨B, G, ρ, d, r, hd, fun v G' H' w rv => a _ G' H' (w.gs r.bh) ((r.step w).set_shr rv)⟩

/-! ### a slot's thing frozen -/
def frzE (i : Nat) : Env → Env := fun ρ => match ρ[i]? with
  | some (some (.own d)) => ρ.set i (some (.shr d))
  | _ => ρ
def sFrz (i : Nat) (F : FS) : FS := fun ρ => F (frzE i ρ)
theorem Rp.frz {W : Wd} {B G H : Hp} {ρ : Env} {σ : St} {i : Nat} {d : D} {a : Addr} {o u : HO} (r : Rp W B G H ρ σ) (hi : ρ[i]? = some (some (.own d))) (ha : σ[i]? = some (some (.ref a))) (ho : H a = some o) (hu : Rep W (upd G a u) d (.ref a)) :
    Rp W B (upd G a u) (upd H a u) (ρ.set i (some (.shr d))) σ ∧ Gs B G (upd G a u) := by
  obtain ⟨a', h1, h2, h3, h4⟩ := r.own i d hi
  rw [ha] at h1
  cases h1
  have hl : i < ρ.length := (List.getElem?_eq_some_iff.mp hi).1
  have sG : Same G (upd G a u) := same_upd h3
  refine ⟨⟨fun b z e => ?_, fun b z e => ?_, by simp [r.len], fun j e h => ?_, fun j e h => ?_, fun j k d1 d2 b q1 q2 q3 q4 => ?_⟩, ⟨sG, fun b z e => ?_⟩⟩
  · rw [upd_ne (ne_of_none e h2)]; exact r.bh b z e
  · by_cases hb : b = a
    · subst hb; rw [upd_same] at e ⊢; exact e
    · rw [upd_ne hb] at e ⊢; exact r.gh b z e
  · by_cases hj : i = j
    · subst hj
      rw [List.getElem?_set_self hl] at h
      cases h
      exact ⟨_, ha, hu⟩
    · rw [List.getElem?_set_ne hj] at h
      obtain ⟨v, g1, g2⟩ := r.shr j e h
      exact ⟨v, g1, g2.mono sG⟩
  · by_cases hj : i = j
    · subst hj
      rw [List.getElem?_set_self hl] at h
      cases h
    · rw [List.getElem?_set_ne hj] at h
      obtain ⟨b, g1, g2, g3, g4⟩ := r.own j e h
      have hba : b ≠ a := by
        rintro rfl
        exact hj (r.sep i j d e b hi h ha g1)
      exact ⟨b, g1, g2, by rw [upd_ne hba]; exact g3, g4.mono sG (upd_ne hba)⟩
  · have pre : ∀ {m : Nat} {x}, (ρ.set i (some (.shr d)))[m]? = some (some (.own x)) → ρ[m]? = some (some (.own x)) := fun {m x} h => by
      by_cases hm : i = m
      · subst hm
        rw [List.getElem?_set_self hl] at h
        cases h
      · rw [List.getElem?_set_ne hm] at h
        exact h
    exact r.sep j k d1 d2 b (pre q1) (pre q2) q3 q4
  · by_cases hb : b = a
    · subst hb; exact .inr (.inl h2)
    · rw [upd_ne hb] at e; exact .inl e
theorem frz_run {pins : List (Addr × Obj)} {s : Shared} {σ : St} {B G H : Hp} {ρ : Env} {i : Nat} (I : L2.Inv X pins σ H s) (r : Rp X.wd B G H ρ σ) : ∃ G' H', L2.Inv X pins σ H' s ∧ Rp X.wd B G' H' (frzE i ρ) σ ∧ Gs B G G' := by
  unfold frzE
  split
  · rename_i d hi
    obtain ⟨a, h1, h2, h3, h4⟩ := r.own i d hi
    have sG : ∀ {u}, Same G (upd G a u) := same_upd h3
    cases h4 with
    | @lst _ xs _ e q =>
      obtain ⟨r', g'⟩ := r.frz (u := .lst xs) hi h1 e (.lst upd_same (q.mono sG))
      rw [upd_same_of e] at r'
      exact ⟨_, H, I, r', g'⟩
    | dcK e k q =>
      obtain ⟨od, I2⟩ := I.lock e True.intro
      obtain ⟨r', g'⟩ := r.frz hi h1 e (.dcK (od := od) upd_same k (q.mono sG))
      exact ⟨_, _, I2, r', g'⟩
    | dcT e k q =>
      obtain ⟨od, I2⟩ := I.lock e True.intro
      obtain ⟨r', g'⟩ := r.frz hi h1 e (.dcT (od := od) upd_same k (q.mono sG))
      exact ⟨_, _, I2, r', g'⟩
    | @dcN _ kv _ e k q q' =>
      obtain ⟨r', g'⟩ := r.frz (u := .ext (rawN X.wd a kv)) hi h1 e (.dcN upd_same k (q.mono sG) (q'.mono sG))
      rw [upd_same_of e] at r'
      exact ⟨_, H, I, r', g'⟩
  · exact ⟨G, H, I, r, Gs.refl⟩
theorem s_frz (i : Nat) (h : PSD X st F) : PSD X st (sFrz i F) := by
  refine ⟨fun pins s σ H E I q => ?_⟩
  obtain ⟨B, G, ρ, o, r, k, a⟩ := q
  obtain ⟨G', H', I', r', g'⟩ := frz_run (i := i) I r
  exact h.run pins s σ H' E I' ⟨B, G', _, o, r', k, a.from g'⟩

/-! ### what is owned is changed -/
section
local instance (priority := 1000000) cdec0 (p : Prop) : Decidable p := Classical.propDecidable p
def sApp (i : Nat) (F : FE) : FS := fun ρ => (F ρ).bind fun d => match ρ[i]? with
  | some (some (.own (.list ds))) => if ds.length < sizeLine then some (.nx (ρ.set i (some (.own (.list (ds ++ [d])))))) else none
  | _ => none
end
/-- x.append(e), x owned -/
theorem s_app (i : Nat) {x : Str} {e : Expr} {Fe : FE} {npos apos cpos : Pos} (he : PF X e Fe) (hN : X.N[i]? = some x := by rfl) (hv : Vis X.env.scope x := by first | exact Or.inl rfl | exact Or.inr (Or.inl rfl) | exact Or.inr (Or.inr rfl)) (hd : (x == ("__debug__" : Str)) = false := by decide)
    (hcd : (x == ("__classdict__" : Str)) = false := by decide)
    (hs1 : starEach [e] X.env = (false, eval e X.env) :: starEach [] X.env := by rfl)
    (hbase : attributeBase (.Name x npos) "append" X.env (eval (.Name x npos) X.env) = eval (.Name x npos) X.env := by rfl)
    (hfew : ((backTo cpos (starEach [e] X.env)).all (fun x => !x.1) && (backToKw cpos (keywordEach [] X.env)).all (fun x => x.1.isSome)
      && decide (([e] : List Expr).length + ([] : List Keyword).length + (if ([] : List Keyword).isEmpty then 0 else 1) < 30)) = true := by rfl)
    (hline : (apos.endLine == cpos.line) = true := by rfl) (hplain : (backTo cpos (starEach [] X.env)).any (·.1) = false := by rfl)
    (hs : swapsWith (.Call (.Attribute (.Name x npos) "append" apos) [e] [] cpos) none pos.line X.env = pure false := by rfl) :
    PSD X (.Expr (.Call (.Attribute (.Name x npos) "append" apos) [e] [] cpos) pos) (sApp i Fe) :=
  PS.weak (ps_expr (pe_bm PySem.F.plainAttrs_list PySem.F.slot_list_append PySem.F.type_list_append mt_append (pe_var (i := i) hN hv hd hcd) (pa_cons he pa_nil hs1) hbase hfew hline hs1 hplain) hs) fun E σ H ⟨B, G, ρ, o, r, k, a⟩ => by
    obtain ⟨d, hd, k⟩ := Option.bind_eq_some_iff.mp k
    split at k
    · split at k
      · rename_i ds hi hz
        cases k
        obtain ⟨l, h1, h2, h3, h4⟩ := r.own i _ hi
        cases h4 with
        | @lst _ xs _ e q =>
          refine ⟨_, h1, .inl ⟨rfl, _, SqL.of e⟩, B, G, ρ, d, r, hd, fun v G' H' w rv => ?_⟩
          have e' := w.h _ _ e
          refine ⟨l, xs, v, rfl, rfl, e', by rw [← q.length]; exact hz, ?_⟩
          exact a σ G' _ (w.gs r.bh) ((r.step w).upd_own hi h1 (.lst upd_same ((q.mono w.g).snoc rv)))
      · cases k
    · cases k

/-! ### x[i] = e, x owned: a list's item, a dict's pair -/
def dputD (kvs : List (D × D)) (k v : D) (eq : D → D → Bool) : List (D × D) :=
  if (kvs.any fun kv => eq kv.1 k) = true then kvs.map (fun kv => if eq kv.1 k = true then (kv.1, v) else kv) else kvs ++ [(k, v)]
end

/-! ### loops -/
def whileL (c : FT) (b : FS) : Nat → FS
  | 0, _ => none
  | n + 1, ρ => (c ρ).bind fun x => if x = true then (b ρ).bind (fun o => match o with
      | .nx ρ' => whileL c b n ρ'
      | .ct ρ' => whileL c b n ρ'
      | .bk ρ' => some (.nx ρ')
      | .rt d => some (.rt d)) else some (.nx ρ)
def forL (g : FG) (b : FS) : List D → FS
  | [], ρ => some (.nx ρ)
  | d :: ds, ρ => (g d ρ).bind fun ρ1 => (b ρ1).bind fun o => match o with
      | .nx ρ' => forL g b ds ρ'
      | .ct ρ' => forL g b ds ρ'
      | .bk ρ' => some (.nx ρ')
      | .rt d => some (.rt d)
abbrev FI := FL
/-- what an iterator gives, while what is frozen stands -/
def ItRep (W : Wd) (G : Hp) (J : It) (ds : List D) : Prop := ∀ Gc H, Same G Gc → Same Gc H → ∀ i : Nat, (ds.length ≤ i → J.stop i H) ∧ ∀ d, ds[i]? = some d → J.go i H ∧ ∀ x H', J.yld i H x H' → ∃ G', Gw Gc H G' H' ∧ Rep W G' d x
def tI (W : Wd) (F : FI) : TI := fun σ H R => ∃ B G ρ ds, Rp W B G H ρ σ ∧ F ρ = some ds ∧ ∀ J G' H', Gw G H G' H' → ItRep W G' J ds → R J H'
abbrev PID (X : Cx) (tg iter : Expr) (F : FI) : Prop := PI X tg iter (tI X.wd F)
theorem PI.weak {X : Cx} {tg iter : Expr} {t t' : TI} (h : PI X tg iter t) (i : ∀ σ H Q, t' σ H Q → t σ H Q) : PI X tg iter t' := ⟨fun pins s σ H R I q => h.run pins s σ H R I (i σ H R q)⟩
def sFor (l : FI) (g : FG) (b : FS) : FS := fun ρ => (l ρ).bind fun ds => forL g b ds ρ
def sWh (n : Nat) (c : FT) (b : FS) : FS := whileL c b n
section
variable {X : Cx} {F F' : FS} {pos : Pos}
theorem s_while (n : Nat) {c : Expr} {body : List Stmt} {Fc : FT} (hp : PassesOwn (model X.prog X.w) X.A X.env X.xe) (hc : PTD X c Fc) (hb : PSsD X body F) : PSD X (.While c body [] pos) (sWh n Fc F) :=
  PS.weak (ps_while hp hc hb) fun E σ H ⟨B, G, ρ, o, r, k, a⟩ => by
    refine ⟨fun m σ H => ∃ G2 ρ2, Gs B G G2 ∧ Rp X.wd B G2 H ρ2 σ ∧ whileL Fc F m ρ2 = some o, ⟨n, G, ρ, Gs.refl, r, k⟩, ?_⟩
    rintro m σ2 H2 ⟨G2, ρ2, g2, r2, k2⟩
    cases m with
    | zero => cases k2
    | succ m =>
      obtain ⟨x, hx, k2⟩ := Option.bind_eq_some_iff.mp k2
      refine ⟨B, G2, ρ2, x, r2, hx, fun G3 H3 w3 => ?_⟩
      by_cases e : x = true
      · rw [if_pos e] at k2 ⊢
        obtain ⟨o1, h1, k2⟩ := Option.bind_eq_some_iff.mp k2
        refine ⟨fun σ' H' => ∃ G2 ρ2, Gs B G G2 ∧ Rp X.wd B G2 H' ρ2 σ' ∧ whileL Fc F m ρ2 = some o, fun σ' H' z => ⟨m, Nat.lt_succ_self _, z⟩, B, G3, ρ2, o1, r2.step w3, h1, ?_⟩
        have g3 : Gs B G G3 := g2.trans (w3.gs r2.bh)
        cases o1 with
        | nx ρ' => exact fun σ' G' H' g r' => ⟨G', ρ', g3.trans g, r', k2⟩
        | ct ρ' => exact fun σ' G' H' g r' => ⟨G', ρ', g3.trans g, r', k2⟩
        | bk ρ' => cases k2; exact fun σ' G' H' g r' => a σ' G' H' (g3.trans g) r'
        | rt d => cases k2; exact fun v G' H' g b z rv => a v G' H' (g3.trans g) b z rv
      · rw [if_neg e] at k2 ⊢
        cases k2
        exact a σ2 G3 H3 (g2.trans (w3.gs r2.bh)) (r2.step w3)
theorem s_for {tg iter : Expr} {body : List Stmt} {l : FI} {g : FG} (hp : PassesOwn (model X.prog X.w) X.A X.env X.xe) (hc : X.calm = true) (hi : PID X tg iter l) (hg : PGD X tg g) (hb : PSsD X body F)
    (hs : ∀ x, foldedSetIterable iter X.env x = pure x := by intro _; rfl) : PSD X (.For tg iter body [] pos) (sFor l g F) :=
  PS.weak (ps_for hp hc hi hg hb hs) fun E σ H ⟨B, G, ρ, o, r, k, a⟩ => by
    obtain ⟨ds, hd, k⟩ := Option.bind_eq_some_iff.mp k
    refine ⟨B, G, ρ, ds, r, hd, fun J G1 H1 w1 it => ?_⟩
    have g1 : Gs B G G1 := w1.gs r.bh
    refine ⟨fun i m σ H => m = ds.length - i ∧ i ≤ ds.length ∧ ∃ G2 ρ2, Gs B G1 G2 ∧ Rp X.wd B G2 H ρ2 σ ∧ forL g F (ds.drop i) ρ2 = some o, ⟨_, rfl, Nat.zero_le _, G1, ρ, Gs.refl, r.step w1, k⟩, ?_⟩
    rintro i m σ2 H2 ⟨rfl, hi, G2, ρ2, g2, r2, k2⟩
    obtain ⟨hstop, hgo⟩ := it G2 H2 g2.g r2.gh i
    by_cases hlt : i < ds.length
    · have e : ds.drop i = ds[i] :: ds.drop (i + 1) := List.drop_eq_getElem_cons hlt
      rw [e] at k2
      obtain ⟨ρ3, h3, k2⟩ := Option.bind_eq_some_iff.mp k2
      obtain ⟨o1, h4, k2⟩ := Option.bind_eq_some_iff.mp k2
      obtain ⟨go, yld⟩ := hgo ds[i] (List.getElem?_eq_getElem hlt)
      refine .inr ⟨go, fun σ' H' => ∃ G2 ρ2, Gs B G1 G2 ∧ Rp X.wd B G2 H' ρ2 σ' ∧ forL g F (ds.drop (i + 1)) ρ2 = some o, fun σ' H' z => ⟨ds.length - (i + 1), by omega, rfl, hlt, z⟩, fun x H' y => ?_⟩
      obtain ⟨G3, w3, rx⟩ := yld x H' y
      refine ⟨B, G3, ρ2, ds[i], ρ3, r2.step w3, rx, h3, fun σ4 G4 H4 g4 r4 => ⟨B, G4, ρ3, o1, r4, h4, ?_⟩⟩
      have g5 : Gs B G1 G4 := (g2.trans (w3.gs r2.bh)).trans g4
      cases o1 with
      | nx ρ' => exact fun σ' G' H' g r' => ⟨G', ρ', g5.trans g, r', k2⟩
      | ct ρ' => exact fun σ' G' H' g r' => ⟨G', ρ', g5.trans g, r', k2⟩
      | bk ρ' => cases k2; exact fun σ' G' H' g r' => a σ' G' H' ((g1.trans g5).trans g) r'
      | rt d => cases k2; exact fun v G' H' g b z rv => a v G' H' ((g1.trans g5).trans g) b z rv
    · have e : i = ds.length := by omega
      subst e
      rw [List.drop_length] at k2
      cases k2
      exact .inl ⟨hstop (Nat.le_refl _), a σ2 G2 H2 (g1.trans g2) r2⟩
end

/-! ### a def as a function of data -/
def bind0 (n : Nat) (ds : List D) : Env := ds.map (fun d => some (.shr d)) ++ List.replicate (n - ds.length) none
/-- n: all its names; p: its parameters -/
def callF (n p : Nat) (b : FS) : List D → Option D := fun ds => if ds.length = p then (b (bind0 n ds)).bind fun o => match o with
  | .nx _ => some .none
  | .rt d => some d
  | _ => none else none
def spD (W : Wd) (p : Nat) (F : List D → Option D) : Sp := fun vs H Q _ => vs.length = p ∧ ∃ G ds d, Same G H ∧ Reps W G ds vs ∧ F ds = some d ∧ ∀ v G' H', Gw G H G' H' → Rep W G' d v → Q v H'
theorem rp_start {W : Wd} {G H : Hp} {N : List Str} {ds : List D} {vs : List V} (s : Same G H) (r : Reps W G ds vs) : Rp W H G H (bind0 N.length ds) (L2.start N vs) where
  bh := Same.refl _
  gh := s
  len := by simp [bind0, L2.start, r.length]
  shr := fun i d e => by
    unfold bind0 at e
    unfold L2.start
    have hl := r.length
    by_cases h : i < ds.length
    · rw [List.getElem?_append_left (by simpa using h), List.getElem?_map] at e
      cases q : ds[i]? with
      | none => rw [q] at e; cases e
      | some d' =>
        rw [q] at e
        cases e
        obtain ⟨v, h1, h2⟩ := r.get q
        exact ⟨v, by rw [List.getElem?_append_left (by simp; omega), List.getElem?_map, h1]; rfl, h2⟩
    · rw [List.getElem?_append_right (by simpa using h)] at e
      have := List.mem_of_getElem? e
      rw [List.mem_replicate] at this
      cases this.2
  own := fun i d e => by
    unfold bind0 at e
    by_cases h : i < ds.length
    · rw [List.getElem?_append_left (by simpa using h), List.getElem?_map] at e
      cases q : ds[i]? with
      | none => rw [q] at e; cases e
      | some d' => rw [q] at e; cases e
    · rw [List.getElem?_append_right (by simpa using h)] at e
      have := List.mem_of_getElem? e
      rw [List.mem_replicate] at this
      cases this.2
  sep := fun i j d e' a e _ _ _ => by
    unfold bind0 at e
    by_cases h : i < ds.length
    · rw [List.getElem?_append_left (by simpa using h), List.getElem?_map] at e
      cases q : ds[i]? with
      | none => rw [q] at e; cases e
      | some d' => rw [q] at e; cases e
    · rw [List.getElem?_append_right (by simpa using h)] at e
      have := List.mem_of_getElem? e
      rw [List.mem_replicate] at this
      cases this.2
section
variable {P : Program} {w : World} {K : PySem.W.Frag} {mg : Str → Option Value} {base : Heap}
/-- THE RULE for a def -/
theorem _root_.L2.Fun.okD {x qual : Str} {st : Stmt} {f : Addr} {fd : FuncData} {N ps : List Str} {k : Nat} {b : FS} (F : Fun K x qual st f fd) (S : FnScope N ps (defScope st))
    (hbody : ∀ (cdv : Value) (A : Around) (outer : List PySem.Env) (s : Shared) (H : Hp) (E : XK), Room k (A.deeper (envOfC qual (defScope st) s.heap.objs.size f cdv)) →
      PSsD (cxOf CX0 P w K mg base N qual (defScope st) f cdv A outer s H E).nox (defBody st) b) : FnOk P w K mg base CX0 (k + 1) f fd ps (spD ⟨P, w, K⟩ ps.length (callF N.length ps.length b)) := by
  refine F.ok S (fun vs H Q E h => h.1) fun cdv A outer s H vs Q E hr h => ⟨_, hbody cdv A outer s H E hr, ?_⟩
  obtain ⟨hl, G, ds, d, sg, r, hF, q⟩ := h
  unfold callF at hF
  split at hF
  · obtain ⟨o, ho, hF⟩ := Option.bind_eq_some_iff.mp hF
    refine ⟨H, G, bind0 N.length ds, o, rp_start sg r, ho, ?_⟩
    cases o with
    | nx ρ =>
      cases hF
      exact fun σ G' H' g r' => q .non G' H' ⟨g.g, r'.bh, r'.gh, g.new⟩ .non
    | rt d' =>
      cases hF
      exact fun v G' H' g b z rv => q v G' H' ⟨g.g, b, z, g.new⟩ rv
    | bk ρ => cases hF
    | ct ρ => cases hF
  · cases hF
end
/-- a def that keeps its promise, by its name -/
structure DefD (P : Program) (w : World) (K : PySem.W.Frag) (mg : Str → Option Value) (base : Heap) (k : Nat) (x : Str) (Ff : List D → Option D) : Prop where
  ex : ∃ (f : Addr) (fd : FuncData) (ps : List Str), FnOk P w K mg base CX0 k f fd ps (spD ⟨P, w, K⟩ ps.length Ff) ∧ mg x = some (.ref f) ∧ PySem.W.keepIn K (.ref f) = true ∧ Binds K fd ps [] ∧ ∀ ds d, Ff ds = some d → ds.length = ps.length
theorem callF_len {n p : Nat} {b : FS} {ds : List D} {d : D} (h : callF n p b ds = some d) : ds.length = p := by
  unfold callF at h
  split at h
  · assumption
  · cases h
section
variable {P : Program} {w : World} {K : PySem.W.Frag} {mg : Str → Option Value} {base : Heap}
theorem DefD.mono {j k : Nat} {x : Str} {Ff : List D → Option D} (h : DefD P w K mg base j x Ff) (hk : j ≤ k) : DefD P w K mg base k x Ff :=
  let ⟨f, fd, ps, h1, h2⟩ := h.ex
  ⟨f, fd, ps, h1.mono hk, h2⟩
/-- what the top has left of a def -/
structure TopF (K : PySem.W.Frag) (mg : Str → Option Value) (x : Str) (st : Stmt) (ps : List Str) : Prop where
  ex : ∃ (f : Addr) (fd : FuncData), Fun K x x st f fd ∧ mg x = some (.ref f) ∧ Binds K fd ps []
theorem TopF.mk' {h : Heap} {x : Str} {st : Stmt} {ps : List Str} {f : Addr} {oc : Value} {od an : Option Addr} {osl : Array (Option Value)} {kV doc pm cdv ct : Value} (X : K.In h) (G : h.Ns mainGlobals mg)
    (a : PySem.W.nsIn K mainGlobals x = some (some (.ref f))) (l : K.lookup f = some ⟨oc, od, .func (PySem.W.fnOf x x (defArgs st) (defBody st) (defScope st) .none kV doc pm an cdv ct), osl⟩)
    (c : PySem.W.codeIn K cdv x = true) (k : PySem.W.keepIn K (.ref f) = true)
    (hb : ∀ (kV doc pm : Value) (an : Option Addr) (cdv ct : Value) (us : List Value), us.length = ps.length → bindArgs (PySem.W.fnOf x x (defArgs st) (defBody st) (defScope st) .none kV doc pm an cdv ct) ⟨us, []⟩ = pure (ps.zip us)) :
    TopF K mg x st ps := ⟨f, _, fun_mk l c k, PySem.W.mg_of X G a, (fun_mk l c k).binds hb⟩
theorem DefD.of {k : Nat} {x : Str} {st : Stmt} {N ps : List Str} {b : FS} (T : TopF K mg x st ps) (S : FnScope N ps (defScope st))
    (hbody : ∀ (f : Addr) (cdv : Value) (A : Around) (outer : List PySem.Env) (s : Shared) (H : Hp) (E : XK), Room k (A.deeper (envOfC x (defScope st) s.heap.objs.size f cdv)) →
      PSsD (cxOf CX0 P w K mg base N x (defScope st) f cdv A outer s H E).nox (defBody st) b) : DefD P w K mg base (k + 1) x (callF N.length ps.length b) :=
  let ⟨f, fd, F, hm, hb⟩ := T.ex
  ⟨f, fd, ps, F.okD S (hbody f), hm, F.kp, hb, fun _ _ h => callF_len h⟩
end
/-- a call -/
def eCall (f : List D → Option D) (l : FL) : FE := fun ρ => (l ρ).bind f
section
variable {X : Cx} {k : Nat} {x : Str} {p pos : Pos} {e : Expr} {es : List Expr} {L : FL} {Ff : List D → Option D}
theorem f_call (F : DefD X.prog X.w X.K X.mg X.base k x Ff) (hr : Room k X.A) (ha : PAF X (e :: es) L)
    (hg : Gl X x := by rfl) (hdb : (x == ("__debug__" : Str)) = false := by decide) (he : starEach (e :: es) X.env = (false, eval e X.env) :: starEach es X.env := by rfl) (hpl : (backTo pos (starEach es X.env)).any (·.1) = false := by rfl) :
    PF X (.Call (.Name x p) (e :: es) [] pos) (eCall Ff L) := by
  obtain ⟨f, fd, ps, F, hm, hk, hb, hl⟩ := F.ex
  refine PE.weak (pe_call F hr hg hm hk hb .nil pass0 ha hdb he hpl) fun σ H Q ⟨B, G, ρ, d, r, q, z⟩ => ?_
  obtain ⟨ds, hd, q⟩ := Option.bind_eq_some_iff.mp q
  refine ⟨B, G, ρ, ds, r, hd, fun vs G1 H1 w1 rv => ?_⟩
  exact ⟨by rw [List.append_nil, ← rv.length, hl ds d q], G1, ds, d, w1.gh, by rw [List.append_nil]; exact rv, q, fun v G2 H2 w2 r2 => z v G2 H2 (w1.trans w2) r2⟩
end
end DV
end

set_option Elab.async false
set_option linter.all false
set_option maxRecDepth 100000
/-! DVd: the operators, by data. -/
noncomputable section
namespace DV
open PySem PySem.Spec PyProof.Rows L2

section
variable {W : Wd} {G H : Hp} {v : V}
theorem Bor.non' (b : Bor W G H .none v) : v = .non := by
  rcases b with b | ⟨p, e, t⟩
  · cases b; rfl
  · cases t
theorem Bor.bl' {c : Bool} (b : Bor W G H (.bool c) v) : v = .bl c := by
  rcases b with b | ⟨p, e, t⟩
  · cases b; rfl
  · cases t
theorem Bor.int' {i : Int} (b : Bor W G H (.int i) v) : v = .int i := by
  rcases b with b | ⟨p, e, t⟩
  · cases b; rfl
  · cases t
theorem Bor.str' {x : Str} (b : Bor W G H (.str x) v) : v = .str x := by
  rcases b with b | ⟨p, e, t⟩
  · cases b; rfl
  · cases t
theorem Bor.lst' {ds : List D} (sg : Same G H) (b : Bor W G H (.list ds) v) : ∃ a xs, v = .ref a ∧ H a = some (.lst xs) ∧ Reps W G ds xs := by
  rcases b with b | ⟨p, e, t⟩
  · cases b with
    | lst h r => exact ⟨_, _, rfl, sg _ _ h, r⟩
  · cases t with
    | lst h r => exact ⟨_, _, e, h, r⟩
theorem Bor.tup' {ds : List D} (sg : Same G H) (b : Bor W G H (.tuple ds) v) : ∃ a xs, v = .ref a ∧ G a = some (.tup xs) ∧ H a = some (.tup xs) ∧ Reps W G ds xs := by
  rcases b with b | ⟨p, e, t⟩
  · cases b with
    | tup h r => exact ⟨_, _, rfl, h, sg _ _ h, r⟩
  · cases t
theorem Rep.str' {x : Str} (b : Rep W G (.str x) v) : v = .str x := by cases b; rfl
theorem Rep.int' {x : Int} (b : Rep W G (.int x) v) : v = .int x := by cases b; rfl
theorem Gw.mk1 {u : HO} {p : Addr} (sg : Same G H) (hp : H p = none) : Gw G H (upd G p u) (upd H p u) where
  g := same_upd (sg.free hp)
  h := same_upd hp
  gh := fun b z e => by
    by_cases hb : b = p
    · subst hb; rw [upd_same] at e ⊢; exact e
    · rw [upd_ne hb] at e ⊢; exact sg b z e
  new := fun b z e => by
    by_cases hb : b = p
    · subst hb; exact .inr (.inl hp)
    · rw [upd_ne hb] at e; exact .inl e
/-- a new list, a new tuple is frozen -/
theorem fin_lst {Q : VK} {ds : List D} {xs : List V} (sg : Same G H) (r : Reps W G ds xs) (q : ∀ z G' H', Gw G H G' H' → Rep W G' (.list ds) z → Q z H') : ∀ p, H p = none → Q (.ref p) (upd H p (.lst xs)) := fun p hp =>
  q _ _ _ (Gw.mk1 sg hp) (.lst upd_same (r.mono (same_upd (sg.free hp))))
theorem fin_tup {Q : VK} {ds : List D} {xs : List V} (sg : Same G H) (r : Reps W G ds xs) (q : ∀ z G' H', Gw G H G' H' → Rep W G' (.tuple ds) z → Q z H') : ∀ p, H p = none → Q (.ref p) (upd H p (.tup xs)) := fun p hp =>
  q _ _ _ (Gw.mk1 sg hp) (.tup upd_same (r.mono (same_upd (sg.free hp))))
theorem Reps.nil_iff {ds : List D} {xs : List V} (r : Reps W G ds xs) : ds = [] ↔ xs = [] := by
  have := r.length
  constructor
  · rintro rfl
    exact List.eq_nil_of_length_eq_zero this.symm
  · rintro rfl
    exact List.eq_nil_of_length_eq_zero this
end

/-! ### arithmetic and joining -/
section
local instance (priority := 1000000) cdec1 (p : Prop) : Decidable p := Classical.propDecidable p
def addD : D → D → Option D
  | .int i, .int j => some (.int (i + j))
  | .str x, .str y => if x.length + y.length ≤ sizeLine then some (.str (x ++ y)) else none
  | .list xs, .list ys => if xs.length + ys.length ≤ sizeLine then some (.list (xs ++ ys)) else none
  | .tuple xs, .tuple ys => if xs.length + ys.length ≤ sizeLine then some (.tuple (xs ++ ys)) else none
  | _, _ => none
def subD : D → D → Option D
  | .int i, .int j => some (.int (i - j))
  | _, _ => none
def mulS (z : Str) (n : Int) : Str := ⟨(List.replicate n.toNat z.cps.toList).flatten.toArray⟩
def mulD : D → D → Option D
  | .int i, .int j => if (-(2 ^ 64) < i ∧ i < 2 ^ 64) ∨ (-(2 ^ 64) < j ∧ j < 2 ^ 64) then some (.int (i * j)) else none
  | .str z, .int n => if -(2 ^ 62) ≤ n ∧ n < 2 ^ 62 ∧ z.length * n.toNat ≤ sizeLine then some (.str (mulS z n)) else none
  | _, _ => none
def fdivD : D → D → Option D
  | .int i, .int j => if 0 < j ∧ j < 1073741824 then some (.int (i / j)) else none
  | _, _ => none
def modD : D → D → Option D
  | .int i, .int j => if 0 < j then some (.int (i % j)) else none
  | _, _ => none
def powD : D → D → Option D
  | .int i, .int j => if 0 ≤ j ∧ j ≤ 1000000 ∧ i.natAbs < 2 ^ 64 then some (.int (i ^ j.toNat)) else none
  | _, _ => none
def shlD : D → D → Option D
  | .int i, .int j => if 0 ≤ j ∧ j ≤ 1000000 ∧ i.natAbs < 2 ^ 64 then some (.int (i * 2 ^ j.toNat)) else none
  | _, _ => none
def shrD : D → D → Option D
  | .int i, .int j => if 0 ≤ j then some (.int (i / 2 ^ j.toNat)) else none
  | _, _ => none
def andD : D → D → Option D
  | .int i, .int j => some (.int (Builtin.bitAnd i j))
  | _, _ => none
def orD : D → D → Option D
  | .int i, .int j => some (.int (Builtin.bitOr i j))
  | _, _ => none
end
theorem foldl_app (z : Array Nat) : ∀ (n : Nat) (a : Array Nat), ((List.replicate n z).foldl (· ++ ·) a) = a ++ (List.replicate n z.toList).flatten.toArray
  | 0, a => by simp
  | n + 1, a => by
    rw [List.replicate_succ, List.foldl_cons, foldl_app z n, List.replicate_succ, List.flatten_cons]
    apply Array.ext'
    simp
theorem mulS_len (z : Str) (n : Int) : (mulS z n).length = z.length * n.toNat := by
  unfold mulS Str.length
  rw [List.size_toArray, List.length_flatten, List.map_replicate, List.sum_replicate_nat]
  simp [Nat.mul_comm]
section
variable {X : Cx}
theorem op_mul_str : OpR X (binaryOp .Mult) (fun x y H Q => ∃ z n, x = .str z ∧ y = .int n ∧ (-(2 ^ 62) ≤ n ∧ n < 2 ^ 62 ∧ z.length * n.toNat ≤ sizeLine) ∧ Q (.str (mulS z n)) H) := by
  intro pins s σ H x y v u Q I rx ry h
  obtain ⟨z, n, rfl, rfl, ⟨h1, h2, h3⟩, q⟩ := h
  obtain ⟨t, rfl⟩ := rx
  obtain ⟨t', rfl⟩ := ry
  have hs := sizeLine_eq
  refine P.mul_str (by rw [decide_eq_false (by omega), decide_eq_false (by omega)]; rfl) (fun h4 h5 => ?_) (fun h4 h5 => ?_) ?_
  · have hn : (0 : Int) < n := by omega
    have hz : ((z.length : Int) * n) ≤ 2 ^ 63 - 1 := by
      have : ((z.length * n.toNat : Nat) : Int) ≤ (sizeLine : Int) := by exact_mod_cast h3
      rw [Int.natCast_mul, Int.toNat_of_nonneg (Int.le_of_lt hn)] at this
      omega
    have := (Int.le_ediv_iff_mul_le hn).mpr hz
    omega
  · unfold Builtin.Str.tooLong
    exact decide_eq_false (by omega)
  · by_cases h4 : n < 1
    · rw [if_pos h4]
      have e : mulS z n = Str.empty := by
        have : n.toNat = 0 := by omega
        unfold mulS
        rw [this]
        rfl
      rw [e] at q
      exact ⟨by decide, .str Str.empty, H, I.tok _, ⟨_, rfl⟩, q⟩
    · rw [if_neg h4]
      split
      · rename_i h5
        have e : mulS z n = z := by
          unfold mulS
          rcases (Bool.or_eq_true _ _).mp h5 with h6 | h6
          · have : n = 1 := by simpa using h6
            subst this
            simp
          · have h7 : z.length = 0 := by simpa using h6
            have h8 : z.cps = #[] := Array.eq_empty_of_size_eq_zero h7
            obtain ⟨c⟩ := z
            simp only at h8
            subst h8
            simp
        rw [e] at q
        exact ⟨.str z, H, I, ⟨_, rfl⟩, q⟩
      · have e : (⟨(List.replicate n.toNat z.cps).foldl (· ++ ·) #[]⟩ : Str) = mulS z n := by
          unfold mulS
          rw [foldl_app]
          simp
        rw [e]
        refine ⟨?_, .str _, H, I.tok _, ⟨_, rfl⟩, q⟩
        rw [mulS_len]
        exact h3
/-- all of + -/
theorem f_add {a b : Expr} {pos : Pos} {Fa Fb : FE} (ha : PB X a Fa) (hb : PB X b Fb) : PF X (.BinOp a .Add b pos) (o2 addD Fa Fb) :=
  f_op (op_add.or (op_add_str.or (op_cat.or op_catA))) (fun x y d v u G H Q k bx bY sg q => by
    unfold addD at k
    split at k
    · cases k
      cases bx.int'
      cases bY.int'
      exact .inl ⟨_, _, rfl, rfl, q _ G H (Gw.refl sg) (.int _)⟩
    · split at k
      · rename_i hz
        cases k
        cases bx.str'
        cases bY.str'
        exact .inr (.inl ⟨_, _, rfl, rfl, hz, q _ G H (Gw.refl sg) (.str _)⟩)
      · cases k
    · split at k
      · rename_i hz
        cases k
        obtain ⟨a, xs, rfl, h1, r1⟩ := bx.lst' sg
        obtain ⟨b, ys, rfl, h2, r2⟩ := bY.lst' sg
        exact .inr (.inr (.inl ⟨_, _, _, _, rfl, rfl, h1, h2, by rw [← r1.length, ← r2.length]; exact hz, fin_lst sg (r1.append r2) q⟩))
      · cases k
    · split at k
      · rename_i hz
        cases k
        obtain ⟨a, xs, rfl, g1, h1, r1⟩ := bx.tup' sg
        obtain ⟨b, ys, rfl, g2, h2, r2⟩ := bY.tup' sg
        refine .inr (.inr (.inr ⟨_, _, _, _, rfl, rfl, SqT.of h1, SqT.of h2, by rw [← r1.length, ← r2.length]; exact hz, fun e => ?_, fun e1 e2 => ?_, fun _ _ => fin_tup sg (r1.append r2) q⟩))
        · rw [r1.nil_iff.mpr e] at q
          exact q _ G H (Gw.refl sg) (.tup g2 r2)
        · rw [r2.nil_iff.mpr e2, List.append_nil] at q
          exact q _ G H (Gw.refl sg) (.tup g1 r1)
      · cases k
    · cases k) ha hb
theorem opd_int {C : Int → Int → Prop} [∀ i j, Decidable (C i j)] {g : Int → Int → Int} {W : Wd} {f : D → D → Option D} (hf : ∀ x y d, f x y = some d → ∃ i j, x = .int i ∧ y = .int j ∧ C i j ∧ d = .int (g i j)) : OpD W (rI C fun i j => .int (g i j)) f := fun x y d v u G H Q k bx bY sg q => by
  obtain ⟨i, j, rfl, rfl, hc, rfl⟩ := hf x y d k
  cases bx.int'
  cases bY.int'
  exact ⟨_, _, rfl, rfl, hc, q _ G H (Gw.refl sg) (.int _)⟩
theorem opd_int0 {g : Int → Int → Int} {W : Wd} {f : D → D → Option D} (hf : ∀ x y d, f x y = some d → ∃ i j, x = .int i ∧ y = .int j ∧ d = .int (g i j)) : OpD W (rI0 fun i j => .int (g i j)) f := fun x y d v u G H Q k bx bY sg q => by
  obtain ⟨i, j, rfl, rfl, rfl⟩ := hf x y d k
  cases bx.int'
  cases bY.int'
  exact ⟨_, _, rfl, rfl, q _ G H (Gw.refl sg) (.int _)⟩
section
variable {a b : Expr} {pos : Pos} {Fa Fb : FE}
theorem f_sub (ha : PB X a Fa) (hb : PB X b Fb) : PF X (.BinOp a .Sub b pos) (o2 subD Fa Fb) := f_op op_sub (opd_int0 fun x y d k => by
  unfold subD at k; split at k <;> cases k; exact ⟨_, _, rfl, rfl, rfl⟩) ha hb
theorem f_mul (ha : PB X a Fa) (hb : PB X b Fb) : PF X (.BinOp a .Mult b pos) (o2 mulD Fa Fb) := f_op (op_mul.or op_mul_str) (fun x y d v u G H Q k bx bY sg q => by
  unfold mulD at k
  split at k
  · split at k
    · rename_i hz
      cases k
      cases bx.int'
      cases bY.int'
      exact .inl ⟨_, _, rfl, rfl, hz, q _ G H (Gw.refl sg) (.int _)⟩
    · cases k
  · split at k
    · rename_i hz
      cases k
      cases bx.str'
      cases bY.int'
      exact .inr ⟨_, _, rfl, rfl, hz, q _ G H (Gw.refl sg) (.str _)⟩
    · cases k
  · cases k) ha hb
theorem f_fdiv (ha : PB X a Fa) (hb : PB X b Fb) : PF X (.BinOp a .FloorDiv b pos) (o2 fdivD Fa Fb) := f_op op_fdiv (fun x y d v u G H Q k bx bY sg q => by
  unfold fdivD at k
  split at k
  · split at k
    · rename_i hz
      cases k
      cases bx.int'
      cases bY.int'
      exact ⟨_, _, rfl, rfl, hz, q _ G H (Gw.refl sg) (.int _)⟩
    · cases k
  · cases k) ha hb
theorem f_mod (ha : PB X a Fa) (hb : PB X b Fb) : PF X (.BinOp a .Mod b pos) (o2 modD Fa Fb) := f_op op_mod (fun x y d v u G H Q k bx bY sg q => by
  unfold modD at k
  split at k
  · split at k
    · rename_i hz
      cases k
      cases bx.int'
      cases bY.int'
      exact ⟨_, _, rfl, rfl, hz, q _ G H (Gw.refl sg) (.int _)⟩
    · cases k
  · cases k) ha hb
theorem f_pow (ha : PB X a Fa) (hb : PB X b Fb) : PF X (.BinOp a .Pow b pos) (o2 powD Fa Fb) := f_op op_pow (fun x y d v u G H Q k bx bY sg q => by
  unfold powD at k
  split at k
  · split at k
    · rename_i hz
      cases k
      cases bx.int'
      cases bY.int'
      exact ⟨_, _, rfl, rfl, hz, q _ G H (Gw.refl sg) (.int _)⟩
    · cases k
  · cases k) ha hb
theorem f_shl (ha : PB X a Fa) (hb : PB X b Fb) : PF X (.BinOp a .LShift b pos) (o2 shlD Fa Fb) := f_op op_shl (fun x y d v u G H Q k bx bY sg q => by
  unfold shlD at k
  split at k
  · split at k
    · rename_i hz
      cases k
      cases bx.int'
      cases bY.int'
      exact ⟨_, _, rfl, rfl, hz, q _ G H (Gw.refl sg) (.int _)⟩
    · cases k
  · cases k) ha hb
theorem f_shr (ha : PB X a Fa) (hb : PB X b Fb) : PF X (.BinOp a .RShift b pos) (o2 shrD Fa Fb) := f_op op_shr (fun x y d v u G H Q k bx bY sg q => by
  unfold shrD at k
  split at k
  · split at k
    · rename_i hz
      cases k
      cases bx.int'
      cases bY.int'
      exact ⟨_, _, rfl, rfl, hz, q _ G H (Gw.refl sg) (.int _)⟩
    · cases k
  · cases k) ha hb
theorem f_bitand (ha : PB X a Fa) (hb : PB X b Fb) : PF X (.BinOp a .BitAnd b pos) (o2 andD Fa Fb) := f_op op_and (opd_int0 fun x y d k => by
  unfold andD at k; split at k <;> cases k; exact ⟨_, _, rfl, rfl, rfl⟩) ha hb
theorem f_bitor (ha : PB X a Fa) (hb : PB X b Fb) : PF X (.BinOp a .BitOr b pos) (o2 orD Fa Fb) := f_op op_or (opd_int0 fun x y d k => by
  unfold orD at k; split at k <;> cases k; exact ⟨_, _, rfl, rfl, rfl⟩) ha hb
def negD : D → Option D
  | .int i => some (.int (-i))
  | _ => none
theorem f_neg (ha : PB X a Fa) : PF X (.UnaryOp .USub a pos) (o1 negD Fa) := PE.weak (pe_un un_neg ha) fun σ H Q ⟨B, G, ρ, d, r, k, q⟩ => by
  obtain ⟨x, hx, k⟩ := Option.bind_eq_some_iff.mp k
  refine ⟨B, G, ρ, x, r, hx, fun v G1 H1 w1 b1 => ?_⟩
  unfold negD at k
  split at k
  · cases k
    cases b1.int'
    exact ⟨_, rfl, q _ G1 H1 w1 (.int _)⟩
  · cases k
end
end
end DV
end

set_option Elab.async false
set_option linter.all false
set_option maxRecDepth 100000
/-! DVe: comparisons by data: ==, !=, <, <=, is, in. -/
noncomputable section
namespace DV
open PySem PySem.Spec PyProof.Rows L2

def CmpR (X : Cx) (op : CmpOp) (f : D → D → Option D) : Prop := ∃ r, OpR X (compareOp op) r ∧ OpD X.wd r f
section
variable {X : Cx} {op op' : CmpOp} {f f' : D → D → Option D} {a b c : Expr} {pos : Pos} {Fa Fb Fc : FE}
theorem f_cm (h : CmpR X op f) (ha : PB X a Fa) (hb : PB X b Fb) (hm : behindInMarks op b = false) : PF X (.Compare a [op] [b] pos) (o2 f Fa Fb) := let ⟨_, h1, h2⟩ := h; f_cmp h1 h2 ha hb hm
theorem t_cm (h : CmpR X op f) (ha : PB X a Fa) (hb : PB X b Fb) (hm : behindInMarks op b = false) : PTD X (.Compare a [op] [b] pos) (toT (o2 f Fa Fb)) := let ⟨_, h1, h2⟩ := h; t_cmp h1 h2 ha hb hm
/-- a < b < c -/
def o3c (f f' : D → D → Option D) (a b c : FE) : FE := fun ρ => (a ρ).bind fun x => (b ρ).bind fun y => ((f x y).bind asB).bind fun k => if k = true then (c ρ).bind fun z => f' y z else some (.bool false)
theorem chain_r {r r' : R2} (h2 : OpD X.wd r f) (h2' : OpD X.wd r' f') {σ : L2.St} {H : Hp} {Q : VK} (h : tF X.wd (o3c f f' Fa Fb Fc) σ H Q) : tChain r r' (tB X.wd Fa) (tB X.wd Fb) (tB X.wd Fc) σ H Q := by
  obtain ⟨B, G, ρ, d, rp, k, q⟩ := h
  obtain ⟨x, hx, k⟩ := Option.bind_eq_some_iff.mp k
  obtain ⟨y, hy, k⟩ := Option.bind_eq_some_iff.mp k
  obtain ⟨c, hc, k⟩ := Option.bind_eq_some_iff.mp k
  obtain ⟨d1, hd1, hc⟩ := Option.bind_eq_some_iff.mp hc
  refine ⟨B, G, ρ, x, rp, hx, fun v G1 H1 w1 b1 => ⟨B, G1, ρ, y, rp.step w1, hy, fun u G2 H2 w2 b2 => ?_⟩⟩
  refine h2 x y d1 v u G2 H2 _ hd1 (b1.step w2) b2 w2.gh fun z G3 H3 w3 rz => ?_
  cases d1 <;> first | cases hc | skip
  cases rz
  refine ⟨_, rfl, ?_⟩
  by_cases e : c = true
  · rw [if_pos e] at k ⊢
    obtain ⟨z, hz, k⟩ := Option.bind_eq_some_iff.mp k
    exact ⟨B, G3, ρ, z, ((rp.step w1).step w2).step w3, hz, fun t G4 H4 w4 b4 => h2' y z d u t G4 H4 Q k ((b2.step w3).step w4) b4 w4.gh fun z' G5 H5 w5 rz => q z' G5 H5 ((((w1.trans w2).trans w3).trans w4).trans w5) rz⟩
  · rw [if_neg e] at k ⊢
    cases k
    exact q _ G3 H3 ((w1.trans w2).trans w3) (.bl _)
theorem f_chain (h : CmpR X op f) (h' : CmpR X op' f') (ha : PB X a Fa) (hb : PB X b Fb) (hc : PB X c Fc) (hm : lastMarks [op, op'] [b, c] = false := by with_unfolding_all rfl) : PF X (.Compare a [op, op'] [b, c] pos) (o3c f f' Fa Fb Fc) :=
  let ⟨_, h1, h2⟩ := h
  let ⟨_, h1', h2'⟩ := h'
  PE.weak (pe_chain h1 h1' ha hb hc hm) fun _ _ _ q => chain_r h2 h2' q
theorem t_chain (h : CmpR X op f) (h' : CmpR X op' f') (ha : PB X a Fa) (hb : PB X b Fb) (hc : PB X c Fc) (hm : lastMarks [op, op'] [b, c] = false := by with_unfolding_all rfl) : PTD X (.Compare a [op, op'] [b, c] pos) (toT (o3c f f' Fa Fb Fc)) :=
  let ⟨_, h1, h2⟩ := h
  let ⟨_, h1', h2'⟩ := h'
  PT.weak (pt_chain h1 h1' ha hb hc hm) fun σ H Q q => by
    obtain ⟨B, G, ρ, c, rp, k, q⟩ := q
    obtain ⟨d, hd, k⟩ := Option.bind_eq_some_iff.mp k
    refine chain_r h2 h2' (Q := fun x H' => ∃ k, x = .bl k ∧ Q k H') ⟨B, G, ρ, d, rp, hd, fun v G' H' w rv => ?_⟩
    cases d <;> first | cases k | skip
    cases rv
    exact ⟨_, rfl, q G' H' w⟩
end

/-! ### == -/
section
variable {W : Wd} {G H : Hp}
mutual
theorem Rep.dp (sg : Same G H) : ∀ (d : D) (v : V), Rep W G d v → d.canLay0 = true → Dp W.K H v d
  | .none, _, h, _ => by cases h; exact .non
  | .bool b, _, h, _ => by cases h; exact .bl b
  | .int i, _, h, _ => by cases h; exact .int i
  | .str x, _, h, _ => by cases h; exact .str x
  | .list ds, _, h, hl => by
    cases h with
    | lst h1 h2 => exact .lst (SqL.of (sg _ _ h1)) (Reps.dp sg ds _ h2 hl)
  | .tuple ds, _, h, hl => by
    cases h with
    | tup h1 h2 => exact .tup (SqT.of (sg _ _ h1)) (Reps.dp sg ds _ h2 hl)
  | .dict _, _, _, hl => by cases hl
theorem Reps.dp (sg : Same G H) : ∀ (ds : List D) (vs : List V), Reps W G ds vs → PyData.canLayAll0 ds = true → DpAll W.K H vs ds
  | [], _, h, _ => by cases h; exact .nil
  | d :: ds, _, h, hl => by
    cases h with
    | cons h1 h2 =>
      have := (Bool.and_eq_true _ _).mp hl
      exact .cons (Rep.dp sg d _ h1 this.1) (Reps.dp sg ds _ h2 this.2)
end
theorem Bor.dp {d : D} {v : V} (sg : Same G H) (b : Bor W G H d v) (hl : d.canLay0 = true) : Dp W.K H v d := by
  rcases b with b | ⟨p, e, t⟩
  · exact b.dp sg _ _ hl
  · subst e
    cases t with
    | lst h r => exact .lst (SqL.of h) (r.dp sg _ _ hl)
    | dcK => cases hl
    | dcT => cases hl
    | dcN => cases hl
end
section
local instance (priority := 1000000) cde1 (p : Prop) : Decidable p := Classical.propDecidable p
def eqG (x y : D) : Option D := if SeqAt.shaped x = true ∧ SeqAt.shaped y = true then some (.bool (PyData.eqv x y)) else none
end
def eqD : D → D → Option D
  | .int i, .int j => some (.bool (decide (i = j)))
  | .str i, .str j => some (.bool (decide (i = j)))
  | .bool i, .bool j => some (.bool (decide (i = j)))
  | .none, .none => some (.bool true)
  | .none, .int _ => some (.bool false)
  | .int _, .none => some (.bool false)
  | .none, .str _ => some (.bool false)
  | .str _, .none => some (.bool false)
  | .int _, .str _ => some (.bool false)
  | .str _, .int _ => some (.bool false)
  | x, y => eqG x y
def neD (x y : D) : Option D := ((eqD x y).bind asB).map fun b => .bool (!b)
theorem fin_b {W : Wd} {G H : Hp} {Q : VK} {b c : Bool} (sg : Same G H) (e : b = c) (q : ∀ z G' H', Gw G H G' H' → Rep W G' (.bool b) z → Q z H') : Q (.bl c) H := by
  subst e
  exact q _ G H (Gw.refl sg) (.bl _)
section
variable {X : Cx}
theorem c_eq (hu : X.A.units + 64 < cLine) : CmpR X .Eq eqD := ⟨_, op_eq.or (op_eqD hu), fun x y d v u G H Q k bx bY sg q => by
  unfold eqD at k
  split at k
  · cases k; cases bx.int'; cases bY.int'; exact .inl ⟨rfl, fin_b sg (by simp) q⟩
  · cases k; cases bx.str'; cases bY.str'; exact .inl ⟨rfl, fin_b sg (by simp) q⟩
  · cases k; cases bx.bl'; cases bY.bl'; exact .inl ⟨rfl, fin_b sg (by simp) q⟩
  · cases k; cases bx.non'; cases bY.non'; exact .inl ⟨rfl, fin_b sg (by simp) q⟩
  · cases k; cases bx.non'; cases bY.int'; exact .inl ⟨rfl, fin_b sg (by simp) q⟩
  · cases k; cases bx.int'; cases bY.non'; exact .inl ⟨rfl, fin_b sg (by simp) q⟩
  · cases k; cases bx.non'; cases bY.str'; exact .inl ⟨rfl, fin_b sg (by simp) q⟩
  · cases k; cases bx.str'; cases bY.non'; exact .inl ⟨rfl, fin_b sg (by simp) q⟩
  · cases k; cases bx.int'; cases bY.str'; exact .inl ⟨rfl, fin_b sg (by simp) q⟩
  · cases k; cases bx.str'; cases bY.int'; exact .inl ⟨rfl, fin_b sg (by simp) q⟩
  · unfold eqG at k
    split at k
    · rename_i hs
      cases k
      exact .inr ⟨_, _, bx.dp sg (SeqAt.canLay_of_shaped hs.1), bY.dp sg (SeqAt.canLay_of_shaped hs.2), hs.1, hs.2, fin_b sg rfl q⟩
    · cases k⟩
theorem c_ne (hu : X.A.units + 64 < cLine) : CmpR X .NotEq neD := ⟨_, op_ne.or (op_neD hu), fun x y d v u G H Q k bx bY sg q => by
  obtain ⟨c, hc, k⟩ := Option.map_eq_some_iff.mp k
  obtain ⟨e, he, hc⟩ := Option.bind_eq_some_iff.mp hc
  subst k
  unfold eqD at he
  split at he
  · cases he; cases hc; cases bx.int'; cases bY.int'; exact .inl ⟨rfl, fin_b sg (by simp) q⟩
  · cases he; cases hc; cases bx.str'; cases bY.str'; exact .inl ⟨rfl, fin_b sg (by simp) q⟩
  · cases he; cases hc; cases bx.bl'; cases bY.bl'; exact .inl ⟨rfl, fin_b sg (by simp) q⟩
  · cases he; cases hc; cases bx.non'; cases bY.non'; exact .inl ⟨rfl, fin_b sg (by simp) q⟩
  · cases he; cases hc; cases bx.non'; cases bY.int'; exact .inl ⟨rfl, fin_b sg (by simp) q⟩
  · cases he; cases hc; cases bx.int'; cases bY.non'; exact .inl ⟨rfl, fin_b sg (by simp) q⟩
  · cases he; cases hc; cases bx.non'; cases bY.str'; exact .inl ⟨rfl, fin_b sg (by simp) q⟩
  · cases he; cases hc; cases bx.str'; cases bY.non'; exact .inl ⟨rfl, fin_b sg (by simp) q⟩
  · cases he; cases hc; cases bx.int'; cases bY.str'; exact .inl ⟨rfl, fin_b sg (by simp) q⟩
  · cases he; cases hc; cases bx.str'; cases bY.int'; exact .inl ⟨rfl, fin_b sg (by simp) q⟩
  · unfold eqG at he
    split at he
    · rename_i hs
      cases he
      cases hc
      exact .inr ⟨_, _, bx.dp sg (SeqAt.canLay_of_shaped hs.1), bY.dp sg (SeqAt.canLay_of_shaped hs.2), hs.1, hs.2, fin_b sg rfl q⟩
    · cases he⟩

/-! ### <, <=, >, >= -/
def ltD : D → D → Option D
  | .int i, .int j => some (.bool (decide (i < j)))
  | .str i, .str j => some (.bool (decide (i.cps.toList < j.cps.toList)))
  | _, _ => none
def leD : D → D → Option D
  | .int i, .int j => some (.bool (decide (i ≤ j)))
  | _, _ => none
def gtD : D → D → Option D
  | .int i, .int j => some (.bool (decide (j < i)))
  | _, _ => none
def geD : D → D → Option D
  | .int i, .int j => some (.bool (decide (j ≤ i)))
  | _, _ => none
theorem c_lt : CmpR X .Lt ltD := ⟨_, op_lt.or op_lt_str, fun x y d v u G H Q k bx bY sg q => by
  unfold ltD at k
  split at k
  · cases k; cases bx.int'; cases bY.int'; exact .inl ⟨_, _, rfl, rfl, fin_b sg rfl q⟩
  · cases k; cases bx.str'; cases bY.str'; exact .inr ⟨_, _, rfl, rfl, fin_b sg rfl q⟩
  · cases k⟩
theorem c_le : CmpR X .LtE leD := ⟨_, op_le, fun x y d v u G H Q k bx bY sg q => by
  unfold leD at k
  split at k
  · cases k; cases bx.int'; cases bY.int'; exact ⟨_, _, rfl, rfl, fin_b sg rfl q⟩
  · cases k⟩
theorem c_gt : CmpR X .Gt gtD := ⟨_, op_gt, fun x y d v u G H Q k bx bY sg q => by
  unfold gtD at k
  split at k
  · cases k; cases bx.int'; cases bY.int'; exact ⟨_, _, rfl, rfl, fin_b sg rfl q⟩
  · cases k⟩
theorem c_ge : CmpR X .GtE geD := ⟨_, op_ge, fun x y d v u G H Q k bx bY sg q => by
  unfold geD at k
  split at k
  · cases k; cases bx.int'; cases bY.int'; exact ⟨_, _, rfl, rfl, fin_b sg rfl q⟩
  · cases k⟩

/-! ### is None, is True -/
def isNb : D → Bool
  | .none => true
  | _ => false
def isD : D → D → Option D
  | .bool a, .bool b => some (.bool (decide (a = b)))
  | x, .none => some (.bool (isNb x))
  | _, _ => none
def isnD (x y : D) : Option D := ((isD x y).bind asB).map fun b => .bool (!b)
theorem Bor.isN {W : Wd} {G H : Hp} {d : D} {v : V} (b : Bor W G H d v) : isNb d = decide (v = .non) := by
  rcases b with b | ⟨p, e, t⟩
  · cases b <;> simp [isNb, scrD]
  · subst e
    cases t <;> simp [isNb]
theorem c_is : CmpR X .Is isD := ⟨_, op_isN.or op_is_bl, fun x y d v u G H Q k bx bY sg q => by
  unfold isD at k
  split at k
  · cases k; cases bx.bl'; cases bY.bl'; exact .inr ⟨_, _, rfl, rfl, fin_b sg rfl q⟩
  · cases k; cases bY.non'; exact .inl ⟨rfl, fin_b sg bx.isN q⟩
  · cases k⟩
theorem c_isn : CmpR X .IsNot isnD := ⟨_, op_notN.or op_isnot_bl, fun x y d v u G H Q k bx bY sg q => by
  obtain ⟨c, hc, k⟩ := Option.map_eq_some_iff.mp k
  obtain ⟨e, he, hc⟩ := Option.bind_eq_some_iff.mp hc
  subst k
  unfold isD at he
  split at he
  · cases he; cases hc; cases bx.bl'; cases bY.bl'; exact .inr ⟨_, _, rfl, rfl, fin_b sg rfl q⟩
  · cases he; cases hc; cases bY.non'; exact .inl ⟨rfl, fin_b sg (by rw [bx.isN]) q⟩
  · cases he⟩
end
end DV
end

set_option Elab.async false
set_option linter.all false
set_option maxRecDepth 100000
/-! DVf: keys of dicts, in, subscripts, slices, displays, len, stores into what is owned. -/
noncomputable section
namespace DV
open PySem PySem.Spec PyProof.Rows L2

/-! ### keys -/
mutual
def keq : D → D → Bool
  | .none, .none => true
  | .int i, .int j => decide (i = j)
  | .str x, .str y => decide (x = y)
  | .tuple xs, .tuple ys => keqs xs ys
  | _, _ => false
def keqs : List D → List D → Bool
  | [], [] => true
  | x :: xs, y :: ys => keq x y && keqs xs ys
  | _, _ => false
end
def keyOf : D → Option Key
  | .int i => some (.inl i)
  | .str x => some (.inr x)
  | _ => none
def keysOf : List D → Option (List Key)
  | [] => some []
  | d :: ds => (keyOf d).bind fun k => (keysOf ds).map fun ks => k :: ks
def tkeyOf : D → Option (List Key)
  | .tuple ds => keysOf ds
  | _ => none
def dget (kvs : List (D × D)) (k : D) : Option D := (kvs.find? fun p => keq p.1 k).map (·.2)
def dput (kvs : List (D × D)) (k v : D) : List (D × D) :=
  if (kvs.any fun p => keq p.1 k) = true then kvs.map (fun p => if keq p.1 k = true then (p.1, v) else p) else kvs ++ [(k, v)]
theorem keyOf_some {d : D} {k : Key} (h : keyOf d = some k) : d = keyD k := by
  unfold keyOf at h
  split at h <;> cases h <;> rfl
theorem keysOf_some : ∀ {ds : List D} {ks : List Key}, keysOf ds = some ks → ds = ks.map keyD
  | [], ks, h => by cases h; rfl
  | d :: ds, ks, h => by
    obtain ⟨k, hk, h⟩ := Option.bind_eq_some_iff.mp h
    obtain ⟨ks', hks, h⟩ := Option.map_eq_some_iff.mp h
    subst h
    rw [keyOf_some hk, keysOf_some hks]
    rfl
theorem tkeyOf_some {d : D} {ks : List Key} (h : tkeyOf d = some ks) : d = .tuple (ks.map keyD) := by
  unfold tkeyOf at h
  split at h
  · rw [keysOf_some h]
  · cases h
theorem keq_key (a b : Key) : keq (keyD a) (keyD b) = decide (a = b) := by
  cases a <;> cases b <;> simp [keyD, keq]
theorem keqs_key : ∀ (a b : List Key), keqs (a.map keyD) (b.map keyD) = decide (a = b)
  | [], [] => by simp [keqs]
  | [], _ :: _ => by simp [keqs]
  | _ :: _, [] => by simp [keqs]
  | a :: as, b :: bs => by
    rw [List.map_cons, List.map_cons, keqs, keq_key, keqs_key as bs, Bool.eq_iff_iff]
    simp
theorem keq_tkey (a b : List Key) : keq (.tuple (a.map keyD)) (.tuple (b.map keyD)) = decide (a = b) := by rw [keq, keqs_key]

def RepO (W : Wd) (G : Hp) : Option D → Option V → Prop
  | some d, some v => Rep W G d v
  | none, none => True
  | _, _ => False
section
variable {W : Wd} {G H : Hp} {κ : Type} [DecidableEq κ] {enc : κ → D} (he : ∀ a b, keq (enc a) (enc b) = decide (a = b))
include he
theorem get_rel (k : κ) : ∀ {kvs : List (D × D)} {kv : List (κ × V)}, kvs.map (·.1) = kv.map (fun p => enc p.1) → Reps W G (kvs.map (·.2)) (kv.map (·.2)) → RepO W G (dget kvs (enc k)) (valV kv k)
  | [], [], _, _ => trivial
  | [], _ :: _, h, _ => by cases h
  | _ :: _, [], h, _ => by cases h
  | p :: kvs, q :: kv, h, r => by
    rw [List.map_cons, List.map_cons] at h r
    injection h with h1 h2
    cases r with
    | cons r1 r2 =>
      unfold dget
      rw [List.find?_cons]
      by_cases e : q.1 = k
      · rw [h1, he, decide_eq_true e, valV_pos e]
        exact r1
      · rw [h1, he, decide_eq_false e, valV_neg e]
        exact get_rel k h2 r2
theorem any_rel (k : κ) : ∀ {kvs : List (D × D)} {kv : List (κ × V)}, kvs.map (·.1) = kv.map (fun p => enc p.1) → (kvs.any fun p => keq p.1 (enc k)) = kv.any fun q => decide (q.1 = k)
  | [], [], _ => rfl
  | [], _ :: _, h => by cases h
  | _ :: _, [], h => by cases h
  | p :: kvs, q :: kv, h => by
    rw [List.map_cons, List.map_cons] at h
    injection h with h1 h2
    rw [List.any_cons, List.any_cons, h1, he, any_rel k h2]
theorem map_rel {k : κ} {d : D} {v : V} (hv : Rep W G d v) : ∀ {kvs : List (D × D)} {kv : List (κ × V)}, kvs.map (·.1) = kv.map (fun p => enc p.1) → Reps W G (kvs.map (·.2)) (kv.map (·.2)) →
    (kvs.map (fun p => if keq p.1 (enc k) = true then (p.1, d) else p)).map (·.1) = (kv.map (fun q => if q.1 = k then (q.1, v) else q)).map (fun p => enc p.1) ∧
      Reps W G ((kvs.map (fun p => if keq p.1 (enc k) = true then (p.1, d) else p)).map (·.2)) ((kv.map (fun q => if q.1 = k then (q.1, v) else q)).map (·.2))
  | [], [], _, _ => ⟨rfl, .nil⟩
  | [], _ :: _, h, _ => by cases h
  | _ :: _, [], h, _ => by cases h
  | p :: kvs, q :: kv, h, r => by
    rw [List.map_cons, List.map_cons] at h r
    injection h with h1 h2
    cases r with
    | cons r1 r2 =>
      obtain ⟨g1, g2⟩ := map_rel hv h2 r2
      by_cases e : q.1 = k
      · have e' : keq p.1 (enc k) = true := by rw [h1, he, decide_eq_true e]
        simp only [List.map_cons, if_pos e, if_pos e']
        exact ⟨by rw [h1, g1], .cons hv g2⟩
      · have e' : ¬ keq p.1 (enc k) = true := by rw [h1, he, decide_eq_false e]; exact Bool.false_ne_true
        simp only [List.map_cons, if_neg e, if_neg e']
        exact ⟨by rw [h1, g1], .cons r1 g2⟩
theorem put_rel {k : κ} {d : D} {v : V} (hv : Rep W G d v) {kvs : List (D × D)} {kv : List (κ × V)} (h : kvs.map (·.1) = kv.map (fun p => enc p.1)) (r : Reps W G (kvs.map (·.2)) (kv.map (·.2))) :
    (dput kvs (enc k) d).map (·.1) = (putK kv k v).map (fun p => enc p.1) ∧ Reps W G ((dput kvs (enc k) d).map (·.2)) ((putK kv k v).map (·.2)) := by
  unfold dput putK
  rw [any_rel he k h]
  split
  · exact map_rel he hv h r
  · simp only [List.map_append, List.map_cons, List.map_nil]
    exact ⟨by rw [h], r.append (.cons hv .nil)⟩
end
theorem RepO.some {W : Wd} {G : Hp} {d : D} {o : Option V} (h : RepO W G (some d) o) : ∃ v, o = some v ∧ Rep W G d v := by
  cases o with
  | none => exact h.elim
  | some v => exact ⟨v, rfl, h⟩
theorem RepO.isSome {W : Wd} {G : Hp} {x : Option D} {o : Option V} (h : RepO W G x o) : x.isSome = o.isSome := by
  cases x <;> cases o <;> first | rfl | exact h.elim
theorem Rep.key {W : Wd} {G H : Hp} {k : Key} {v : V} (b : Bor W G H (keyD k) v) : v = kV k := by
  cases k with
  | inl i => exact b.int'
  | inr x => exact b.str'
theorem Reps.keys {W : Wd} {G : Hp} : ∀ {ks : List Key} {vs : List V}, Reps W G (ks.map keyD) vs → vs = ks.map kV
  | [], _, h => by cases h; rfl
  | k :: ks, _, h => by
    cases h with
    | cons h1 h2 => rw [Rep.key (k := k) (H := G) (.inl h1), Reps.keys h2]; rfl
theorem Bor.dk {W : Wd} {G H : Hp} {kvs : List (D × D)} {v : V} (sg : Same G H) (b : Bor W G H (.dict ((.none, .int 0) :: kvs)) v) : ∃ a kv, v = .ref a ∧ Rd H a (.dK kv) ∧ kvs.map (·.1) = kv.map (fun p => keyD p.1) ∧ Reps W G (kvs.map (·.2)) (kv.map (·.2)) := by
  rcases b with b | ⟨p, e, t⟩
  · cases b with
    | dcK h1 h2 h3 => exact ⟨_, _, rfl, .inr ⟨_, sg _ _ h1⟩, h2, h3⟩
  · cases t with
    | dcK h1 h2 h3 => exact ⟨_, _, e, .inl h1, h2, h3⟩
theorem Bor.dt {W : Wd} {G H : Hp} {kvs : List (D × D)} {v : V} (sg : Same G H) (b : Bor W G H (.dict ((.none, .int 1) :: kvs)) v) : ∃ a kv, v = .ref a ∧ Rd H a (.dT kv) ∧ kvs.map (·.1) = kv.map (fun p => .tuple (p.1.map keyD)) ∧ Reps W G (kvs.map (·.2)) (kv.map (·.2)) := by
  rcases b with b | ⟨p, e, t⟩
  · cases b with
    | dcT h1 h2 h3 => exact ⟨_, _, rfl, .inr ⟨_, sg _ _ h1⟩, h2, h3⟩
  · cases t with
    | dcT h1 h2 h3 => exact ⟨_, _, e, .inl h1, h2, h3⟩

/-! ### in, not in -/
def toV : D → V
  | .bool b => .bl b
  | .int i => .int i
  | .str x => .str x
  | _ => .non
def flatD : D → Bool
  | .none => true
  | .bool _ => true
  | .int _ => true
  | .str _ => true
  | _ => false
theorem Rep.flat {W : Wd} {G : Hp} {d : D} {v : V} (h : Rep W G d v) (f : flatD d = true) : v = toV d ∧ flatV v = true := by
  cases h <;> first | exact ⟨rfl, rfl⟩ | cases f
theorem Bor.flat {W : Wd} {G H : Hp} {d : D} {v : V} (h : Bor W G H d v) (f : flatD d = true) : v = toV d ∧ flatV v = true := by
  rcases h with h | ⟨p, e, t⟩
  · exact h.flat f
  · cases t <;> cases f
theorem Reps.flat {W : Wd} {G : Hp} : ∀ {ds : List D} {vs : List V}, Reps W G ds vs → ds.all flatD = true → vs = ds.map toV ∧ vs.all flatV = true
  | _, _, .nil, _ => ⟨rfl, rfl⟩
  | _, _, .cons h t, f => by
    rw [List.all_cons] at f
    obtain ⟨f1, f2⟩ := (Bool.and_eq_true _ _).mp f
    obtain ⟨e1, e2⟩ := Rep.flat h f1
    obtain ⟨e3, e4⟩ := Reps.flat t f2
    exact ⟨by rw [e1, e3]; rfl, by rw [List.all_cons, e2, e4]; rfl⟩
section
local instance (priority := 1000000) cdf1 (p : Prop) : Decidable p := Classical.propDecidable p
def inL (x : D) (ds : List D) : Option Bool :=
  if flatD x = true ∧ ds.all flatD = true then some (inV (toV x) (ds.map toV)) else if SeqAt.shaped x = true ∧ SeqAt.shaped (.list ds) = true then some (ds.any fun z => PyData.eqv z x) else none
def inT (x : D) (ds : List D) : Option Bool :=
  if flatD x = true ∧ ds.all flatD = true then some (inV (toV x) (ds.map toV)) else none
end
def inB : D → D → Option Bool
  | x, .dict ((.none, .int 0) :: kvs) => (keyOf x).map fun _ => (dget kvs x).isSome
  | x, .dict ((.none, .int 1) :: kvs) => (tkeyOf x).map fun _ => (dget kvs x).isSome
  | .str x, .str y => match x.cps.toList with
    | [c] => some (decide (c ∈ y.cps.toList))
    | _ => none
  | x, .list ds => inL x ds
  | x, .tuple ds => inT x ds
  | _, _ => none
def inD (x y : D) : Option D := (inB x y).map .bool
def ninD (x y : D) : Option D := (inB x y).map fun b => .bool (!b)
def rInDict : R2 := fun x y H Q => ∃ a o, y = .ref a ∧ DGet H a x o ∧ Q (.bl o.isSome) H
def rNinDict : R2 := fun x y H Q => ∃ a o, y = .ref a ∧ DGet H a x o ∧ Q (.bl (!o.isSome)) H
section
variable {X : Cx}
theorem op_inDict (hu : X.A.units + 1 < cLine) : OpR X (compareOp .In) rInDict := by
  intro pins s σ H x y v u Q I rx ry h
  obtain ⟨a, o, rfl, g, q⟩ := h
  cases ry
  exact d_in hu I g rx fun s3 I3 => ⟨.bl o.isSome, H, I3, rfl, q⟩
theorem op_ninDict (hu : X.A.units + 1 < cLine) : OpR X (compareOp .NotIn) rNinDict := by
  intro pins s σ H x y v u Q I rx ry h
  obtain ⟨a, o, rfl, g, q⟩ := h
  cases ry
  exact d_notIn hu I g rx fun s3 I3 => ⟨.bl (!o.isSome), H, I3, rfl, q⟩
theorem sign_of {x : Str} {c : Nat} (h : x.cps.toList = [c]) : x = ⟨#[c]⟩ := by
  obtain ⟨a⟩ := x
  simp only at h
  have : a = #[c] := by
    apply Array.ext'
    simpa using h
  rw [this]
theorem getK {W : Wd} {G H : Hp} {a : Addr} {x : D} {v : V} {kvs : List (D × D)} {kv : List (Key × V)} {k : Key} (h1 : Rd H a (.dK kv)) (h2 : kvs.map (·.1) = kv.map (fun p => keyD p.1)) (h3 : Reps W G (kvs.map (·.2)) (kv.map (·.2))) (hk : keyOf x = some k) (b : Bor W G H x v) :
    DGet H a v (valV kv k) ∧ RepO W G (dget kvs x) (valV kv k) := by
  cases keyOf_some hk
  exact ⟨.inl ⟨kv, k, h1, Rep.key b, rfl⟩, get_rel keq_key k h2 h3⟩
theorem getT {W : Wd} {G H : Hp} {a : Addr} {x : D} {v : V} {kvs : List (D × D)} {kv : List (List Key × V)} {k : List Key} (sg : Same G H) (h1 : Rd H a (.dT kv)) (h2 : kvs.map (·.1) = kv.map (fun p => .tuple (p.1.map keyD))) (h3 : Reps W G (kvs.map (·.2)) (kv.map (·.2))) (hk : tkeyOf x = some k) (b : Bor W G H x v) :
    DGet H a v (valV kv k) ∧ RepO W G (dget kvs x) (valV kv k) := by
  cases tkeyOf_some hk
  obtain ⟨p, xs, rfl, g1, g2, r⟩ := b.tup' sg
  cases Reps.keys r
  exact ⟨.inr ⟨kv, k, p, h1, rfl, g2, rfl⟩, get_rel (enc := fun k => .tuple (k.map keyD)) keq_tkey k h2 h3⟩
theorem in_all {W : Wd} {neg : Bool} {x y : D} {c : Bool} {v u : V} {G H : Hp} {Q : VK} (k : inB x y = some c) (bx : Bor W G H x v) (bY : Bor W G H y u) (sg : Same G H)
    (q : Q (.bl (if neg then !c else c)) H) : (∃ a o, u = .ref a ∧ DGet H a v o ∧ Q (.bl (if neg then !o.isSome else o.isSome)) H) ∨ (∃ (c : Nat) (z : Str), v = .str ⟨#[c]⟩ ∧ u = .str z ∧ Q (.bl (if neg then !decide (c ∈ z.cps.toList) else decide (c ∈ z.cps.toList))) H) ∨ rIn W.K neg v u H Q ∨
      (∃ d ds, Dp W.K H v d ∧ Dp W.K H u (.list ds) ∧ SeqAt.shaped d = true ∧ SeqAt.shaped (.list ds) = true ∧ Q (.bl (if neg then !ds.any fun z => PyData.eqv z d else ds.any fun z => PyData.eqv z d)) H) := by
  unfold inB at k
  split at k
  · obtain ⟨kk, hk, k⟩ := Option.map_eq_some_iff.mp k
    subst k
    obtain ⟨a, kv, rfl, h1, h2, h3⟩ := bY.dk sg
    obtain ⟨g, r⟩ := getK h1 h2 h3 hk bx
    exact .inl ⟨a, _, rfl, g, by rw [← r.isSome]; exact q⟩
  · obtain ⟨kk, hk, k⟩ := Option.map_eq_some_iff.mp k
    subst k
    obtain ⟨a, kv, rfl, h1, h2, h3⟩ := bY.dt sg
    obtain ⟨g, r⟩ := getT sg h1 h2 h3 hk bx
    exact .inl ⟨a, _, rfl, g, by rw [← r.isSome]; exact q⟩
  · split at k
    · rename_i hx
      cases k
      cases bx.str'
      cases bY.str'
      rw [sign_of hx]
      exact .inr (.inl ⟨_, _, rfl, rfl, q⟩)
    · cases k
  · unfold inL at k
    obtain ⟨a, xs, rfl, h1, r1⟩ := bY.lst' sg
    split at k
    · rename_i hf
      cases k
      obtain ⟨e1, e2⟩ := bx.flat hf.1
      obtain ⟨e3, e4⟩ := r1.flat hf.2
      refine .inr (.inr (.inl ⟨a, xs, rfl, .inl (SqL.of h1), e2, e4, ?_⟩))
      rw [e1, e3]
      exact q
    · split at k
      · rename_i hs
        cases k
        exact .inr (.inr (.inr ⟨_, _, bx.dp sg (SeqAt.canLay_of_shaped hs.1), .lst (SqL.of h1) (r1.dp sg _ _ (SeqAt.canLay_of_shaped hs.2)), hs.1, hs.2, q⟩))
      · cases k
  · unfold inT at k
    obtain ⟨a, xs, rfl, g1, h1, r1⟩ := bY.tup' sg
    split at k
    · rename_i hf
      cases k
      obtain ⟨e1, e2⟩ := bx.flat hf.1
      obtain ⟨e3, e4⟩ := r1.flat hf.2
      refine .inr (.inr (.inl ⟨a, xs, rfl, .inr (SqT.of h1), e2, e4, ?_⟩))
      rw [e1, e3]
      exact q
    · cases k
  · cases k
theorem c_in (hu : X.A.units + 65 < cLine) : CmpR X .In inD := ⟨_, (op_inDict (by omega)).or (op_in_sign.or (op_in_seq.or (op_inD hu))), fun x y d v u G H Q k bx bY sg q => by
  obtain ⟨c, hc, k⟩ := Option.map_eq_some_iff.mp k
  subst k
  exact in_all (neg := false) hc bx bY sg (q _ G H (Gw.refl sg) (.bl _))⟩
theorem c_nin (hu : X.A.units + 65 < cLine) : CmpR X .NotIn ninD := ⟨_, (op_ninDict (by omega)).or (op_notIn_sign.or (op_notIn_seq.or (op_notInD hu))), fun x y d v u G H Q k bx bY sg q => by
  obtain ⟨c, hc, k⟩ := Option.map_eq_some_iff.mp k
  subst k
  exact in_all (neg := true) hc bx bY sg (q _ G H (Gw.refl sg) (.bl _))⟩

/-! ### subscripts -/
def rIxDict : R2 := fun x y H Q => ∃ a v, x = .ref a ∧ DGet H a y (some v) ∧ Q v H
theorem ix_dict (hu : X.A.units + 1 < cLine) : IxR X rIxDict := by
  intro value slice pins s σ H x y v u Q I rx ry h hs
  obtain ⟨a, w, rfl, g, q⟩ := h
  cases rx
  exact tail_any (dict_typeIs I g) PySem.F.slot_dict_getitem.lookup (d_getItem hu I g ry fun w' s' I' rw => ⟨w, H, I', rw, q⟩) hs
section
local instance (priority := 1000000) cdf2 (p : Prop) : Decidable p := Classical.propDecidable p
def ixS (z : Str) (i : Int) : Option D := if z.length ≤ sizeLine then (atI z.cps.toList i).map fun c => .str ⟨#[c]⟩ else none
end
def ixD : D → D → Option D
  | .dict ((.none, .int 0) :: kvs), k => (keyOf k).bind fun _ => dget kvs k
  | .dict ((.none, .int 1) :: kvs), k => (tkeyOf k).bind fun _ => dget kvs k
  | .dict [(.none, .list ds)], .int i => atI ds i
  | .list ds, .int i => atI ds i
  | .tuple ds, .int i => atI ds i
  | .str z, .int i => ixS z i
  | _, _ => none
theorem Reps.atI {W : Wd} {G : Hp} {ds : List D} {vs : List V} {i : Int} {d : D} (r : Reps W G ds vs) (h : atI ds i = some d) : ∃ v, L2.atI vs i = some v ∧ Rep W G d v := by
  unfold L2.atI at h ⊢
  rw [← r.length]
  obtain ⟨j, hj, h⟩ := Option.bind_eq_some_iff.mp h
  obtain ⟨v, h1, h2⟩ := r.get h
  exact ⟨v, by rw [hj]; exact h1, h2⟩
theorem ints_rep {W : Wd} {G : Hp} : ∀ (ns : List Int), Reps W G (ns.map .int) (ns.map V.int)
  | [] => .nil
  | n :: ns => .cons (.int n) (ints_rep ns)
theorem Bor.scr {W : Wd} {G H : Hp} {ds : List D} {v : V} (sg : Same G H) (b : Bor W G H (.dict [(.none, .list ds)]) v) : ∃ (a : Addr) (ns : List Int), v = .ref a ∧ SqL W.K H a (ns.map V.int) ∧ ds = ns.map PyData.int := by
  rcases b with b | ⟨p, e, t⟩
  · generalize hd : (PyData.dict [(PyData.none, PyData.list ds)]) = d at b
    cases b <;> first | cases hd | skip
    exact ⟨_, _, rfl, sg.seq (by assumption), rfl⟩
  · cases t
theorem f_ix {a b : Expr} {pos : Pos} {Fa Fb : FE} (hu : X.A.units + 1 < cLine) (ha : PB X a Fa) (hb : PB X b Fb) (hs : PlainIx b := by exact fun _ _ => rfl) : PF X (.Subscript a b pos) (o2 ixD Fa Fb) :=
  PE.weak (pe_ix ((ix_dict hu).or ix_seq) ha hb hs) fun _ _ _ h => two (a := a) (b := b) (fun x y d v u G H Q k bx bY sg q => by
    unfold ixD at k
    split at k
    · obtain ⟨kk, hk, k⟩ := Option.bind_eq_some_iff.mp k
      obtain ⟨a, kv, rfl, h1, h2, h3⟩ := bx.dk sg
      obtain ⟨g, r⟩ := getK h1 h2 h3 hk bY
      rw [k] at r
      obtain ⟨w, ew, rw'⟩ := r.some
      rw [ew] at g
      exact .inl ⟨a, w, rfl, g, q _ G H (Gw.refl sg) rw'⟩
    · obtain ⟨kk, hk, k⟩ := Option.bind_eq_some_iff.mp k
      obtain ⟨a, kv, rfl, h1, h2, h3⟩ := bx.dt sg
      obtain ⟨g, r⟩ := getT sg h1 h2 h3 hk bY
      rw [k] at r
      obtain ⟨w, ew, rw'⟩ := r.some
      rw [ew] at g
      exact .inl ⟨a, w, rfl, g, q _ G H (Gw.refl sg) rw'⟩
    · obtain ⟨a, ns, rfl, h1, rfl⟩ := bx.scr sg
      cases bY.int'
      obtain ⟨w, ew, rw'⟩ := (ints_rep (W := X.wd) (G := G) ns).atI k
      exact .inr (.inl ⟨_, _, _, _, rfl, rfl, h1, ew, q _ G H (Gw.refl sg) rw'⟩)
    · obtain ⟨a, xs, rfl, h1, r1⟩ := bx.lst' sg
      cases bY.int'
      obtain ⟨w, ew, rw'⟩ := r1.atI k
      exact .inr (.inl ⟨_, _, _, _, rfl, rfl, SqL.of h1, ew, q _ G H (Gw.refl sg) rw'⟩)
    · obtain ⟨a, xs, rfl, g1, h1, r1⟩ := bx.tup' sg
      cases bY.int'
      obtain ⟨w, ew, rw'⟩ := r1.atI k
      exact .inr (.inr (.inl ⟨_, _, _, _, rfl, rfl, SqT.of h1, ew, q _ G H (Gw.refl sg) rw'⟩))
    · unfold ixS at k
      split at k
      · rename_i hz
        obtain ⟨c, hc, k⟩ := Option.map_eq_some_iff.mp k
        subst k
        cases bx.str'
        cases bY.int'
        exact .inr (.inr (.inr ⟨_, _, _, rfl, rfl, hz, hc, q _ G H (Gw.refl sg) (.str _)⟩))
      · cases k
    · cases k) h
end
end DV
end

set_option Elab.async false
set_option linter.all false
set_option maxRecDepth 100000
/-! DVg: slices, displays, built-ins, stores into what is owned. -/
noncomputable section
namespace DV
open PySem PySem.Spec PyProof.Rows L2

/-! ### slices -/
abbrev FP := Env → Option (Option Int)
def tP (W : Wd) (F : FP) : TO := fun σ H Q => ∃ B G ρ o, Rp W B G H ρ σ ∧ F ρ = some o ∧ ∀ G' H', Gw G H G' H' → Q o H'
abbrev POD (X : Cx) (e : Option Expr) (F : FP) : Prop := PO X e (tP X.wd F)
theorem PO.weak {X : Cx} {e : Option Expr} {t t' : TO} (h : PO X e t) (i : ∀ σ H Q, t' σ H Q → t σ H Q) : PO X e t' := ⟨fun pins s σ H Q I q => h.run pins s σ H Q I (i σ H Q q)⟩
def asI : D → Option Int
  | .int i => some i
  | _ => none
def pN : FP := fun _ => some none
def pS (F : FE) : FP := fun ρ => ((F ρ).bind asI).map some
def cutD (xs : List D) (lo hi : Option Int) : List D := (xs.drop (HT.sIx xs.length 0 lo)).take (HT.sIx xs.length xs.length hi - HT.sIx xs.length 0 lo)
section
local instance (priority := 1000000) cdg1 (p : Prop) : Decidable p := Classical.propDecidable p
def slD : D → Option Int → Option Int → Option D
  | .str z, lo, hi => if z.length ≤ sizeLine then some (.str (cutS z lo hi)) else none
  | .list ds, lo, hi => some (.list (cutD ds lo hi))
  | .tuple ds, lo, hi => some (.tuple (cutD ds lo hi))
  | _, _, _ => none
end
def eSl (a : FE) (lo hi : FP) : FE := fun ρ => (a ρ).bind fun x => (lo ρ).bind fun l => (hi ρ).bind fun h => slD x l h
section
variable {X : Cx} {e : Expr} {pos p2 : Pos} {F : FE}
theorem p_none : POD X none pN := PO.weak po_none fun σ H Q ⟨B, G, ρ, o, r, k, q⟩ => by
  cases k
  exact q G H (Gw.refl r.gh)
theorem p_some (h : PF X e F) : POD X (some e) (pS F) := PO.weak (po_some h) fun σ H Q ⟨B, G, ρ, o, r, k, q⟩ => by
  obtain ⟨i, hi, k⟩ := Option.map_eq_some_iff.mp k
  obtain ⟨d, hd, hi⟩ := Option.bind_eq_some_iff.mp hi
  subst k
  refine ⟨B, G, ρ, d, r, hd, fun v G' H' w rv => ?_⟩
  cases d <;> first | cases hi | skip
  cases rv
  exact ⟨_, rfl, q G' H' w⟩
theorem Reps.cut {W : Wd} {G : Hp} {ds : List D} {xs : List V} (r : Reps W G ds xs) (lo hi : Option Int) : Reps W G (cutD ds lo hi) (cutV xs lo hi) := by
  unfold cutD cutV
  rw [← r.length]
  exact (r.drop _).take _
theorem f_sl {lo hi : Option Expr} {L U : FP} (he : PB X e F) (hl : POD X lo L) (hu : POD X hi U) : PF X (.Subscript e (.Slice lo hi none p2) pos) (eSl F L U) :=
  PE.weak (pe_slice (sl_str.or (sl_list.or sl_tupA)) he hl hu) fun σ H Q ⟨B, G, ρ, d, r, k, q⟩ => by
    obtain ⟨x, hx, k⟩ := Option.bind_eq_some_iff.mp k
    obtain ⟨l, hl, k⟩ := Option.bind_eq_some_iff.mp k
    obtain ⟨h, hh, k⟩ := Option.bind_eq_some_iff.mp k
    refine ⟨B, G, ρ, x, r, hx, fun v G1 H1 w1 b1 => ⟨B, G1, ρ, l, r.step w1, hl, fun G2 H2 w2 => ⟨B, G2, ρ, h, (r.step w1).step w2, hh, fun G3 H3 w3 => ?_⟩⟩⟩
    have b3 := (b1.step w2).step w3
    have w := (w1.trans w2).trans w3
    have q' : ∀ z G' H', Gw G3 H3 G' H' → Rep X.wd G' d z → Q z H' := fun z G' H' w' rz => q z G' H' (w.trans w') rz
    unfold slD at k
    split at k
    · split at k
      · rename_i hz
        cases k
        cases b3.str'
        exact .inl ⟨_, rfl, hz, q' _ _ _ (Gw.refl w3.gh) (.str _)⟩
      · cases k
    · cases k
      obtain ⟨a, xs, rfl, h1, r1⟩ := b3.lst' w3.gh
      exact .inr (.inl ⟨_, _, rfl, SqL.of h1, fin_lst w3.gh (r1.cut l h) q'⟩)
    · cases k
      obtain ⟨a, xs, rfl, g1, h1, r1⟩ := b3.tup' w3.gh
      refine .inr (.inr ⟨_, _, rfl, SqT.of h1, fun hw => ?_, fun _ => fin_tup w3.gh (r1.cut l h) q'⟩)
      refine q' _ _ _ (Gw.refl w3.gh) ?_
      have e : cutV xs l h = xs := by
        unfold cutV
        rw [hw.1, hw.2]
        simp
      have := r1.cut l h
      rw [e] at this
      exact .tup g1 this
    · cases k
/-- x[::-1] of a list -/
def revD : D → Option D
  | .list ds => some (.list ds.reverse)
  | _ => none
theorem f_rev {k : Nat} {p1 p2 p3 pos : Pos} (he : PB X e F) : PF X (.Subscript e (.Slice none none (some (.UnaryOp .USub (.Constant (.int 1) k p1) p2)) p3) pos) (o1 revD F) :=
  PE.weak (pe_revL he) fun σ H Q ⟨B, G, ρ, d, r, k, q⟩ => by
    obtain ⟨x, hx, k⟩ := Option.bind_eq_some_iff.mp k
    refine ⟨B, G, ρ, x, r, hx, fun v G1 H1 w1 b1 => ?_⟩
    unfold revD at k
    split at k
    · cases k
      obtain ⟨a, xs, rfl, h1, r1⟩ := b1.lst' w1.gh
      exact ⟨_, _, rfl, SqL.of h1, fin_lst w1.gh r1.reverse fun z G' H' w' rz => q z G' H' (w1.trans w') rz⟩
    · cases k

/-! ### displays -/
section
local instance (priority := 1000000) cdg2 (p : Prop) : Decidable p := Classical.propDecidable p
def eTup (l : FL) : FE := fun ρ => (l ρ).bind fun ds => if ds.length ≤ sizeLine then some (.tuple ds) else none
def eLst (l : FL) : FE := fun ρ => (l ρ).bind fun ds => if ds.length ≤ sizeLine then some (.list ds) else none
end
variable {es : List Expr} {L : FL}
theorem f_tup {x1} (h : PAF X es L) : PF X (.Tuple es x1 pos) (eTup L) := PE.weak (pe_tup h) fun σ H Q ⟨B, G, ρ, d, r, k, q⟩ => by
  obtain ⟨ds, hd, k⟩ := Option.bind_eq_some_iff.mp k
  split at k
  · rename_i hz
    cases k
    refine ⟨B, G, ρ, ds, r, hd, fun vs G1 H1 w1 rs => ⟨by rw [← rs.length]; exact hz, fin_tup w1.gh rs fun z G' H' w' rz => q z G' H' (w1.trans w') rz⟩⟩
  · cases k
theorem Frs.new {W : Wd} {G H G1 H1 : Hp} {d : D} {p : Addr} {o : HO} (w : Gw G H G1 H1) (hp : H1 p = none) (t : Top W G1 (upd H1 p o) d p) : Gw G H G1 (upd H1 p o) ∧ Frs W G H G1 (upd H1 p o) d (.ref p) :=
  ⟨⟨w.g, w.h.trans (same_upd hp), w.gh.trans (same_upd hp), w.new⟩, p, rfl, w.h.free hp, w.gh.free hp, t⟩
theorem n_lst (h : PAF X es L) : PN X (.List es pos) (eLst L) := PE.weak (pe_lst h) fun σ H Q ⟨B, G, ρ, d, r, k, q⟩ => by
  obtain ⟨ds, hd, k⟩ := Option.bind_eq_some_iff.mp k
  split at k
  · rename_i hz
    cases k
    refine ⟨B, G, ρ, ds, r, hd, fun vs G1 H1 w1 rs => ⟨by rw [← rs.length]; exact hz, fun p hp => ?_⟩⟩
    obtain ⟨w2, f⟩ := Frs.new (o := .lst vs) (d := .list ds) w1 hp (.lst upd_same rs)
    exact q _ _ _ w2 f
  · cases k
theorem n_dK : PN X (.Dict [] [] pos) (eC (.dict [(.none, .int 0)])) := PE.weak pe_dnewK fun σ H Q ⟨B, G, ρ, d, r, k, q⟩ => by
  cases k
  intro p hp
  obtain ⟨w2, f⟩ := Frs.new (W := X.wd) (o := .dK []) (d := .dict [(.none, .int 0)]) (Gw.refl r.gh) hp (.dcK upd_same rfl .nil)
  exact q _ _ _ w2 f
theorem n_dT : PN X (.Dict [] [] pos) (eC (.dict [(.none, .int 1)])) := PE.weak pe_dnewT fun σ H Q ⟨B, G, ρ, d, r, k, q⟩ => by
  cases k
  intro p hp
  obtain ⟨w2, f⟩ := Frs.new (W := X.wd) (o := .dT []) (d := .dict [(.none, .int 1)]) (Gw.refl r.gh) hp (.dcT upd_same rfl .nil)
  exact q _ _ _ w2 f
/-- {k: v}, k an int or a text -/
def eD1 (a b : FE) : FE := fun ρ => (a ρ).bind fun x => (b ρ).bind fun y => (keyOf x).map fun _ => .dict [(.none, .int 0), (x, y)]
theorem n_d1 {k v : Expr} {Fk Fv : FE} (hk : PF X k Fk) (hv : PF X v Fv) : PN X (.Dict [some k] [v] pos) (eD1 Fk Fv) :=
  PE.weak (pe_disp (pps_cons hk hv pps_nil) (by rfl) (by rfl) (fun z => by cases z) (by show 1 ≤ 15; decide)) fun σ H Q ⟨B, G, ρ, d, r, k, q⟩ => by
    obtain ⟨x, hx, k⟩ := Option.bind_eq_some_iff.mp k
    obtain ⟨y, hy, k⟩ := Option.bind_eq_some_iff.mp k
    obtain ⟨kk, hkk, k⟩ := Option.map_eq_some_iff.mp k
    subst k
    intro p hp
    have w0 : Gw G H G (upd H p (.dK [])) := ⟨Same.refl _, same_upd hp, r.gh.trans (same_upd hp), fun _ _ e => .inl e⟩
    refine ⟨B, G, ρ, x, r.step w0, hx, fun u1 G1 H1 w1 r1 => ⟨B, G1, ρ, y, (r.step w0).step w1, hy, fun u2 G2 H2 w2 r2 => ?_⟩⟩
    have w := w1.trans w2
    have hd : H2 p = some (.dK []) := w.h _ _ upd_same
    refine ⟨hd, [(kk, u2)], ?_, (by show 1 ≤ 15; decide), ?_⟩
    · cases keyOf_some hkk
      rw [Rep.key (k := kk) (H := G1) (.inl r1)]
      rfl
    · have hg : G2 p = none := by
        cases e : G2 p with
        | none => rfl
        | some o =>
          rcases w.new p o e with z | z
          · rw [r.gh.free hp] at z; cases z
          · rcases z with z | ⟨xs, z⟩ <;> (rw [upd_same] at z; cases z)
      have e2 : (mergeK [] [(kk, u2)] : List (Key × V)) = [(kk, u2)] := rfl
      rw [e2]
      refine q _ G2 _ ⟨w.g, (fun b o e => ?_), (fun b o e => ?_), (fun b o e => ?_)⟩ ⟨p, rfl, hp, hg, .dcK upd_same (by rw [keyOf_some hkk]; rfl) (.cons r2 .nil)⟩
      · rw [upd_ne (ne_of_none e hp)]
        exact w.h b o (by rw [upd_ne (ne_of_none e hp)]; exact e)
      · rw [upd_ne (ne_of_none e hg)]
        exact w.gh b o e
      · rcases w.new b o e with z | z
        · exact .inl z
        · by_cases hb : b = p
          · subst hb; exact .inr (.inl hp)
          · unfold Nw at z; rw [upd_ne hb] at z; exact .inr z
end

/-! ### built-ins -/
section
variable {X : Cx}
theorem CallR.or {f : Value} {r r' : List V → Hp → VK → Prop} (h : CallR X f r) (h' : CallR X f r') : CallR X f (fun xs H Q => r xs H Q ∨ r' xs H Q) := by
  intro pins s σ H xs us Q I rv q
  rcases q with q | q
  · exact h pins s σ H xs us Q I rv q
  · exact h' pins s σ H xs us Q I rv q
def CallD (W : Wd) (r : List V → Hp → VK → Prop) (f : List D → Option D) : Prop :=
  ∀ (ds : List D) (d : D) (vs : List V) (G H : Hp) (Q : VK), f ds = some d → Bors W G H ds vs → Same G H → (∀ z G' H', Gw G H G' H' → Rep W G' d z → Q z H') → r vs H Q
variable {id T : String} {r : List V → Hp → VK → Prop} {f : List D → Option D} {x : Str} {p pos : Pos} {e : Expr} {es : List Expr} {L : FL}
theorem callD_tA {r : List V → Hp → VK → Prop} {f : List D → Option D} (hf : CallD X.wd r f) {σ : L2.St} {H : Hp} {Q : VK} (h : tF X.wd (eCall f L) σ H Q) : tCB r (tAB X.wd L) σ H Q := by
  obtain ⟨B, G, ρ, d, rp, k, q⟩ := h
  obtain ⟨ds, hd, k⟩ := Option.bind_eq_some_iff.mp k
  exact ⟨B, G, ρ, ds, rp, hd, fun vs G1 H1 w1 bs => hf ds d vs G1 H1 Q k bs w1.gh fun z G' H' w' rz => q z G' H' (w1.trans w') rz⟩
theorem f_bc (hc : CallR X (.builtin id) r) (hf : CallD X.wd r f) (hm : X.mg x = none) (ha : PAB X (e :: es) L) (hv : bootBuiltins x = some (.builtin id) := by decide +kernel) (hg : Gl X x := by rfl) (hn : x ≠ "__name__" := by decide) (hdb : (x == ("__debug__" : Str)) = false := by decide)
    (he : starEach (e :: es) X.env = (false, eval e X.env) :: starEach es X.env := by rfl) (hpl : (backTo pos (starEach es X.env)).any (·.1) = false := by rfl) : PF X (.Call (.Name x p) (e :: es) [] pos) (eCall f L) :=
  PE.weak (pe_callB hc hg hm hv ha hn hdb he hpl) fun _ _ _ h => callD_tA hf h
theorem f_bt (hc : CallR X (.type T) r) (hf : CallD X.wd r f) (hm : X.mg x = none) (ha : PAB X (e :: es) L) (hv : bootBuiltins x = some (.type T) := by decide +kernel) (hg : Gl X x := by rfl) (hn : x ≠ "__name__" := by decide) (hdb : (x == ("__debug__" : Str)) = false := by decide)
    (he : starEach (e :: es) X.env = (false, eval e X.env) :: starEach es X.env := by rfl) (hpl : (backTo pos (starEach es X.env)).any (·.1) = false := by rfl) : PF X (.Call (.Name x p) (e :: es) [] pos) (eCall f L) :=
  PE.weak (pe_callTy hc hg hm hv ha hn hdb he hpl) fun _ _ _ h => callD_tA hf h
theorem Bors.one {W : Wd} {G H : Hp} {d : D} {vs : List V} (b : Bors W G H [d] vs) : ∃ v, vs = [v] ∧ Bor W G H d v := by
  cases b with
  | cons b t => cases t; exact ⟨_, rfl, b⟩
theorem Bors.two {W : Wd} {G H : Hp} {d e : D} {vs : List V} (b : Bors W G H [d, e] vs) : ∃ v u, vs = [v, u] ∧ Bor W G H d v ∧ Bor W G H e u := by
  cases b with
  | cons b t => cases t with
    | cons b' t => cases t; exact ⟨_, _, rfl, b, b'⟩
/-! len -/
section
local instance (priority := 1000000) cdg3 (p : Prop) : Decidable p := Classical.propDecidable p
def lenS (z : Str) : Option D := if z.length ≤ sizeLine then some (.int z.length) else none
end
def lenF : List D → Option D
  | [.dict ((.none, .int 0) :: kvs)] => some (.int kvs.length)
  | [.dict [(.none, .list ds)]] => some (.int ds.length)
  | [.str z] => lenS z
  | [.list ds] => some (.int ds.length)
  | [.tuple ds] => some (.int ds.length)
  | _ => none
theorem call_lenR : CallR X (.builtin "len") (fun xs H Q => ∃ a kvs, xs = [V.ref a] ∧ Rd H a (.dK kvs) ∧ Q (.int kvs.length) H) := by
  intro pins s σ H xs us Q I r h
  obtain ⟨a, kvs, rfl, ha, q⟩ := h
  obtain ⟨u, rfl, ru⟩ := vals1 r
  cases ru
  exact d_len I ha fun t s' I' => ⟨.int kvs.length, H, I', ⟨t, rfl⟩, q⟩
theorem c_len : ∃ r, CallR X (.builtin "len") r ∧ CallD X.wd r lenF := ⟨_, CallR.or call_lenR call_len, fun ds d vs G H Q k bs sg q => by
  unfold lenF at k
  split at k
  · cases k
    obtain ⟨v, rfl, b⟩ := bs.one
    obtain ⟨a, kv, rfl, h1, h2, h3⟩ := b.dk sg
    refine .inl ⟨_, _, rfl, h1, q _ G H (Gw.refl sg) ?_⟩
    have e := congrArg List.length h2
    rw [List.length_map, List.length_map] at e
    rw [← e]
    exact .int _
  · cases k
    obtain ⟨v, rfl, b⟩ := bs.one
    obtain ⟨a, ns, rfl, h1, rfl⟩ := b.scr sg
    exact .inr ⟨_, _, rfl, .inl ⟨_, h1, rfl⟩, q _ G H (Gw.refl sg) (by simp only [List.length_map]; exact .int _)⟩
  · unfold lenS at k
    split at k
    · rename_i hz
      cases k
      obtain ⟨v, rfl, b⟩ := bs.one
      cases b.str'
      exact .inr ⟨_, _, rfl, ⟨hz, rfl⟩, q _ G H (Gw.refl sg) (.int _)⟩
    · cases k
  · cases k
    obtain ⟨v, rfl, b⟩ := bs.one
    obtain ⟨a, xs, rfl, h1, r1⟩ := b.lst' sg
    exact .inr ⟨_, _, rfl, .inl ⟨_, SqL.of h1, rfl⟩, q _ G H (Gw.refl sg) (by rw [← r1.length]; exact .int _)⟩
  · cases k
    obtain ⟨v, rfl, b⟩ := bs.one
    obtain ⟨a, xs, rfl, g1, h1, r1⟩ := b.tup' sg
    exact .inr ⟨_, _, rfl, .inr ⟨_, SqT.of h1, rfl⟩, q _ G H (Gw.refl sg) (by rw [← r1.length]; exact .int _)⟩
  · cases k⟩
theorem f_len (hm : X.mg "len" = none) (ha : PAB X [e] L) (hg : Gl X "len" := by rfl)
    (he : starEach [e] X.env = (false, eval e X.env) :: starEach [] X.env := by rfl) (hpl : (backTo pos (starEach [] X.env)).any (·.1) = false := by rfl) : PF X (.Call (.Name "len" p) [e] [] pos) (eCall lenF L) :=
  let ⟨_, h1, h2⟩ := c_len (X := X)
  f_bc h1 h2 hm ha PySem.boot_len hg (by decide) (by decide) he hpl
/-- abs -/
def absF : List D → Option D
  | [.int i] => some (.int (if i < 0 then -i else i))
  | _ => none
theorem f_abs (hm : X.mg "abs" = none) (ha : PAB X [e] L) (hg : Gl X "abs" := by rfl)
    (he : starEach [e] X.env = (false, eval e X.env) :: starEach [] X.env := by rfl) (hpl : (backTo pos (starEach [] X.env)).any (·.1) = false := by rfl) : PF X (.Call (.Name "abs" p) [e] [] pos) (eCall absF L) :=
  f_bc call_abs (fun ds d vs G H Q k bs sg q => by
    unfold absF at k
    split at k
    · cases k
      obtain ⟨v, rfl, b⟩ := bs.one
      cases b.int'
      exact ⟨_, rfl, q _ G H (Gw.refl sg) (.int _)⟩
    · cases k) hm ha (by decide +kernel) hg (by decide) (by decide) he hpl
/-- int of an int or a bool -/
def intF : List D → Option D
  | [.int i] => some (.int i)
  | [.bool b] => some (.int (if b then 1 else 0))
  | _ => none
theorem f_int1 (hm : X.mg "int" = none) (ha : PAB X [e] L) (hg : Gl X "int" := by rfl)
    (he : starEach [e] X.env = (false, eval e X.env) :: starEach [] X.env := by rfl) (hpl : (backTo pos (starEach [] X.env)).any (·.1) = false := by rfl) : PF X (.Call (.Name "int" p) [e] [] pos) (eCall intF L) :=
  f_bt call_int1 (fun ds d vs G H Q k bs sg q => by
    unfold intF at k
    split at k
    · cases k
      obtain ⟨v, rfl, b⟩ := bs.one
      cases b.int'
      exact .inl ⟨_, rfl, q _ G H (Gw.refl sg) (.int _)⟩
    · cases k
      obtain ⟨v, rfl, b⟩ := bs.one
      cases b.bl'
      exact .inr ⟨_, rfl, q _ G H (Gw.refl sg) (.int _)⟩
    · cases k) hm ha (by decide +kernel) hg (by decide) (by decide) he hpl
/-- the ints of a list -/
def intsOf : List D → Option (List Int)
  | [] => some []
  | .int i :: ds => (intsOf ds).map fun l => i :: l
  | _ :: _ => none
theorem intsOf_some : ∀ {ds : List D} {ns : List Int}, intsOf ds = some ns → ds = ns.map .int
  | [], ns, h => by cases h; rfl
  | d :: ds, ns, h => by
    cases d <;> first | (obtain ⟨l, hl, h⟩ := Option.map_eq_some_iff.mp h; subst h; rw [intsOf_some hl]; rfl) | cases h
theorem Reps.ints {W : Wd} {G : Hp} : ∀ {ns : List Int} {vs : List V}, Reps W G (ns.map .int) vs → vs = ns.map .int
  | [], _, h => by cases h; rfl
  | n :: ns, _, h => by
    cases h with
    | cons h1 h2 => cases h1; rw [Reps.ints h2]; rfl
def strsOf : List D → Option (List Str)
  | [] => some []
  | .str i :: ds => (strsOf ds).map fun l => i :: l
  | _ :: _ => none
theorem strsOf_some : ∀ {ds : List D} {ns : List Str}, strsOf ds = some ns → ds = ns.map .str
  | [], ns, h => by cases h; rfl
  | d :: ds, ns, h => by
    cases d <;> first | (obtain ⟨l, hl, h⟩ := Option.map_eq_some_iff.mp h; subst h; rw [strsOf_some hl]; rfl) | cases h
theorem Reps.strs {W : Wd} {G : Hp} : ∀ {ns : List Str} {vs : List V}, Reps W G (ns.map .str) vs → vs = ns.map .str
  | [], _, h => by cases h; rfl
  | n :: ns, _, h => by
    cases h with
    | cons h1 h2 => cases h1; rw [Reps.strs h2]; rfl
def sumF : List D → Option D
  | [.list ds] => (intsOf ds).map fun ns => .int ns.sum
  | [.dict [(.none, .list ds)]] => (intsOf ds).map fun ns => .int ns.sum
  | _ => none
theorem f_sum (hc : X.calm = true) (hm : X.mg "sum" = none) (ha : PAB X [e] L) (hg : Gl X "sum" := by rfl)
    (he : starEach [e] X.env = (false, eval e X.env) :: starEach [] X.env := by rfl) (hpl : (backTo pos (starEach [] X.env)).any (·.1) = false := by rfl) : PF X (.Call (.Name "sum" p) [e] [] pos) (eCall sumF L) :=
  f_bc (cr_sum hc) (fun ds d vs G H Q k bs sg q => by
    unfold sumF at k
    split at k
    · obtain ⟨ns, hn, k⟩ := Option.map_eq_some_iff.mp k
      subst k
      obtain ⟨v, rfl, b⟩ := bs.one
      obtain ⟨a, xs, rfl, h1, r1⟩ := b.lst' sg
      rw [intsOf_some hn] at r1
      cases r1.ints
      exact ⟨_, _, rfl, SqL.of h1, q _ G H (Gw.refl sg) (.int _)⟩
    · obtain ⟨ns, hn, k⟩ := Option.map_eq_some_iff.mp k
      subst k
      obtain ⟨v, rfl, b⟩ := bs.one
      obtain ⟨a, ms, rfl, h1, e1⟩ := b.scr sg
      rw [intsOf_some hn] at e1
      have : ns = ms := by
        have := congrArg (List.map (fun d => match d with | PyData.int i => i | _ => 0)) e1
        simpa [List.map_map, Function.comp_def] using this
      subst this
      exact ⟨_, _, rfl, h1, q _ G H (Gw.refl sg) (.int _)⟩
    · cases k) hm ha (by decide +kernel) hg (by decide) (by decide) he hpl
end
end DV
end

set_option Elab.async false
set_option linter.all false
set_option maxRecDepth 100000
/-! DVh: what is walked; comprehensions; stores into what is owned. -/
noncomputable section
namespace DV
open PySem PySem.Spec PyProof.Rows L2

/-! ### what a for walks: a list, a tuple, a text, a dict's keys -/
def itemsD : D → Option (List D)
  | .list ds => some ds
  | .tuple ds => some ds
  | .str z => some (z.cps.toList.map fun c => .str ⟨#[c]⟩)
  | .dict ((.none, .int 0) :: kvs) => some (kvs.map (·.1))
  | .dict ((.none, .int 1) :: kvs) => some (kvs.map (·.1))
  | _ => none
def iAny (F : FE) : FI := fun ρ => (F ρ).bind itemsD
section
variable {X : Cx} {tg e : Expr} {F : FE}
theorem itRep_seq {W : Wd} {G : Hp} {J : It} {ds : List D} {xs : List V} (r : Reps W G ds xs) (hs : ∀ H, Same G H → ∀ i : Nat, xs.length ≤ i → J.stop i H)
    (hg : ∀ H, Same G H → ∀ (i : Nat) x, xs[i]? = some x → J.go i H ∧ ∀ y H', J.yld i H y H' → H' = H ∧ y = x) : ItRep W G J ds := fun Gc H sg sh i =>
  ⟨fun hi => hs H (sg.trans sh) i (by rw [← r.length]; exact hi), fun d hd => by
    obtain ⟨x, hx, rx⟩ := r.get hd
    obtain ⟨h1, h2⟩ := hg H (sg.trans sh) i x hx
    refine ⟨h1, fun y H' hy => ?_⟩
    obtain ⟨rfl, rfl⟩ := h2 y H' hy
    exact ⟨Gc, Gw.refl sh, rx.mono sg⟩⟩
theorem reps_signs {W : Wd} {G : Hp} : ∀ l : List Nat, Reps W G (l.map fun c => .str ⟨#[c]⟩) (l.map fun c => V.str ⟨#[c]⟩)
  | [] => .nil
  | c :: l => .cons (.str _) (reps_signs l)
theorem reps_keys {W : Wd} {G : Hp} : ∀ {kvs : List (D × D)} {kv : List (Key × V)}, kvs.map (·.1) = kv.map (fun p => keyD p.1) → Reps W G (kvs.map (·.1)) (kv.map fun p => kV p.1)
  | [], [], _ => .nil
  | [], _ :: _, h => by cases h
  | _ :: _, [], h => by cases h
  | p :: kvs, q :: kv, h => by
    rw [List.map_cons, List.map_cons] at h
    injection h with h1 h2
    refine .cons ?_ (reps_keys h2)
    show Rep W G p.1 (kV q.1)
    rw [h1]
    cases q.1 with
    | inl i => exact .int i
    | inr x => exact .str x
end
/-- tuples that stand as tuples of keys -/
theorem rep_tkey {W : Wd} {G : Hp} {k : List Key} {a : Addr} (h : G a = some (.tup (k.map kV))) : Rep W G (.tuple (k.map keyD)) (.ref a) := by
  refine .tup h ?_
  clear h
  induction k with
  | nil => exact .nil
  | cons k ks ih =>
    refine .cons ?_ ih
    cases k with
    | inl i => exact .int i
    | inr x => exact .str x
theorem itRep_tkeys {W : Wd} {G : Hp} {a : Addr} {od : Obj} {kvs : List (D × D)} {kv : List (List Key × V)} (h : G a = some (.frz od (.dT kv))) (hk : kvs.map (·.1) = kv.map (fun p => .tuple (p.1.map keyD))) : ItRep W G (Itkt a od kv) (kvs.map (·.1)) := fun Gc H sg sh i =>
  ⟨fun hi => ⟨sh _ _ (sg _ _ h), by rw [hk] at hi; simpa using hi⟩, fun d hd => by
    rw [hk, List.getElem?_map] at hd
    cases q : kv[i]? with
    | none => rw [q] at hd; cases hd
    | some p =>
      rw [q] at hd
      cases hd
      refine ⟨⟨sh _ _ (sg _ _ h), (List.getElem?_eq_some_iff.mp q).1⟩, fun x H' y => ?_⟩
      obtain ⟨rfl, k, v, c, e1, rfl, e2⟩ := y
      rw [q] at e1
      cases e1
      cases g : Gc c with
      | some o =>
        have := sh _ _ g
        rw [e2] at this
        cases this
        exact ⟨Gc, Gw.refl sh, rep_tkey g⟩
      | none =>
        refine ⟨upd Gc c (.tup (k.map kV)), ⟨same_upd g, Same.refl _, fun b o e => ?_, fun b o e => ?_⟩, rep_tkey upd_same⟩
        · by_cases hb : b = c
          · subst hb; rw [upd_same] at e; cases e; exact e2
          · rw [upd_ne hb] at e; exact sh b o e
        · by_cases hb : b = c
          · subst hb; exact .inr (.inr ⟨_, e2⟩)
          · rw [upd_ne hb] at e; exact .inl e⟩
section
variable {X : Cx} {tg e : Expr} {F : FE}
theorem i_any (he : PF X e F) : PID X tg e (iAny F) := by
  refine ⟨fun pins s σ H R I h => ?_⟩
  obtain ⟨B, G, ρ, ds, rp, k, q⟩ := h
  obtain ⟨d, hd, k⟩ := Option.bind_eq_some_iff.mp k
  refine thn (he.run pins s σ H (fun v H' => ∃ G', Gw G H G' H' ∧ Rep X.wd G' d v) I ⟨B, G, ρ, d, rp, hd, fun v G' H' w r => ⟨G', w, r⟩⟩) fun u s1 ⟨v, H1, I1, rv, G1, w1, r1⟩ => ?_
  unfold itemsD at k
  split at k
  · cases k
    cases r1 with
    | @lst a xs _ h1 h2 =>
      obtain rfl : u = Value.ref a := rv
      obtain ⟨its, _, p, _⟩ := I1.list (SqL.of (K := X.K) (w1.gh _ _ h1))
      refine wpAny_pyIter_list p.isList (pi_one (tk := s1.toks) I1 _ (turn_list a _) ⟨_, Heap.get?_push_size _ rfl, rfl, rfl⟩ (q _ G1 H1 w1 (itRep_seq h2 (fun H sg i hi => ⟨xs, SqL.of (sg _ _ h1), hi⟩) fun H sg i x hx => ?_)))
      exact ⟨⟨xs, x, SqL.of (sg _ _ h1), hx⟩, fun y H' hy => ⟨hy.1, Option.some.inj ((hy.2 xs (SqL.of (sg _ _ h1))).symm.trans hx)⟩⟩
  · cases k
    cases r1 with
    | @tup a xs _ h1 h2 =>
      obtain rfl : u = Value.ref a := rv
      obtain ⟨its, _, p, _⟩ := I1.tuple (SqT.of (K := X.K) (w1.gh _ _ h1))
      refine wpAny_pyIter_tuple (show s1.heap.IsTuple a its.toArray from p) (pi_one (tk := s1.toks) I1 _ (turn_tuple a _) ⟨_, Heap.get?_push_size _ rfl, rfl, rfl⟩ (q _ G1 H1 w1 (itRep_seq h2 (fun H sg i hi => ⟨xs, SqT.of (sg _ _ h1), hi⟩) fun H sg i x hx => ?_)))
      exact ⟨⟨xs, x, SqT.of (sg _ _ h1), hx⟩, fun y H' hy => ⟨hy.1, Option.some.inj ((hy.2 xs (SqT.of (sg _ _ h1))).symm.trans hx)⟩⟩
  · rename_i z _
    cases k
    cases r1.str'
    obtain ⟨t, rfl⟩ := rv
    have R1 : R (Its z) H1 := q _ G1 H1 w1 (itRep_seq (reps_signs z.cps.toList) (fun H sg i hi => show z.cps.size ≤ i by simpa using hi) fun H sg i x hx => by
      rw [List.getElem?_map] at hx
      cases c : z.cps.toList[i]? with
      | none => rw [c] at hx; cases hx
      | some c' =>
        rw [c] at hx
        cases hx
        have hi := (List.getElem?_eq_some_iff.mp c).1
        refine ⟨show i < z.cps.size by simpa using hi, fun y H' hy => ⟨hy.1, ?_⟩⟩
        obtain ⟨_, c2, e2, rfl⟩ := hy
        rw [← Array.getElem?_toList, c] at e2
        cases e2
        rfl)
    cases hz : z.cps.all (· < 128)
    · exact wpAny_pyIter_wide hz (pi_one (tk := s1.toks) I1 _ (turn_str _ z t "str_iterator" (.inr rfl)) ⟨_, Heap.get?_push_size _ rfl, rfl, rfl⟩ R1)
    · exact wpAny_pyIter_ascii hz (pi_one (tk := s1.toks) I1 _ (turn_str _ z t "str_ascii_iterator" (.inl rfl)) ⟨_, Heap.get?_push_size _ rfl, rfl, rfl⟩ R1)
  · cases k
    cases r1 with
    | @dcK a od kv kvs h1 h2 h3 =>
      obtain rfl : u = Value.ref a := rv
      have hd' := w1.gh _ _ h1
      obtain ⟨hs, hgd, hx, es, ep, vs, hdt, hsz, _, _⟩ := I1.frzK hd'
      refine iter_keys hs hgd hx hdt (pi_one (tk := s1.toks) I1 _ (turn_keys _ hdt) ⟨_, Heap.get?_push_size _ rfl, rfl, by rw [hsz] <;> rfl⟩ (q _ G1 H1 w1 (itRep_seq (reps_keys h2) (fun H sg i hi => ⟨sg _ _ h1, by simpa using hi⟩) fun H sg i x hx => ?_)))
      rw [List.getElem?_map] at hx
      cases c : kv[i]? with
      | none => rw [c] at hx; cases hx
      | some c' =>
        rw [c] at hx
        cases hx
        refine ⟨⟨sg _ _ h1, (List.getElem?_eq_some_iff.mp c).1⟩, fun y H' hy => ⟨hy.1, ?_⟩⟩
        obtain ⟨_, k', v', e1, rfl⟩ := hy
        rw [c] at e1
        cases e1
        rfl
  · cases k
    cases r1 with
    | @dcT a od kv kvs h1 h2 h3 =>
      obtain rfl : u = Value.ref a := rv
      obtain ⟨hs, hgd, hx, es, ep, hdt, hsz, _⟩ := I1.frzT (w1.gh _ _ h1)
      exact iter_keys hs hgd hx hdt (pi_one (tk := s1.toks) I1 _ (turn_keysT _ hdt) ⟨_, Heap.get?_push_size _ rfl, rfl, by rw [hsz] <;> rfl⟩ (q _ G1 H1 w1 (itRep_tkeys h1 h2)))
  · cases k

/-! ### ranges -/
def rngL (lo : Int) (n : Nat) : List D := (List.range n).map fun (i : Nat) => .int (lo + (i : Int))
def rngC (lo c : Int) (n : Nat) : List D := (List.range n).map fun (i : Nat) => .int (lo + (i : Int) * c)
section
local instance (priority := 1000000) cdec8 (p : Prop) : Decidable p := Classical.propDecidable p
def rng1 : List D → Option (List D)
  | [.int j] => if -(2 ^ 62) ≤ j ∧ j < 2 ^ 62 then some (rngL 0 j.toNat) else none
  | _ => none
def rng2 : List D → Option (List D)
  | [.int i, .int j] => if -(2 ^ 62) ≤ i ∧ i < 2 ^ 62 ∧ -(2 ^ 62) ≤ j ∧ j < 2 ^ 62 then some (rngL i (j - i).toNat) else none
  | _ => none
/-- range(i, j, -1) -/
def rng3 : List D → Option (List D)
  | [.int i, .int j, .int c] => if c = -1 ∧ -(2 ^ 62) ≤ i ∧ i < 2 ^ 62 ∧ -(2 ^ 62) ≤ j ∧ j < 2 ^ 62 then some (rngC i (-1) (i - j).toNat) else none
  | _ => none
end
def iCall (f : List D → Option (List D)) (l : FL) : FI := fun ρ => (l ρ).bind f
theorem itRep_rng {W : Wd} {G : Hp} (lo : Int) (n : Nat) : ItRep W G (Itr lo n) (rngL lo n) := fun Gc H sg sh i =>
  ⟨fun hi => show n ≤ i by simpa [rngL] using hi, fun d hd => by
    unfold rngL at hd
    rw [List.getElem?_map] at hd
    cases q : (List.range n)[i]? with
    | none => rw [q] at hd; cases hd
    | some j =>
      rw [q] at hd
      cases hd
      have hi : i < n := by simpa using (List.getElem?_eq_some_iff.mp q).1
      have e : i = j := by simpa using (List.getElem?_eq_some_iff.mp q).2
      subst e
      exact ⟨hi, fun x H' ⟨h1, h2⟩ => by subst h1 h2; exact ⟨Gc, Gw.refl sh, .int _⟩⟩⟩
theorem itRep_rngC {W : Wd} {G : Hp} (lo c : Int) (n : Nat) : ItRep W G (Itc lo c n) (rngC lo c n) := fun Gc H sg sh i =>
  ⟨fun hi => show n ≤ i by simpa [rngC] using hi, fun d hd => by
    unfold rngC at hd
    rw [List.getElem?_map] at hd
    cases q : (List.range n)[i]? with
    | none => rw [q] at hd; cases hd
    | some j =>
      rw [q] at hd
      cases hd
      have hi : i < n := by simpa using (List.getElem?_eq_some_iff.mp q).1
      have e : i = j := by simpa using (List.getElem?_eq_some_iff.mp q).2
      subst e
      exact ⟨hi, fun x H' ⟨h1, h2⟩ => by subst h1 h2; exact ⟨Gc, Gw.refl sh, .int _⟩⟩⟩
variable {L : FL} {a b c : Expr} {p pos : Pos}
theorem Reps.one {W : Wd} {G : Hp} {d : D} {vs : List V} (b : Reps W G [d] vs) : ∃ v, vs = [v] ∧ Rep W G d v := by
  cases b with
  | cons b t => cases t; exact ⟨_, rfl, b⟩
theorem i_rng1 (hm : X.mg "range" = none) (ha : PAF X [a] L) (hg : Gl X "range" := by rfl) (hs : starEach [a] X.env = [(false, eval a X.env)] := by rfl) : PID X tg (.Call (.Name "range" p) [a] [] pos) (iCall rng1 L) :=
  PI.weak (pi_range1 hg hm ha hs) fun σ H R ⟨B, G, ρ, ds, r, k, q⟩ => by
    obtain ⟨es, he, k⟩ := Option.bind_eq_some_iff.mp k
    refine ⟨B, G, ρ, es, r, he, fun vs G1 H1 w1 rs => ?_⟩
    unfold rng1 at k
    split at k
    · split at k
      · rename_i hz
        cases k
        obtain ⟨v, rfl, rv⟩ := rs.one
        cases rv
        exact ⟨_, rfl, hz.1, hz.2, q _ G1 H1 w1 (itRep_rng _ _)⟩
      · cases k
    · cases k
theorem i_rng2 (hm : X.mg "range" = none) (ha : PAF X [a, b] L) (hg : Gl X "range" := by rfl) (hs : starEach [a, b] X.env = [(false, eval a X.env), (false, eval b X.env)] := by rfl) (hs2 : starEach [b] X.env = [(false, eval b X.env)] := by rfl) :
    PID X tg (.Call (.Name "range" p) [a, b] [] pos) (iCall rng2 L) :=
  PI.weak (pi_range2 hg hm ha hs hs2) fun σ H R ⟨B, G, ρ, ds, r, k, q⟩ => by
    obtain ⟨es, he, k⟩ := Option.bind_eq_some_iff.mp k
    refine ⟨B, G, ρ, es, r, he, fun vs G1 H1 w1 rs => ?_⟩
    unfold rng2 at k
    split at k
    · split at k
      · rename_i hz
        cases k
        cases rs with
        | cons r1 rs =>
          obtain ⟨v, rfl, rv⟩ := rs.one
          cases rv
          cases r1
          exact ⟨_, _, rfl, hz, q _ G1 H1 w1 (itRep_rng _ _)⟩
      · cases k
    · cases k
theorem i_rng3 (hm : X.mg "range" = none) (ha : PAF X [a, b, c] L) (hg : Gl X "range" := by rfl)
    (hs : starEach [a, b, c] X.env = (false, eval a X.env) :: starEach [b, c] X.env := by rfl) (hpl : (backTo pos (starEach [b, c] X.env)).any (·.1) = false := by rfl) :
    PID X tg (.Call (.Name "range" p) [a, b, c] [] pos) (iCall rng3 L) :=
  PI.weak (pi_range3 hg hm ha hs hpl) fun σ H R ⟨B, G, ρ, ds, r, k, q⟩ => by
    obtain ⟨es, he, k⟩ := Option.bind_eq_some_iff.mp k
    refine ⟨B, G, ρ, es, r, he, fun vs G1 H1 w1 rs => ?_⟩
    unfold rng3 at k
    split at k
    · split at k
      · rename_i hz
        cases k
        obtain ⟨hc, hz1, hz2, hz3, hz4⟩ := hz
        subst hc
        cases rs with
        | cons r1 rs =>
          cases rs with
          | cons r2 rs =>
            obtain ⟨v, rfl, rv⟩ := rs.one
            cases rv
            cases r1
            cases r2
            exact ⟨_, _, _, _, rfl, RgC.neg hz1 hz2 hz3 hz4, q _ G1 H1 w1 (itRep_rngC _ _ _)⟩
      · cases k
    · cases k
end
end DV
end

set_option Elab.async false
set_option linter.all false
set_option maxRecDepth 100000
/-! DVi: comprehensions. -/
noncomputable section
namespace DV
open PySem PySem.Spec PyProof.Rows L2

def wipeE (ρ : Env) : List Nat → Env
  | [] => ρ
  | v :: vs => (wipeE ρ vs).set v none
theorem Rp.unset {W : Wd} {B G H : Hp} {ρ : Env} {σ : St} {i : Nat} (r : Rp W B G H ρ σ) : Rp W B G H (ρ.set i none) (σ.set i none) := by
  have at_ : ∀ {α : Type} {l : List (Option α)} {j : Nat} {x : α}, (l.set i none)[j]? = some (some x) → i ≠ j ∧ l[j]? = some (some x) := fun {α l j x} h => by
    by_cases hj : i = j
    · subst hj
      have hl : i < l.length := by
        have := (List.getElem?_eq_some_iff.mp h).1
        simpa using this
      rw [List.getElem?_set_self hl] at h
      cases h
    · rw [List.getElem?_set_ne hj] at h
      exact ⟨hj, h⟩
  refine ⟨r.bh, r.gh, by simp [r.len], fun j d h => ?_, fun j d h => ?_, fun j k d e a h1 h2 h3 h4 => ?_⟩
  · obtain ⟨hj, h⟩ := at_ h
    rw [List.getElem?_set_ne hj]
    exact r.shr j d h
  · obtain ⟨hj, h⟩ := at_ h
    rw [List.getElem?_set_ne hj]
    exact r.own j d h
  · obtain ⟨hj, h1⟩ := at_ h1
    obtain ⟨hk, h2⟩ := at_ h2
    rw [List.getElem?_set_ne hj] at h3
    rw [List.getElem?_set_ne hk] at h4
    exact r.sep j k d e a h1 h2 h3 h4
theorem Rp.wipe {W : Wd} {B G H : Hp} {ρ : Env} {σ : St} (r : Rp W B G H ρ σ) : ∀ vs : List Nat, Rp W B G H (wipeE ρ vs) (L2.wipe σ vs)
  | [] => r
  | _ :: vs => (Rp.wipe r vs).unset
theorem wipe_set {σ : St} {i : Nat} {v : Option V} : ∀ {vs : List Nat}, i ∈ vs → L2.wipe (σ.set i v) vs = L2.wipe σ vs
  | [], h => by cases h
  | j :: vs, h => by
    unfold L2.wipe
    by_cases hm : i ∈ vs
    · rw [wipe_set hm]
    · have e : i = j := by
        rcases List.mem_cons.mp h with h | h
        · exact h
        · exact absurd h hm
      subst e
      have out : ∀ {vs : List Nat}, i ∉ vs → L2.wipe (σ.set i v) vs = (L2.wipe σ vs).set i v := by
        intro vs
        induction vs with
        | nil => intro _; rfl
        | cons k vs ih =>
          intro hk
          have hk1 : k ≠ i := fun z => hk (by rw [z]; exact List.mem_cons_self)
          have hk2 : i ∉ vs := fun z => hk (List.mem_cons_of_mem _ z)
          unfold L2.wipe
          rw [ih hk2, List.set_comm _ _ (Ne.symm hk1)]
      rw [out hm, List.set_set]
theorem wipe_wipe {σ : St} : ∀ {vs : List Nat}, L2.wipe (L2.wipe σ vs) vs = L2.wipe σ vs := by
  intro vs
  have gen : ∀ us : List Nat, (∀ u ∈ us, u ∈ vs) → L2.wipe (L2.wipe σ us) vs = L2.wipe σ vs := by
    intro us
    induction us with
    | nil => intro _; rfl
    | cons u us ih =>
      intro h
      show L2.wipe ((L2.wipe σ us).set u none) vs = _
      rw [wipe_set (h u List.mem_cons_self)]
      exact ih fun w hw => h w (List.mem_cons_of_mem _ hw)
  exact gen vs fun _ h => h
/-- a target of a comprehension: it stores into vs alone -/
def tGc (W : Wd) (vs : List Nat) (F : FG) : TG := fun v σ H Q => ∃ B G ρ d ρ', Rp W B G H ρ σ ∧ Rep W G d v ∧ F d ρ = some ρ' ∧ ∀ σ' , Rp W B G H ρ' σ' → L2.wipe σ' vs = L2.wipe σ vs → Q σ' H
def tGsc (W : Wd) (vs : List Nat) (F : List D → Env → Option Env) : TGs := fun v σ H Q => ∃ B G ρ ds ρ', Rp W B G H ρ σ ∧ Reps W G ds v ∧ F ds ρ = some ρ' ∧ ∀ σ' , Rp W B G H ρ' σ' → L2.wipe σ' vs = L2.wipe σ vs → Q σ' H
abbrev PGC (X : Cx) (vs : List Nat) (e : Expr) (F : FG) : Prop := PG X e (tGc X.wd vs F)
abbrev PGCs (X : Cx) (vs : List Nat) (e : List Expr) (F : List D → Env → Option Env) : Prop := PGs X e (tGsc X.wd vs F)
section
variable {X : Cx} {pos : Pos} {vs : List Nat}
theorem gc_name (i : Nat) {x : Str} (hN : X.N.Nodup) (hi : X.N[i]? = some x := by rfl) (hx : Loc X.env.scope x := by first | exact Or.inl rfl | exact Or.inr rfl) (hv : i ∈ vs := by decide) (hf : X.fn x = true ∨ X.env.scope.names.lookup x = some .local := by first | exact .inl rfl | exact .inr rfl | assumption) : PGC X vs (.Name x pos) (gN i) :=
  PG.weak (pg_name (i := i) hN hi hx hf) fun v σ H Q ⟨B, G, ρ, d, ρ', r, rv, k, q⟩ => by
    cases k
    exact q _ (r.set_shr rv) (wipe_set hv)
theorem gcs_nil : PGCs X vs [] gsN := PGs.weak pgs_nil fun vs σ H Q ⟨B, G, ρ, ds, ρ', r, rv, k, q⟩ => by
  cases rv with
  | nil => cases k; exact ⟨rfl, q _ r rfl⟩
  | cons _ _ => cases k
theorem gcs_cons {e : Expr} {es : List Expr} {g : FG} {h : List D → Env → Option Env} (h1 : PGC X vs e g) (h2 : PGCs X vs es h)
    (hs : (assignEach (e :: es) X.env).map (·.2) = assign e X.env :: (assignEach es X.env).map (·.2) := by rfl) : PGCs X vs (e :: es) (gsC g h) :=
  PGs.weak (pgs_cons h1 h2 hs) fun us σ H Q ⟨B, G, ρ, ds, ρ', r, rv, k, q⟩ => by
    cases rv with
    | nil => cases k
    | @cons d ds v us r1 r2 =>
      obtain ⟨ρ1, k1, k2⟩ := Option.bind_eq_some_iff.mp k
      exact ⟨v, us, rfl, B, G, ρ, d, ρ1, r, r1, k1, fun σ' r' e' => ⟨B, G, ρ1, ds, ρ', r', r2, k2, fun σ2 rr e2 => q σ2 rr (e2.trans e')⟩⟩
theorem gc_tup {es : List Expr} {k : Nat} {n : Nat} {h : List D → Env → Option Env} (hc : X.calm = true) (hh : PGCs X vs es h)
    (hn : (assignEach es X.env).length = n := by rfl) (hst : (assignEach es X.env).findIdx? (·.1) = none := by rfl) : PGC X vs (.Tuple es k pos) (gT n h) :=
  PG.weak (pg_tup hc hh hn hst) fun v σ H Q ⟨B, G, ρ, d, ρ', r, rv, k, q⟩ => by
    unfold gT at k
    split at k
    · split at k
      · rename_i ds hl
        cases rv with
        | tup h1 h2 => exact ⟨_, _, rfl, SqT.of (r.gh _ _ h1), by rw [← h2.length]; exact hl, B, G, ρ, _, ρ', r, h2, k, q⟩
      · cases k
    · cases k
/-! ### lists -/
def lcL (g : FG) (t : FT) (e : FE) (ρ : Env) : List D → Option (List D)
  | [] => some []
  | d :: ds => (g d ρ).bind fun ρ1 => (t ρ1).bind fun b => if b = true then (e ρ1).bind fun y => (lcL g t e ρ ds).map fun ys => y :: ys else lcL g t e ρ ds
section
local instance (priority := 1000000) cdec9 (p : Prop) : Decidable p := Classical.propDecidable p
def eLc (vs : List Nat) (l : FI) (g : FG) (t : FT) (e : FE) : FE := fun ρ => (l ρ).bind fun ds => if ds.length ≤ sizeLine then (lcL g t e (wipeE ρ vs) ds).map .list else none
end
def tYs : FT := fun _ => some true
abbrev PTsD (X : Cx) (es : List Expr) (F : FT) : Prop := PTs X es (tT X.wd F)
theorem PTs.weak {es : List Expr} {t t' : TT} (h : PTs X es t) (i : ∀ σ H Q, t' σ H Q → t σ H Q) : PTs X es t' := ⟨fun pins s σ H Q I q => h.run pins s σ H Q I (i σ H Q q)⟩
theorem ts_nil : PTsD X [] tYs := PTs.weak pts_nil fun σ H Q ⟨B, G, ρ, b, r, k, q⟩ => by
  cases k
  exact q G H (Gw.refl r.gh)
theorem ts_one {c : Expr} {t : FT} (h : PTD X c t) : PTsD X [c] t := pts_one h
theorem Gw.atD {G H G' H' : Hp} {D : Addr} {o : HO} (w : Gw G H G' H') (hD : H D = none) (hg : G' D = none) : Gw G H G' (upd H' D o) where
  g := w.g
  h := fun b u e => by rw [upd_ne (ne_of_none e hD)]; exact w.h b u e
  gh := fun b u e => by rw [upd_ne (ne_of_none e hg)]; exact w.gh b u e
  new := w.new
theorem lc_read {W : Wd} {l : FI} {g : FG} {t : FT} {fe : FE} {σ : L2.St} {H : Hp} {Q : VK} (h : tN W (eLc vs l g t fe) σ H Q) : tLc (tI W l) (tGc W vs g) (tT W t) (tF W fe) vs σ H Q := by
  obtain ⟨B, G, ρ, d, r, k, q⟩ := h
  obtain ⟨ds, hd, k⟩ := Option.bind_eq_some_iff.mp k
  split at k
  · rename_i hz
    obtain ⟨ys, hy, k⟩ := Option.map_eq_some_iff.mp k
    subst k
    refine ⟨B, G, ρ, ds, r, hd, fun J G1 H1 w1 it L hL => ?_⟩
    have gL : G1 L = none := w1.gh.free hL
    have bL : B L = none := r.bh.free (w1.h.free hL)
    refine ⟨fun i m H => m = ds.length - i ∧ i ≤ ds.length ∧ ∃ G2 acc us zs, Gw G1 H1 G2 H ∧ H L = some (.lst us) ∧ G2 L = none ∧ acc.length ≤ i ∧ Reps W G2 acc us ∧ lcL g t fe (wipeE ρ vs) (ds.drop i) = some zs ∧ acc ++ zs = ys,
      ⟨_, rfl, Nat.zero_le _, G1, [], [], ys, (Gw.refl w1.gh).atD hL gL, upd_same, gL, Nat.le_refl _, .nil, hy, rfl⟩, ?_⟩
    rintro i m H2 ⟨rfl, hi, G2, acc, us, zs, w2, hL2, gL2, ha, ra, hzs, hyz⟩
    obtain ⟨hstop, hgo⟩ := it G2 H2 w2.g w2.gh i
    by_cases hlt : i < ds.length
    · have e : ds.drop i = ds[i] :: ds.drop (i + 1) := List.drop_eq_getElem_cons hlt
      rw [e] at hzs
      obtain ⟨ρ1, h1, hzs⟩ := Option.bind_eq_some_iff.mp hzs
      obtain ⟨b, h2, hzs⟩ := Option.bind_eq_some_iff.mp hzs
      obtain ⟨go, yld⟩ := hgo ds[i] (List.getElem?_eq_getElem hlt)
      refine .inr ⟨go, fun H => ∃ G2 acc us zs, Gw G1 H1 G2 H ∧ H L = some (.lst us) ∧ G2 L = none ∧ acc.length ≤ i + 1 ∧ Reps W G2 acc us ∧ lcL g t fe (wipeE ρ vs) (ds.drop (i + 1)) = some zs ∧ acc ++ zs = ys, fun H' z => ⟨_, by omega, rfl, hlt, z⟩, fun x H' y => ?_⟩
      obtain ⟨G3, w3, rx⟩ := yld x H' y
      have w13 := w2.trans w3
      have nL : ∀ {G4 H4 : Hp}, Gw G2 H2 G4 H4 → G4 L = none := fun {G4 H4} w => by
        cases z : G4 L with
        | none => rfl
        | some o =>
          rcases w.new L o z with z | z | ⟨xs, z⟩
          · rw [gL2] at z; cases z
          · rw [hL2] at z; cases z
          · rw [hL2] at z; cases z
      refine ⟨B, G3, wipeE ρ vs, ds[i], ρ1, ((r.step w1).step w13).wipe vs, rx, h1, fun σ4 r4 e4 => ⟨e4.trans wipe_wipe, B, G3, ρ1, b, r4, h2, fun G5 H5 w5 => ?_⟩⟩
      by_cases eb : b = true
      · rw [if_pos eb] at hzs ⊢
        obtain ⟨y1, hy1, hzs⟩ := Option.bind_eq_some_iff.mp hzs
        obtain ⟨zs', hzs', hzs⟩ := Option.map_eq_some_iff.mp hzs
        refine ⟨B, G5, ρ1, y1, r4.step w5, hy1, fun v G6 H6 w6 rv => ?_⟩
        have w26 := (w3.trans w5).trans w6
        refine ⟨us, w26.h _ _ hL2, by rw [← ra.length]; omega, G6, acc ++ [y1], us ++ [v], zs', (w2.trans w26).atD hL (nL w26), upd_same, nL w26, by simp; omega, (ra.mono w26.g).snoc rv, hzs', ?_⟩
        rw [← hyz, ← hzs]
        simp
      · rw [if_neg eb] at hzs ⊢
        have w25 := w3.trans w5
        exact ⟨G5, acc, us, zs, w2.trans w25, w25.h _ _ hL2, nL w25, by omega, ra.mono w25.g, hzs, hyz⟩
    · have e : i = ds.length := by omega
      subst e
      rw [List.drop_length] at hzs
      cases hzs
      rw [List.append_nil] at hyz
      subst hyz
      exact .inl ⟨hstop (Nat.le_refl _), q _ G2 H2 (w1.trans w2) ⟨L, rfl, w1.h.free hL, gL2, .lst hL2 ra⟩⟩
  · cases k
variable {elt tg iter : Expr} {ifs : List Expr} {scope : Scope} {own : List (Str × Nat)} {l : FI} {g : FG} {t : FT} {fe : FE}
theorem n_lc (own : List (Str × Nat)) (hc : X.calm = true) (hN : X.N.Nodup) (hi : PID X tg iter l) (ok : blkC X.N X.env.scope scope own = true)
    (hg : ∀ (s : Shared) (H : Hp) (C : Addr) (cl : List (Str × Addr)) (fp : List Addr), PGC (X.blk s H scope (compEnvC scope cl C X.env) fp) (own.map (·.2)) tg g) (ht : ∀ (s : Shared) (H : Hp) (C : Addr) (cl : List (Str × Addr)) (fp : List Addr), PTsD (X.blk s H scope (compEnvC scope cl C X.env) fp) ifs t)
    (he : ∀ (s : Shared) (H : Hp) (C : Addr) (cl : List (Str × Addr)) (fp : List Addr), PF (X.blk s H scope (compEnvC scope cl C X.env) fp) elt fe) (hs : ∀ x, foldedSetIterable iter X.env x = pure x := by intro _; rfl) :
    PN X (.ListComp elt [⟨tg, iter, ifs, 0⟩] scope pos) (eLc (own.map (·.2)) l g t fe) :=
  PE.weak (pe_lc hc hN hi (blkOk_by ok) hg ht he hs) fun _ _ _ h => lc_read h
/-- name = [..] on one line -/
theorem s_lc (i : Nat) (own : List (Str × Nat)) {y : Str} {py spos : Pos} (hc : X.calm = true) (hN : X.N.Nodup) (hi : PID X tg iter l) (ok : blkC X.N X.env.scope scope own = true)
    (hg : ∀ (s : Shared) (H : Hp) (C : Addr) (cl : List (Str × Addr)) (fp : List Addr), PGC (X.blk s H scope (compEnvC scope cl C X.env) fp) (own.map (·.2)) tg g) (ht : ∀ (s : Shared) (H : Hp) (C : Addr) (cl : List (Str × Addr)) (fp : List Addr), PTsD (X.blk s H scope (compEnvC scope cl C X.env) fp) ifs t)
    (he : ∀ (s : Shared) (H : Hp) (C : Addr) (cl : List (Str × Addr)) (fp : List Addr), PF (X.blk s H scope (compEnvC scope cl C X.env) fp) elt fe)
    (hsw : swapsWith (.ListComp elt [⟨tg, iter, ifs, 0⟩] scope pos) (some (.Name y py)) spos.line X.env = pure true := by exact sw_true rfl rfl rfl (by decide +kernel))
    (hy : X.N[i]? = some y := by rfl) (hyl : X.env.scope.names.lookup y = some .local := by rfl) (hs : ∀ x, foldedSetIterable iter X.env x = pure x := by intro _; rfl) :
    PSD X (.Assign [.Name y py] (.ListComp elt [⟨tg, iter, ifs, 0⟩] scope pos) spos) (sOwn i (eLc (own.map (·.2)) l g t fe)) :=
  PS.weak (ps_setLc hc hN hy hyl hsw hi (blkOk_by ok) hg ht he hs) fun E σ H ⟨B, G, ρ, o, r, k, a⟩ => by
    obtain ⟨d, hd, k⟩ := Option.map_eq_some_iff.mp k
    subst k
    refine lc_read ⟨B, G, ρ, d, r, hd, fun v G' H' w ⟨p, ev, hp, hg, t⟩ => ?_⟩
    subst ev
    refine a _ G' H' (w.gs r.bh) ((r.step w).set_own (r.bh.free hp) hg t fun j e' hj hσ => ?_)
    obtain ⟨b, h1, h2, h3, h4⟩ := r.own j e' hj
    rw [hσ] at h1
    cases h1
    obtain ⟨o, ho⟩ := h4.at
    rw [hp] at ho
    cases ho

/-! ### dicts, keys ints and texts -/
def dcL (g : FG) (t : FT) (fk fv : FE) (ρ : Env) : List D → List (D × D) → Option (List (D × D))
  | [], acc => some acc
  | d :: ds, acc => (g d ρ).bind fun ρ1 => (t ρ1).bind fun b => if b = true then (fk ρ1).bind fun k => (fv ρ1).bind fun v => (keyOf k).bind fun _ => dcL g t fk fv ρ ds (dput acc k v) else dcL g t fk fv ρ ds acc
section
local instance (priority := 1000000) cdec10 (p : Prop) : Decidable p := Classical.propDecidable p
def eDc (vs : List Nat) (l : FI) (g : FG) (t : FT) (fk fv : FE) : FE := fun ρ => (l ρ).bind fun ds => if ds.length ≤ sizeLine then (dcL g t fk fv (wipeE ρ vs) ds []).map fun kvs => .dict ((.none, .int 0) :: kvs) else none
end
theorem dput_len (kvs : List (D × D)) (k v : D) : (dput kvs k v).length ≤ kvs.length + 1 := by
  unfold dput
  split <;> simp
theorem dc_read {W : Wd} {l : FI} {g : FG} {t : FT} {fk fv : FE} {σ : L2.St} {H : Hp} {Q : VK} (h : tN W (eDc vs l g t fk fv) σ H Q) : tDc (tI W l) (tGc W vs g) (tT W t) (tF W fk) (tF W fv) vs σ H Q := by
  obtain ⟨B, G, ρ, d, r, k, q⟩ := h
  obtain ⟨ds, hd, k⟩ := Option.bind_eq_some_iff.mp k
  split at k
  · rename_i hz
    obtain ⟨ys, hy, k⟩ := Option.map_eq_some_iff.mp k
    subst k
    refine ⟨B, G, ρ, ds, r, hd, fun J G1 H1 w1 it L hL => ?_⟩
    have gL : G1 L = none := w1.gh.free hL
    refine ⟨fun i m H => m = ds.length - i ∧ i ≤ ds.length ∧ ∃ G2 acc kv, Gw G1 H1 G2 H ∧ H L = some (.dK kv) ∧ G2 L = none ∧ acc.length ≤ i ∧ acc.map (·.1) = kv.map (fun p => keyD p.1) ∧ Reps W G2 (acc.map (·.2)) (kv.map (·.2)) ∧ dcL g t fk fv (wipeE ρ vs) (ds.drop i) acc = some ys,
      ⟨_, rfl, Nat.zero_le _, G1, [], [], (Gw.refl w1.gh).atD hL gL, upd_same, gL, Nat.le_refl _, rfl, .nil, hy⟩, ?_⟩
    rintro i m H2 ⟨rfl, hi, G2, acc, kv, w2, hL2, gL2, ha, ka, ra, hzs⟩
    have la := congrArg List.length ka
    rw [List.length_map, List.length_map] at la
    obtain ⟨hstop, hgo⟩ := it G2 H2 w2.g w2.gh i
    by_cases hlt : i < ds.length
    · have e : ds.drop i = ds[i] :: ds.drop (i + 1) := List.drop_eq_getElem_cons hlt
      rw [e] at hzs
      obtain ⟨ρ1, h1, hzs⟩ := Option.bind_eq_some_iff.mp hzs
      obtain ⟨b, h2, hzs⟩ := Option.bind_eq_some_iff.mp hzs
      obtain ⟨go, yld⟩ := hgo ds[i] (List.getElem?_eq_getElem hlt)
      refine .inr ⟨go, fun H => ∃ G2 acc kv, Gw G1 H1 G2 H ∧ H L = some (.dK kv) ∧ G2 L = none ∧ acc.length ≤ i + 1 ∧ acc.map (·.1) = kv.map (fun p => keyD p.1) ∧ Reps W G2 (acc.map (·.2)) (kv.map (·.2)) ∧ dcL g t fk fv (wipeE ρ vs) (ds.drop (i + 1)) acc = some ys, fun H' z => ⟨_, by omega, rfl, hlt, z⟩, fun x H' y => ?_⟩
      obtain ⟨G3, w3, rx⟩ := yld x H' y
      have w13 := w2.trans w3
      have nL : ∀ {G4 H4 : Hp}, Gw G2 H2 G4 H4 → G4 L = none := fun {G4 H4} w => by
        cases z : G4 L with
        | none => rfl
        | some o =>
          rcases w.new L o z with z | z | ⟨xs, z⟩
          · rw [gL2] at z; cases z
          · rw [hL2] at z; cases z
          · rw [hL2] at z; cases z
      refine ⟨B, G3, wipeE ρ vs, ds[i], ρ1, ((r.step w1).step w13).wipe vs, rx, h1, fun σ4 r4 e4 => ⟨e4.trans wipe_wipe, B, G3, ρ1, b, r4, h2, fun G5 H5 w5 => ?_⟩⟩
      by_cases eb : b = true
      · rw [if_pos eb] at hzs ⊢
        obtain ⟨k1, hk1, hzs⟩ := Option.bind_eq_some_iff.mp hzs
        obtain ⟨v1, hv1, hzs⟩ := Option.bind_eq_some_iff.mp hzs
        obtain ⟨kk, hkk, hzs⟩ := Option.bind_eq_some_iff.mp hzs
        refine ⟨B, G5, ρ1, k1, r4.step w5, hk1, fun v G6 H6 w6 rk => ⟨B, G6, ρ1, v1, (r4.step w5).step w6, hv1, fun u G7 H7 w7 ru => ?_⟩⟩
        have w27 := ((w3.trans w5).trans w6).trans w7
        cases keyOf_some hkk
        obtain ⟨p1, p2⟩ := put_rel keq_key (k := kk) ru ka (ra.mono w27.g)
        refine ⟨kv, kk, Rep.key (k := kk) (H := G6) (.inl rk), w27.h _ _ hL2, by omega, G7, dput acc (keyD kk) v1, putK kv kk u, (w2.trans w27).atD hL (nL w27), upd_same, nL w27, Nat.le_trans (dput_len _ _ _) (by omega), p1, p2, hzs⟩
      · rw [if_neg eb] at hzs ⊢
        have w25 := w3.trans w5
        exact ⟨G5, acc, kv, w2.trans w25, w25.h _ _ hL2, nL w25, by omega, ka, ra.mono w25.g, hzs⟩
    · have e : i = ds.length := by omega
      subst e
      rw [List.drop_length] at hzs
      cases hzs
      exact .inl ⟨hstop (Nat.le_refl _), q _ G2 H2 (w1.trans w2) ⟨L, rfl, w1.h.free hL, gL2, .dcK hL2 ka ra⟩⟩
  · cases k
variable {kx vx : Expr} {fk fv : FE}
theorem n_dc (own : List (Str × Nat)) (hc : X.calm = true) (hN : X.N.Nodup) (hi : PID X tg iter l) (ok : blkC X.N X.env.scope scope own = true)
    (hg : ∀ (s : Shared) (H : Hp) (C : Addr) (cl : List (Str × Addr)) (fp : List Addr), PGC (X.blk s H scope (compEnvC scope cl C X.env) fp) (own.map (·.2)) tg g) (ht : ∀ (s : Shared) (H : Hp) (C : Addr) (cl : List (Str × Addr)) (fp : List Addr), PTsD (X.blk s H scope (compEnvC scope cl C X.env) fp) ifs t)
    (hk : ∀ (s : Shared) (H : Hp) (C : Addr) (cl : List (Str × Addr)) (fp : List Addr), PF (X.blk s H scope (compEnvC scope cl C X.env) fp) kx fk)
    (he : ∀ (s : Shared) (H : Hp) (C : Addr) (cl : List (Str × Addr)) (fp : List Addr), PF (X.blk s H scope (compEnvC scope cl C X.env) fp) vx fv) (hs : ∀ x, foldedSetIterable iter X.env x = pure x := by intro _; rfl) :
    PN X (.DictComp kx vx [⟨tg, iter, ifs, 0⟩] scope pos) (eDc (own.map (·.2)) l g t fk fv) :=
  PE.weak (pe_dc hc hN hi (blkOk_by ok) hg ht hk he hs) fun _ _ _ h => dc_read h
theorem sw_trueD {ka va : Expr} {gs : List Comprehension} {sc : Scope} {pd py : Pos} {y : Str} {l : Nat} {env : PySem.Env} (hk : env.scope.kind = .function) (hy : env.scope.names.lookup y = some .local) (hl : (py.line == pd.line) = true)
    (ha : (sc.names.any fun (n, k) => n == y && (k == .local || k == .cell)) = false) : swapsWith (.DictComp ka va gs sc pd) (some (.Name y py)) l env = pure true := by
  have h1 : env.kindOf y = some .local := hy
  have h2 : env.blockKind = .function := by
    unfold Env.blockKind
    rw [hk]
    rfl
  unfold swapsWith
  simp only [h2, h1, ha, Expr.pos, hl]
  rfl
/-- name = {..} on one line -/
theorem s_dc (i : Nat) (own : List (Str × Nat)) {y : Str} {py spos : Pos} (hc : X.calm = true) (hN : X.N.Nodup) (hi : PID X tg iter l) (ok : blkC X.N X.env.scope scope own = true)
    (hg : ∀ (s : Shared) (H : Hp) (C : Addr) (cl : List (Str × Addr)) (fp : List Addr), PGC (X.blk s H scope (compEnvC scope cl C X.env) fp) (own.map (·.2)) tg g) (ht : ∀ (s : Shared) (H : Hp) (C : Addr) (cl : List (Str × Addr)) (fp : List Addr), PTsD (X.blk s H scope (compEnvC scope cl C X.env) fp) ifs t)
    (hk : ∀ (s : Shared) (H : Hp) (C : Addr) (cl : List (Str × Addr)) (fp : List Addr), PF (X.blk s H scope (compEnvC scope cl C X.env) fp) kx fk)
    (he : ∀ (s : Shared) (H : Hp) (C : Addr) (cl : List (Str × Addr)) (fp : List Addr), PF (X.blk s H scope (compEnvC scope cl C X.env) fp) vx fv)
    (hsw : swapsWith (.DictComp kx vx [⟨tg, iter, ifs, 0⟩] scope pos) (some (.Name y py)) spos.line X.env = pure true := by exact sw_trueD rfl rfl rfl (by decide +kernel))
    (hy : X.N[i]? = some y := by rfl) (hyl : X.env.scope.names.lookup y = some .local := by rfl) (hs : ∀ x, foldedSetIterable iter X.env x = pure x := by intro _; rfl) :
    PSD X (.Assign [.Name y py] (.DictComp kx vx [⟨tg, iter, ifs, 0⟩] scope pos) spos) (sOwn i (eDc (own.map (·.2)) l g t fk fv)) := by
  refine ⟨fun pins s σ H E I ⟨B, G, ρ, o, r, k, a⟩ => ?_⟩
  obtain ⟨d, hd, k⟩ := Option.map_eq_some_iff.mp k
  subst k
  rw [exec_Assign_Name_used _ _ _ _ hsw]
  refine wpAny_bind (wpAny_standAt (wpAny_bind ?_))
  have rd := dc_read (W := X.wd) (vs := own.map (·.2)) (l := l) (g := g) (t := t) (fk := fk) (fv := fv) (σ := σ) (H := H) (Q := fun v H' => E.nx (σ.set i (some v)) H') ⟨B, G, ρ, d, r, hd, fun v G' H' w ⟨p, ev, hp, hg, t⟩ => by
    subst ev
    refine a _ G' H' (w.gs r.bh) ((r.step w).set_own (r.bh.free hp) hg t fun j e' hj hσ => ?_)
    obtain ⟨b, h1, h2, h3, h4⟩ := r.own j e' hj
    rw [hσ] at h1
    cases h1
    obtain ⟨o, ho⟩ := h4.at
    rw [hp] at ho
    cases ho⟩
  show wpAny _ X.A (do let _ ← comprehension (.DictComp kx vx [⟨tg, iter, ifs, 0⟩] scope pos) scope X.env (firstIterPos [⟨tg, iter, ifs, 0⟩] pos) newDict false (eval iter X.env) (some (assign (.Name y py) X.env))) _ _ s
  refine wpAny_bind (thn (dc_core (use := some (assign (.Name y py) X.env)) (Qf := fun _ st => SP X pins E .next st) hc hN I hi (blkOk_by ok) hg ht hk he hs rd fun A1 C1 s5 m5 H5 I5 q5 hn5 ⟨f0, f1, f2, f3, f4, f5⟩ => ?_) fun _ _ z => wpAny_pure (wpAny_pure z))
  refine wpAny_assign_Name (store_ok2 (v := V.ref A1) I5 hN hy (.inl hyl) rfl (fun s6 I6 ⟨b6, sb6, hb6⟩ => ?_) (.inr hyl))
  have ne : C1 ≠ b6 := hb6.elim (fun z => z ▸ f1) fun z q => f4 y b6 z q.symm
  exact ⟨m5, hn5.sameBut sb6 ne, fun h7 sb7 => ⟨_, H5, I6.turned (t' := s6.toks) (fun b o hb z => (sb7.2 b hb).trans z) f0 f1 f3 f4 f5, q5⟩⟩
end
end DV
end

set_option Elab.async false
set_option linter.all false
set_option maxRecDepth 100000
/-! DVj: stores into what is owned; more built-ins. -/
noncomputable section
namespace DV
open PySem PySem.Spec PyProof.Rows L2

section
variable {X : Cx}
theorem PSet.or {t t' : TSet} (h : PSet X t) (h' : PSet X t') : PSet X (fun o i v H Q => t o i v H Q ∨ t' o i v H Q) := by
  intro pins s σ H o i v ov iv u Q I ro ri rv q
  rcases q with q | q
  · exact h pins s σ H o i v ov iv u Q I ro ri rv q
  · exact h' pins s σ H o i v ov iv u Q I ro ri rv q
def rSetDict : V → V → V → Hp → (Hp → Prop) → Prop := fun o i v H Q => ∃ a H', o = .ref a ∧ DPut H a i v H' ∧ Q H'
theorem set_dict (hu : X.A.units + 1 < cLine) : PSet X rSetDict := by
  intro pins s σ H o i v ov iv u Q I ro ri rv q
  obtain ⟨a, H', rfl, g, q⟩ := q
  cases ro
  exact d_setItem hu I g ri rv fun s4 I4 => ⟨H', I4, q⟩
section
local instance (priority := 1000000) cdj1 (p : Prop) : Decidable p := Classical.propDecidable p
def putKv (kd : D) (kvs : List (D × D)) (k v : D) : Option D := if kvs.length < sizeLine then some (.dict ((.none, kd) :: dput kvs k v)) else none
end
def putO (d k v : D) : Option D := match d with
  | .list ds => match k with
    | .int j => (ixN ds.length j).map fun n => .list (ds.set n v)
    | _ => none
  | .dict ((.none, .int 0) :: kvs) => (keyOf k).bind fun _ => putKv (.int 0) kvs k v
  | .dict ((.none, .int 1) :: kvs) => (tkeyOf k).bind fun _ => putKv (.int 1) kvs k v
  | _ => none
def sPut (i : Nat) (Fk Fv : FE) : FS := fun ρ => (Fv ρ).bind fun v => (Fk ρ).bind fun k => match ρ[i]? with
  | some (some (.own d)) => (putO d k v).map fun d' => .nx (ρ.set i (some (.own d')))
  | _ => none
theorem put_ok {W : Wd} {G H : Hp} {d k v d' : D} {a : Addr} {kv' vv : V} {Q : Hp → Prop} (h : putO d k v = some d') (sg : Same G H) (t : Top W G H d a) (rk : Rep W G k kv') (rv : Rep W G v vv) (q : ∀ o, Top W G (upd H a o) d' a → Q (upd H a o)) :
    rSetL (.ref a) kv' vv H Q ∨ rSetDict (.ref a) kv' vv H Q := by
  unfold putO at h
  split at h
  · split at h
    · obtain ⟨n, hn, h⟩ := Option.map_eq_some_iff.mp h
      subst h
      cases rk
      cases t with
      | lst e r => exact .inl ⟨a, _, _, n, rfl, rfl, e, by rw [← r.length]; exact hn, q _ (.lst upd_same (r.set rv n))⟩
    · cases h
  · obtain ⟨kk, hk, h⟩ := Option.bind_eq_some_iff.mp h
    unfold putKv at h
    split at h
    · rename_i hz
      cases h
      cases keyOf_some hk
      cases t with
      | dcK e hk' r =>
        have l := congrArg List.length hk'
        rw [List.length_map, List.length_map] at l
        obtain ⟨p1, p2⟩ := put_rel keq_key (k := kk) rv hk' r
        refine .inr ⟨a, _, rfl, ?_, q _ (.dcK upd_same p1 p2)⟩
        rw [Rep.key (k := kk) (H := G) (.inl rk)]
        exact DPut.k e (by omega)
    · cases h
  · obtain ⟨kk, hk, h⟩ := Option.bind_eq_some_iff.mp h
    unfold putKv at h
    split at h
    · rename_i hz
      cases h
      cases tkeyOf_some hk
      cases t with
      | dcT e hk' r =>
        have l := congrArg List.length hk'
        rw [List.length_map, List.length_map] at l
        obtain ⟨p1, p2⟩ := put_rel (enc := fun k => .tuple (k.map keyD)) keq_tkey (k := kk) rv hk' r
        cases rk with
        | tup h1 h2 =>
          cases Reps.keys h2
          exact .inr ⟨a, _, rfl, DPut.t e (sg _ _ h1) (by omega), q _ (.dcT upd_same p1 p2)⟩
    · cases h
  · cases h
/-- x[k] = e, x owned -/
theorem s_put (i : Nat) {x : Str} {k e : Expr} {Fk Fe : FE} {npos tpos pos : Pos} (hu : X.A.units + 1 < cLine) (he : PF X e Fe) (hk : PF X k Fk) (hN : X.N[i]? = some x := by rfl) (hv : Vis X.env.scope x := by first | exact Or.inl rfl | exact Or.inr (Or.inl rfl) | exact Or.inr (Or.inr rfl)) (hd : (x == ("__debug__" : Str)) = false := by decide)
    (hcd : (x == ("__classdict__" : Str)) = false := by decide)
    (ha : ∀ v, assign (.Subscript (.Name x npos) k tpos) X.env v = (do
      let ov ← holding [v] (eval (.Name x npos) X.env)
      let iv ← holding [v, ov] (eval k X.env)
      standAt tpos
      holding [v, ov, iv] (setItem ov iv v)
      release [v, ov, iv] []) := by intro _; rfl)
    (hs : swapsWithSole [.Subscript (.Name x npos) k tpos] e pos.line X.env = pure false := by rfl) (hw : swappedStores [.Subscript (.Name x npos) k tpos] e X.env = pure none := by rfl)
    (h1 : (assignEach [.Subscript (.Name x npos) k tpos] X.env).map (·.2) = [assign (.Subscript (.Name x npos) k tpos) X.env] := by rfl) :
    PSD X (.Assign [.Subscript (.Name x npos) k tpos] e pos) (sPut i Fk Fe) :=
  PS.weak (ps_asg he (pg_sub (pe_var (i := i) hN hv hd hcd) hk (PSet.or set_list (set_dict hu)) ha) hs hw h1) fun E σ H ⟨B, G, ρ, o, r, q, a⟩ => by
    obtain ⟨v, hv, q⟩ := Option.bind_eq_some_iff.mp q
    obtain ⟨kd, hk, q⟩ := Option.bind_eq_some_iff.mp q
    refine ⟨B, G, ρ, v, r, hv, fun vv G1 H1 w1 rv => ?_⟩
    split at q
    · rename_i d hi
      obtain ⟨d', hp, q⟩ := Option.map_eq_some_iff.mp q
      subst q
      obtain ⟨l, h1, h2, h3, h4⟩ := r.own i _ hi
      refine ⟨_, h1, B, G1, ρ, kd, r.step w1, hk, fun kv G2 H2 w2 rk => ?_⟩
      have w := w1.trans w2
      exact put_ok hp w2.gh (h4.same w.g w.h) rk (rv.mono w2.g) fun o t => a σ G2 _ (w.gs r.bh) ((r.step w).upd_own hi h1 t)
    · cases q

/-! ### min, max of a list of ints; of two ints -/
def minL : List Int → Int
  | [] => 0
  | [x] => x
  | x :: xs => if minL xs < x then minL xs else x
def maxL : List Int → Int
  | [] => 0
  | [x] => x
  | x :: xs => if x < maxL xs then maxL xs else x
theorem minL_spec : ∀ {ns : List Int}, ns ≠ [] → minL ns ∈ ns ∧ ∀ y ∈ ns, minL ns ≤ y
  | [], h => absurd rfl h
  | [x], _ => ⟨by simp [minL], fun y hy => by simp at hy; subst hy; simp [minL]⟩
  | x :: y :: r, _ => by
    obtain ⟨h1, h2⟩ := minL_spec (ns := y :: r) (by simp)
    unfold minL
    split
    · exact ⟨List.mem_cons_of_mem _ h1, fun z hz => by
        rcases List.mem_cons.mp hz with rfl | hz
        · omega
        · exact h2 z hz⟩
    · exact ⟨List.mem_cons_self, fun z hz => by
        rcases List.mem_cons.mp hz with rfl | hz
        · exact Int.le_refl _
        · have := h2 z hz
          omega⟩
theorem maxL_spec : ∀ {ns : List Int}, ns ≠ [] → maxL ns ∈ ns ∧ ∀ y ∈ ns, y ≤ maxL ns
  | [], h => absurd rfl h
  | [x], _ => ⟨by simp [maxL], fun y hy => by simp at hy; subst hy; simp [maxL]⟩
  | x :: y :: r, _ => by
    obtain ⟨h1, h2⟩ := maxL_spec (ns := y :: r) (by simp)
    unfold maxL
    split
    · exact ⟨List.mem_cons_of_mem _ h1, fun z hz => by
        rcases List.mem_cons.mp hz with rfl | hz
        · omega
        · exact h2 z hz⟩
    · exact ⟨List.mem_cons_self, fun z hz => by
        rcases List.mem_cons.mp hz with rfl | hz
        · exact Int.le_refl _
        · have := h2 z hz
          omega⟩
def minF : List D → Option D
  | [.list ds] => (intsOf ds).bind fun ns => if ns = [] then none else some (.int (minL ns))
  | [.int i, .int j] => some (.int (if j < i then j else i))
  | _ => none
def maxF : List D → Option D
  | [.list ds] => (intsOf ds).bind fun ns => if ns = [] then none else some (.int (maxL ns))
  | [.int i, .int j] => some (.int (if j > i then j else i))
  | _ => none
variable {p pos : Pos} {e e' : Expr} {es : List Expr} {L : FL} {F : FE}
theorem mm_eq {ns : List Int} {a b : Int} (ha : a ∈ ns) (hb : b ∈ ns) (h1 : ∀ y ∈ ns, a ≤ y) (h2 : ∀ y ∈ ns, b ≤ y) : a = b := Int.le_antisymm (h1 b hb) (h2 a ha)
theorem f_min (hc : X.calm = true) (hm : X.mg "min" = none) (ha : PAB X (e :: es) L) (hg : Gl X "min" := by rfl)
    (he : starEach (e :: es) X.env = (false, eval e X.env) :: starEach es X.env := by rfl) (hpl : (backTo pos (starEach es X.env)).any (·.1) = false := by rfl) : PF X (.Call (.Name "min" p) (e :: es) [] pos) (eCall minF L) :=
  f_bc (CallR.or (cr_min hc) (call_min2 hc)) (fun ds d vs G H Q k bs sg q => by
    unfold minF at k
    split at k
    · obtain ⟨ns, hn, k⟩ := Option.bind_eq_some_iff.mp k
      split at k
      · cases k
      · rename_i hne
        cases k
        obtain ⟨v, rfl, b⟩ := bs.one
        obtain ⟨a, xs, rfl, h1, r1⟩ := b.lst' sg
        rw [intsOf_some hn] at r1
        cases r1.ints
        refine .inl ⟨_, ns, rfl, SqL.of h1, List.length_pos_iff.mpr hne, fun m hm hy => ?_⟩
        rw [mm_eq hm (minL_spec hne).1 hy (minL_spec hne).2]
        exact q _ G H (Gw.refl sg) (.int _)
    · cases k
      obtain ⟨v, u, rfl, b1, b2⟩ := bs.two
      cases b1.int'
      cases b2.int'
      exact .inr ⟨_, _, rfl, q _ G H (Gw.refl sg) (.int _)⟩
    · cases k) hm ha (by decide +kernel) hg (by decide) (by decide) he hpl
theorem f_max (hc : X.calm = true) (hm : X.mg "max" = none) (ha : PAB X (e :: es) L) (hg : Gl X "max" := by rfl)
    (he : starEach (e :: es) X.env = (false, eval e X.env) :: starEach es X.env := by rfl) (hpl : (backTo pos (starEach es X.env)).any (·.1) = false := by rfl) : PF X (.Call (.Name "max" p) (e :: es) [] pos) (eCall maxF L) :=
  f_bc (CallR.or (cr_max hc) (call_max2 hc)) (fun ds d vs G H Q k bs sg q => by
    unfold maxF at k
    split at k
    · obtain ⟨ns, hn, k⟩ := Option.bind_eq_some_iff.mp k
      split at k
      · cases k
      · rename_i hne
        cases k
        obtain ⟨v, rfl, b⟩ := bs.one
        obtain ⟨a, xs, rfl, h1, r1⟩ := b.lst' sg
        rw [intsOf_some hn] at r1
        cases r1.ints
        refine .inl ⟨_, ns, rfl, SqL.of h1, List.length_pos_iff.mpr hne, fun m hm hy => ?_⟩
        rw [Int.le_antisymm ((maxL_spec hne).2 m hm) (hy _ (maxL_spec hne).1)]
        exact q _ G H (Gw.refl sg) (.int _)
    · cases k
      obtain ⟨v, u, rfl, b1, b2⟩ := bs.two
      cases b1.int'
      cases b2.int'
      exact .inr ⟨_, _, rfl, q _ G H (Gw.refl sg) (.int _)⟩
    · cases k) hm ha (by decide +kernel) hg (by decide) (by decide) he hpl

/-! ### isinstance(x, T) -/
def tyS : D → Option String
  | .none => some "NoneType"
  | .bool _ => some "bool"
  | .int _ => some "int"
  | .str _ => some "str"
  | .list _ => some "list"
  | .tuple _ => some "tuple"
  | _ => none
def isiD (T : String) (d : D) : Option D := (tyS d).bind fun t => (kitB t T).map .bool
theorem Bor.ty {W : Wd} {G H : Hp} {d : D} {v : V} {t : String} (b : Bor W G H d v) (sg : Same G H) (h : tyS d = some t) : TyX W.K H v (.type t) := by
  unfold tyS at h
  split at h
  · cases h; cases b.non'; exact .base .non
  · cases h; cases b.bl'; exact .base (.bl _)
  · cases h; cases b.int'; exact .base (.int _)
  · cases h; cases b.str'; exact .base (.str _)
  · cases h
    obtain ⟨a, xs, rfl, h1, _⟩ := b.lst' sg
    exact .base (.lst h1)
  · cases h
    obtain ⟨a, xs, rfl, _, h1, _⟩ := b.tup' sg
    exact .base (.tup h1)
  · cases h
theorem f_isi (T : String) {y : Str} {p2 : Pos} (hm : X.mg "isinstance" = none) (hmT : X.mg y = none) (ha : PB X e F) (hvT : bootBuiltins y = some (.type T) := by decide +kernel) (hg : Gl X "isinstance" := by rfl) (hgT : Gl X y := by rfl) (hn : y ≠ "__name__" := by decide) (hdb : (y == ("__debug__" : Str)) = false := by decide)
    (hs1 : starEach [e, .Name y p2] X.env = (false, eval e X.env) :: starEach [.Name y p2] X.env := by rfl) (hs2 : starEach [.Name y p2] X.env = (false, eval (.Name y p2) X.env) :: starEach [] X.env := by rfl) (hpl : (backTo pos (starEach [.Name y p2] X.env)).any (·.1) = false := by rfl) :
    PF X (.Call (.Name "isinstance" p) [e, .Name y p2] [] pos) (o1 (isiD T) F) :=
  PE.weak (pe_callB call_isi hg hm (by decide +kernel) (pa_cons ha (pa_cons (pe_bltn (v := .ty T) hgT hmT hvT rfl hn hdb) pa_nil hs2) hs1) (by decide) (by decide) hs1 hpl) fun σ H Q ⟨B, G, ρ, d, r, k, q⟩ => by
    obtain ⟨x, hx, k⟩ := Option.bind_eq_some_iff.mp k
    obtain ⟨t, ht, k⟩ := Option.bind_eq_some_iff.mp k
    obtain ⟨b, hb, k⟩ := Option.map_eq_some_iff.mp k
    subst k
    refine ⟨B, G, ρ, x, r, hx, fun v G1 H1 w1 b1 => ?_⟩
    exact ⟨v, .ty T, .type t, .type T, b, rfl, .ty T, b1.ty w1.gh ht, kit_ty hb, q _ G1 H1 w1 (.bl _)⟩

/-! ### tuple(x), list(x) -/
def tupF : List D → Option D
  | [.list ds] => some (.tuple ds)
  | [.tuple ds] => some (.tuple ds)
  | _ => none
theorem f_tuple (hm : X.mg "tuple" = none) (ha : PAB X [e] L) (hg : Gl X "tuple" := by rfl)
    (he : starEach [e] X.env = (false, eval e X.env) :: starEach [] X.env := by rfl) (hpl : (backTo pos (starEach [] X.env)).any (·.1) = false := by rfl) : PF X (.Call (.Name "tuple" p) [e] [] pos) (eCall tupF L) :=
  f_bt call_tuple_of (fun ds d vs G H Q k bs sg q => by
    unfold tupF at k
    split at k
    · cases k
      obtain ⟨v, rfl, b⟩ := bs.one
      obtain ⟨a, xs, rfl, h1, r1⟩ := b.lst' sg
      exact ⟨_, _, rfl, .inl ⟨SqL.of h1, fin_tup sg r1 q⟩⟩
    · cases k
      obtain ⟨v, rfl, b⟩ := bs.one
      obtain ⟨a, xs, rfl, g1, h1, r1⟩ := b.tup' sg
      exact ⟨_, _, rfl, .inr ⟨SqT.of h1, q _ G H (Gw.refl sg) (.tup g1 r1)⟩⟩
    · cases k) hm ha (by decide +kernel) hg (by decide) (by decide) he hpl
def lstF : List D → Option D
  | [.list ds] => some (.list ds)
  | [.tuple ds] => some (.list ds)
  | [.dict ((.none, .int 0) :: kvs)] => some (.list (kvs.map (·.1)))
  | _ => none
theorem f_list (hc : X.calm = true) (hm : X.mg "list" = none) (ha : PAB X [e] L) (hg : Gl X "list" := by rfl)
    (he : starEach [e] X.env = (false, eval e X.env) :: starEach [] X.env := by rfl) (hpl : (backTo pos (starEach [] X.env)).any (·.1) = false := by rfl) : PF X (.Call (.Name "list" p) [e] [] pos) (eCall lstF L) :=
  f_bt (CallR.or call_list_of (call_listD hc)) (fun ds d vs G H Q k bs sg q => by
    unfold lstF at k
    split at k
    · cases k
      obtain ⟨v, rfl, b⟩ := bs.one
      obtain ⟨a, xs, rfl, h1, r1⟩ := b.lst' sg
      exact .inl ⟨_, _, rfl, .inl (SqL.of h1), fin_lst sg r1 q⟩
    · cases k
      obtain ⟨v, rfl, b⟩ := bs.one
      obtain ⟨a, xs, rfl, g1, h1, r1⟩ := b.tup' sg
      exact .inl ⟨_, _, rfl, .inr (SqT.of h1), fin_lst sg r1 q⟩
    · cases k
      obtain ⟨v, rfl, b⟩ := bs.one
      obtain ⟨a, kv, rfl, h1, h2, h3⟩ := b.dk sg
      exact .inr ⟨_, _, rfl, h1, fin_lst sg (reps_keys h2) q⟩
    · cases k) hm ha (by decide +kernel) hg (by decide) (by decide) he hpl

/-! ### methods of texts -/
/-- a built-in type's method by values -/
def eMeth (f : D → List D → Option D) (a : FE) (l : FL) : FE := fun ρ => (a ρ).bind fun x => (l ρ).bind fun xs => f x xs
def MethD (W : Wd) (T : String) (r : V → List V → Hp → VK → Prop) (f : D → List D → Option D) : Prop :=
  ∀ (x : D) (ds : List D) (d : D) (v : V) (vs : List V) (G H : Hp) (Q : VK), f x ds = some d → Bor W G H x v → Bors W G H ds vs → Same G H → (∀ z G' H', Gw G H G' H' → Rep W G' d z → Q z H') → r v vs H Q
theorem f_meth {T id : String} {name : Str} {o : Expr} {r : V → List V → Hp → VK → Prop} {f : D → List D → Option D} {apos cpos : Pos} {Fo : FE} (pa : PlainAttrs T) (slot : Slot T name id) (hty : typeOf (.builtin id) = pure (.type "method_descriptor")) (hm : MtR X id r) (hf : MethD X.wd T r f)
    (hT : ∀ x ds d, f x ds = some d → ∀ G H v, Bor X.wd G H x v → Same G H → tyV X.K T v H) (ho : PB X o Fo) (ha : PAB X (e :: es) L)
    (hbase : attributeBase o name X.env (eval o X.env) = eval o X.env := by rfl)
    (hfew : ((backTo cpos (starEach (e :: es) X.env)).all (fun x => !x.1) && (backToKw cpos (keywordEach [] X.env)).all (fun x => x.1.isSome)
      && decide ((e :: es).length + ([] : List Keyword).length + (if ([] : List Keyword).isEmpty then 0 else 1) < 30)) = true := by rfl)
    (hline : (apos.endLine == cpos.line) = true := by rfl) (hs : starEach (e :: es) X.env = (false, eval e X.env) :: starEach es X.env := by rfl) (hplain : (backTo cpos (starEach es X.env)).any (·.1) = false := by rfl) :
    PF X (.Call (.Attribute o name apos) (e :: es) [] cpos) (eMeth f Fo L) :=
  PE.weak (pe_bm pa slot hty hm ho ha hbase hfew hline hs hplain) fun σ H Q ⟨B, G, ρ, d, rp, k, q⟩ => by
    obtain ⟨x, hx, k⟩ := Option.bind_eq_some_iff.mp k
    obtain ⟨ds, hd, k⟩ := Option.bind_eq_some_iff.mp k
    refine ⟨B, G, ρ, x, rp, hx, fun v G1 H1 w1 b1 => ⟨hT x ds d k G1 H1 v b1 w1.gh, B, G1, ρ, ds, rp.step w1, hd, fun vs G2 H2 w2 bs => ?_⟩⟩
    exact hf x ds d v vs G2 H2 Q k (b1.step w2) bs w2.gh fun z G' H' w rz => q z G' H' ((w1.trans w2).trans w) rz
section
local instance (priority := 1000000) cdj2 (p : Prop) : Decidable p := Classical.propDecidable p
def joinF : D → List D → Option D
  | .str a, [.list ds] => (strsOf ds).bind fun ys => if (ys.map (·.length)).sum + ys.length * a.length ≤ 16777216 then some (.str (Txt.join a ys)) else none
  | _, _ => none
end
theorem f_join {o : Expr} {Fo : FE} {apos cpos : Pos} (ho : PB X o Fo) (ha : PAB X [e] L)
    (hbase : attributeBase o "join" X.env (eval o X.env) = eval o X.env := by rfl)
    (hfew : ((backTo cpos (starEach [e] X.env)).all (fun x => !x.1) && (backToKw cpos (keywordEach [] X.env)).all (fun x => x.1.isSome)
      && decide (([e] : List Expr).length + ([] : List Keyword).length + (if ([] : List Keyword).isEmpty then 0 else 1) < 30)) = true := by rfl)
    (hline : (apos.endLine == cpos.line) = true := by rfl) (hs : starEach [e] X.env = (false, eval e X.env) :: starEach [] X.env := by rfl) (hplain : (backTo cpos (starEach [] X.env)).any (·.1) = false := by rfl) :
    PF X (.Call (.Attribute o "join" apos) [e] [] cpos) (eMeth joinF Fo L) :=
  f_meth PySem.F.plainAttrs_str PySem.F.slot_str_join PySem.F.type_str_join mt_join (fun x ds d v vs G H Q k b bs sg q => by
    unfold joinF at k
    split at k
    · obtain ⟨ys, hy, k⟩ := Option.bind_eq_some_iff.mp k
      split at k
      · rename_i hz
        cases k
        cases b.str'
        obtain ⟨u, rfl, b1⟩ := bs.one
        obtain ⟨a, xs, rfl, h1, r1⟩ := b1.lst' sg
        rw [strsOf_some hy] at r1
        cases r1.strs
        exact ⟨_, _, ys, rfl, rfl, .inl (SqL.of h1), hz, q _ G H (Gw.refl sg) (.str _)⟩
      · cases k
    · cases k) (fun x ds d k G H v b sg => by
      unfold joinF at k
      split at k
      · cases b.str'; rfl
      · cases k) ho ha hbase hfew hline hs hplain
end

/-! ### a slot's thing frozen behind a statement; a def that calls itself -/
def thenF (i : Nat) (F : FS) : FS := fun ρ => (F ρ).map fun o => match o with
  | .nx ρ' => .nx (frzE i ρ')
  | o => o
theorem s_thenF (i : Nat) {X : Cx} {st : Stmt} {F : FS} (h : PSD X st F) : PSD X st (thenF i F) := by
  refine ⟨fun pins s σ H E I ⟨B, G, ρ, o, r, k, a⟩ => ?_⟩
  obtain ⟨o1, ho, k⟩ := Option.map_eq_some_iff.mp k
  subst k
  refine thn (h.run pins s σ H { nx := fun σ' H' => ∃ ρ' G', o1 = .nx ρ' ∧ Gs B G G' ∧ Rp X.wd B G' H' ρ' σ', rt := E.rt, bk := E.bk, ct := E.ct } I ⟨B, G, ρ, o1, r, ho, ?_⟩) fun f s1 q => ?_
  · cases o1 with
    | nx ρ' => exact fun σ' G' H' g r' => ⟨ρ', G', rfl, g, r'⟩
    | rt d => exact a
    | bk ρ' => exact a
    | ct ρ' => exact a
  · cases f with
    | next =>
      obtain ⟨σ', H', I', ρ', G', rfl, g, r'⟩ := q
      obtain ⟨G2, H2, I2, r2, g2⟩ := frz_run (i := i) I' r'
      exact ⟨σ', H2, I2, a σ' G2 H2 (g.trans g2) r2⟩
    | brk => exact q
    | cont => exact q
    | ret v => exact q
theorem DefD.nil {P : Program} {w : World} {K : PySem.W.Frag} {mg : Str → Option Value} {base : Heap} {k : Nat} {x : Str} {st : Stmt} {ps : List Str} (T : TopF K mg x st ps) : DefD P w K mg base k x (fun _ => none) :=
  let ⟨f, fd, F, hm, hb⟩ := T.ex
  ⟨f, fd, ps, ⟨fun vs H Q E h => h.1, fun A outer s H args us vs Q E _ _ _ _ h => let ⟨_, _, _, _, _, _, z, _⟩ := h; nomatch z⟩, hm, F.kp, hb, fun _ _ h => nomatch h⟩
/-- the law: a list of at most 63 ints is handed in, True comes out -/
def spLaw (K : PySem.W.Frag) : Sp := fun vs H Q _ => ∃ (a : Addr) (ns : List Int), vs = [.ref a] ∧ SqL K H a (ns.map V.int) ∧ ns.length ≤ 63 ∧ ∀ H', Q (.bl true) H'
theorem law_imp {P : Program} {w : World} {K : PySem.W.Frag} {mg : Str → Option Value} {base : Heap} {k : Nat} {Ff : List D → Option D} {fa : Addr} {fd : FuncData} {ps : List Str} (F : FnOk P w K mg base CX0 k fa fd ps (spD ⟨P, w, K⟩ 1 Ff)) (ht : ∀ ns : List Int, ns.length ≤ 63 → Ff [scrD ns] = some (.bool true)) :
    FnOk P w K mg base CX0 k fa fd ps (spLaw K) := F.imp fun vs H Q E q => by
  obtain ⟨a, ns, rfl, hs, hz, q⟩ := q
  refine ⟨rfl, H, [scrD ns], _, Same.refl _, .cons (.scr hs) .nil, ht ns hz, fun v G' H' w rv => ?_⟩
  cases rv
  exact q H'
theorem room65 {k : Nat} {A : Around} (r : Room k A) : A.units + 65 < cLine := by
  have := r.un
  omega
end DV
end

set_option Elab.async false
set_option linter.all false
set_option maxRecDepth 100000
/-! DVk: text.index, slices with a step, `in` a written tuple of the module. -/
noncomputable section
namespace DV
open PySem PySem.Spec PyProof.Rows L2
section
variable {X : Cx} {e : Expr} {pos p2 : Pos} {F Fo : FE} {L : FL}
/-! ### text.index -/
def indexF : D → List D → Option D
  | .str a, [.str b] => match Builtin.Str.occurrences a b 0 a.length 1 with
    | i :: _ => some (.int (i : Nat))
    | [] => none
  | _, _ => none
theorem f_index {o : Expr} {apos cpos : Pos} (ho : PB X o Fo) (ha : PAB X [e] L)
    (hbase : attributeBase o "index" X.env (eval o X.env) = eval o X.env := by rfl)
    (hfew : ((backTo cpos (starEach [e] X.env)).all (fun x => !x.1) && (backToKw cpos (keywordEach [] X.env)).all (fun x => x.1.isSome)
      && decide (([e] : List Expr).length + ([] : List Keyword).length + (if ([] : List Keyword).isEmpty then 0 else 1) < 30)) = true := by rfl)
    (hline : (apos.endLine == cpos.line) = true := by rfl) (hs : starEach [e] X.env = (false, eval e X.env) :: starEach [] X.env := by rfl) (hplain : (backTo cpos (starEach [] X.env)).any (·.1) = false := by rfl) :
    PF X (.Call (.Attribute o "index" apos) [e] [] cpos) (eMeth indexF Fo L) :=
  f_meth PySem.F.plainAttrs_str PySem.F.slot_str_index PySem.F.type_str_index mt_sindex (fun x ds d v vs G H Q k b bs sg q => by
    unfold indexF at k
    split at k
    · split at k
      · rename_i i rest hi
        cases k
        cases b.str'
        obtain ⟨u, rfl, b1⟩ := bs.one
        cases b1.str'
        exact ⟨_, _, i, rest, rfl, rfl, hi, q _ G H (Gw.refl sg) (.int _)⟩
      · cases k
    · cases k) (fun x ds d k G H v b sg => by
      unfold indexF at k
      split at k
      · cases b.str'; rfl
      · cases k) ho ha hbase hfew hline hs hplain

/-! ### a list's slice with a step -/
def pickD {α : Type} (xs : List α) (lo hi st : Option Int) : List α :=
  (sliceRange (sliceBounds lo hi st xs.length).1 (sliceBounds lo hi st xs.length).2.1 (sliceBounds lo hi st xs.length).2.2).filterMap (xs[·]?)
theorem pick_eq (vs : List Value) (lo hi st : Option Int) : slicePick vs.toArray lo hi st = (pickD vs lo hi st).toArray := by
  unfold slicePick pickD
  simp
theorem vals_pick {xs : List V} {vs : List Value} (r : Vals xs vs) : ∀ l : List Nat, Vals (l.filterMap (xs[·]?)) (l.filterMap (vs[·]?))
  | [] => .nil
  | i :: l => by
    have hl := r.length
    have ih := vals_pick r l
    cases hx : xs[i]? with
    | none =>
      have hv : vs[i]? = none := by
        rw [List.getElem?_eq_none_iff] at hx ⊢
        omega
      rw [List.filterMap_cons_none hx, List.filterMap_cons_none hv]
      exact ih
    | some x =>
      obtain ⟨v, hv, rv⟩ := r.get hx
      rw [List.filterMap_cons_some hx, List.filterMap_cons_some hv]
      exact .cons rv ih
theorem reps_pick {W : Wd} {G : Hp} {ds : List D} {xs : List V} (r : Reps W G ds xs) : ∀ l : List Nat, Reps W G (l.filterMap (ds[·]?)) (l.filterMap (xs[·]?))
  | [] => .nil
  | i :: l => by
    have hl := r.length
    have ih := reps_pick r l
    cases hx : ds[i]? with
    | none =>
      have hv : xs[i]? = none := by
        rw [List.getElem?_eq_none_iff] at hx ⊢
        omega
      rw [List.filterMap_cons_none hx, List.filterMap_cons_none hv]
      exact ih
    | some x =>
      obtain ⟨v, hv, rv⟩ := r.get hx
      rw [List.filterMap_cons_some hx, List.filterMap_cons_some hv]
      exact .cons rv ih
def tSlS (K : PySem.W.Frag) (te : TE) (tl th ts : TO) : TE := fun σ H Q => te σ H fun x H1 => tl σ H1 fun lo H2 => th σ H2 fun hi H3 => ts σ H3 fun st H4 => ∃ a xs, x = .ref a ∧ st ≠ some 0 ∧ SqL K H4 a xs ∧ ∀ p, H4 p = none → Q (.ref p) (upd H4 p (.lst (pickD xs lo hi st)))
theorem pe_slS {te : TE} {tl th ts : TO} {lo hi : Option Expr} {es : Expr} (he : PE X e te) (hl : PO X lo tl) (hu : PO X hi th) (hst : PO X (some es) ts) : PE X (.Subscript e (.Slice lo hi (some es) p2) pos) (tSlS X.K te tl th ts) := by
  refine ⟨fun pins s σ H Q I h => ?_⟩
  refine Subscript_ (thn (he.run pins s σ H _ I h) fun v s1 ⟨x, H1, I1, r1, q1⟩ => ?_)
  refine wpAny_Slice (thn (hl.run pins s1 σ H1 _ I1 q1) fun vl s2 ⟨l, H2, I2, pl, q2⟩ => thn (hu.run pins s2 σ H2 _ I2 q2) fun vu s3 ⟨u, H3, I3, pu, q3⟩ => thn (hst.run pins s3 σ H3 _ I3 q3) fun vs s4 ⟨o, H4, I4, ps, q4⟩ => ?_)
  obtain ⟨a, xs, ex, h0, hx, q⟩ := q4
  subst ex
  cases r1
  have I5 : Inv X pins σ H4 { s4 with heap := s4.heap.push { cls := .type "slice", data := .fields #[vl, vu, vs] } } := I4.kept (t' := s4.toks) fun b ob q => Heap.get?_push_of_some _ q
  obtain ⟨its, r, ht, hz⟩ := I5.list hx
  have hlen := r.length
  show wpAny (model X.prog X.w) X.A (subscriptTail e (.Slice lo hi (some es) p2) (.ref a) (.ref s4.heap.objs.size)) (EP X pins σ Q) X.xe { s4 with heap := s4.heap.push { cls := .type "slice", data := .fields #[vl, vu, vs] } }
  refine tail_any (ops := [.ref a, .ref s4.heap.objs.size]) ht.isList.typeIs (PySem.slot_list_getitem.lookup) ?_ (by with_unfolding_all rfl)
  refine wpAny_getItem_list_slice ht.isList (Heap.IsSliceOf.new _ vl vu vs) pl pu ps h0 ?_ (by rw [List.size_toArray]; omega)
  have hsz := slicePick_size_le its.toArray l u o
  rw [pick_eq] at hsz ⊢
  have rp : Vals (pickD xs l u o) (pickD its l u o) := by
    unfold pickD
    rw [hlen]
    exact vals_pick r _
  refine ⟨.ref _, _, I5.laid (t' := s4.toks) (o := .lst (pickD xs l u o)) (fun b ob q => Heap.get?_push_of_some _ q) (Nat.le_refl _) ?_, rfl, q _ (I5.hok.fresh (Nat.le_refl _))⟩
  refine ⟨?_, _, 0, rp, Heap.get?_push_size _ rfl⟩
  have := rp.length
  simp at hsz
  omega
theorem Reps.pick {W : Wd} {G : Hp} {ds : List D} {xs : List V} (r : Reps W G ds xs) (lo hi st : Option Int) : Reps W G (pickD ds lo hi st) (pickD xs lo hi st) := by
  unfold pickD
  rw [r.length]
  exact reps_pick r _
def slsD : D → Option Int → Option Int → Option Int → Option D
  | .list ds, lo, hi, st => if st = some 0 then none else some (.list (pickD ds lo hi st))
  | _, _, _, _ => none
def eSlS (a : FE) (lo hi st : FP) : FE := fun ρ => (a ρ).bind fun x => (lo ρ).bind fun l => (hi ρ).bind fun h => (st ρ).bind fun o => slsD x l h o
theorem f_slS {lo hi : Option Expr} {es : Expr} {L U S : FP} (he : PB X e F) (hl : POD X lo L) (hu : POD X hi U) (hs : POD X (some es) S) : PF X (.Subscript e (.Slice lo hi (some es) p2) pos) (eSlS F L U S) :=
  PE.weak (pe_slS he hl hu hs) fun σ H Q ⟨B, G, ρ, d, r, k, q⟩ => by
    obtain ⟨x, hx, k⟩ := Option.bind_eq_some_iff.mp k
    obtain ⟨l, hl, k⟩ := Option.bind_eq_some_iff.mp k
    obtain ⟨h, hh, k⟩ := Option.bind_eq_some_iff.mp k
    obtain ⟨o, ho, k⟩ := Option.bind_eq_some_iff.mp k
    refine ⟨B, G, ρ, x, r, hx, fun v G1 H1 w1 b1 => ⟨B, G1, ρ, l, r.step w1, hl, fun G2 H2 w2 => ⟨B, G2, ρ, h, (r.step w1).step w2, hh, fun G3 H3 w3 => ⟨B, G3, ρ, o, ((r.step w1).step w2).step w3, ho, fun G4 H4 w4 => ?_⟩⟩⟩⟩
    have b4 := ((b1.step w2).step w3).step w4
    have w := ((w1.trans w2).trans w3).trans w4
    have q' : ∀ z G' H', Gw G4 H4 G' H' → Rep X.wd G' d z → Q z H' := fun z G' H' w' rz => q z G' H' (w.trans w') rz
    unfold slsD at k
    split at k
    · split at k
      · cases k
      · rename_i h0
        cases k
        obtain ⟨a, xs, rfl, h1, r1⟩ := b4.lst' w4.gh
        exact ⟨_, _, rfl, h0, SqL.of h1, fin_lst w4.gh (r1.pick l h o) q'⟩
    · cases k

/-! ### in, not in: a written tuple of texts of the module -/
structure KTup (K : PySem.W.Frag) (mg : Str → Option Value) (x : Str) (ks : List Str) : Prop where
  ex : ∃ (t : Addr) (o : Obj) (its : Array Value) (n : Nat), mg x = some (.ref t) ∧ K.lookup t = some o ∧ o.cls = .type "tuple" ∧ o.data = .seq its n ∧ its.size ≤ sizeLine ∧ Vals (ks.map V.str) its.toList
def inC (ks : List Str) : D → Option D
  | .str z => some (.bool (decide (z ∈ ks)))
  | _ => none
def ninC (ks : List Str) : D → Option D
  | .str z => some (.bool (!decide (z ∈ ks)))
  | _ => none
theorem inV_strs (z : Str) (ks : List Str) : inV (.str z) (ks.map V.str) = decide (z ∈ ks) := by
  induction ks with
  | nil => rfl
  | cons k ks ih =>
    rw [List.map_cons]
    unfold inV at ih ⊢
    rw [List.any_cons, ih]
    show ((k == z) || decide (z ∈ ks)) = decide (z ∈ k :: ks)
    by_cases h : k = z
    · subst h; simp
    · have h' : ¬ z = k := fun e => h e.symm
      rw [beq_eq_false_iff_ne.mpr h]
      simp [h']
theorem f_ninG {x : Str} {ks : List Str} {a : Expr} {Fa : FE} {p : Pos} (ha : PB X a Fa) (T : KTup X.K X.mg x ks) (hg : Gl X x) (hd : (x == ("__debug__" : Str)) = false := by decide) (hm : behindInMarks .NotIn (.Name x p) = false := by with_unfolding_all rfl) :
    PF X (.Compare a [.NotIn] [.Name x p] pos) (o1 (ninC ks) Fa) := by
  obtain ⟨t, o, its, n, h1, h2, h3, h4, h5, h6⟩ := T.ex
  refine PE.weak (pe_cmpR op_notIn_seq ha (pe_glob (v := V.ref t) hg h1 rfl hd) hm) fun σ H Q ⟨B, G, ρ, d, r, k, q⟩ => ?_
  obtain ⟨y, hy, k⟩ := Option.bind_eq_some_iff.mp k
  refine ⟨B, G, ρ, y, r, hy, fun v G1 H1 w1 b1 => ?_⟩
  unfold ninC at k
  split at k
  · cases k
    cases b1.str'
    refine ⟨t, ks.map V.str, rfl, .inr (.inr ⟨o, its, n, h2, h3, h4, h5, h6⟩), rfl, ?_, ?_⟩
    · simp [flatV]
    · rw [inV_strs]
      exact q _ G1 H1 w1 (.bl _)
  · cases k
end
end DV
end

set_option Elab.async false
set_option linter.all false
set_option maxRecDepth 100000
/-! DVl: sorted(.., key=own def), the keys being pairs of an int and a text. -/
noncomputable section
namespace DV
open PySem PySem.Spec PyProof.Rows L2
/-! ### the order -/
def kLt (p q : Int × Str) : Bool := if p.1 = q.1 then decide (p.2.cps.toList < q.2.cps.toList) else decide (p.1 < q.1)
theorem cps_inj {a b : Str} (h : a.cps.toList = b.cps.toList) : a = b := by
  obtain ⟨a⟩ := a
  obtain ⟨b⟩ := b
  simp only at h
  rw [Array.toList_inj.mp h]
theorem lst_asym {a b : List Nat} (h : a < b) : ¬ b < a := fun z => absurd (List.lt_trans h z) (List.lt_irrefl a)
theorem lst_tri (a b : List Nat) : a < b ∨ a = b ∨ b < a := by
  by_cases h : a < b
  · exact .inl h
  · rcases (List.le_iff_lt_or_eq (l₁ := b) (l₂ := a)).mp (List.not_lt.mp h) with e | e
    · exact .inr (.inr e)
    · exact .inr (.inl e.symm)
theorem kLt_iff {p q : Int × Str} : kLt p q = true ↔ p.1 < q.1 ∨ (p.1 = q.1 ∧ p.2.cps.toList < q.2.cps.toList) := by
  unfold kLt
  by_cases h : p.1 = q.1
  · rw [if_pos h]
    simp only [decide_eq_true_eq]
    constructor
    · exact fun z => .inr ⟨h, z⟩
    · rintro (z | z)
      · omega
      · exact z.2
  · rw [if_neg h]
    simp only [decide_eq_true_eq]
    constructor
    · exact fun z => .inl z
    · rintro (z | z)
      · exact z
      · exact absurd z.1 h
theorem kLt_no {p q : Int × Str} : kLt p q = false ↔ q.1 < p.1 ∨ (p.1 = q.1 ∧ ¬ p.2.cps.toList < q.2.cps.toList) := by
  rw [← Bool.not_eq_true, kLt_iff]
  constructor
  · intro h
    by_cases e : p.1 = q.1
    · exact .inr ⟨e, fun z => h (.inr ⟨e, z⟩)⟩
    · refine .inl ?_
      have : ¬ p.1 < q.1 := fun z => h (.inl z)
      omega
  · rintro (z | z) (y | y)
    · omega
    · omega
    · omega
    · exact z.2 y.2
theorem kLt_swo {α : Type} (k : α → Int × Str) : SrtO.Swo (fun v u : α => kLt (k v) (k u)) := by
  refine ⟨fun x y h => ?_, fun x y z h1 h2 => ?_⟩
  · rcases kLt_iff.mp h with a | ⟨a, b⟩
    · exact kLt_no.mpr (.inl a)
    · exact kLt_no.mpr (.inr ⟨a.symm, lst_asym b⟩)
  · rcases kLt_no.mp h1 with a | ⟨a, a'⟩ <;> rcases kLt_no.mp h2 with b | ⟨b, b'⟩
    · exact kLt_no.mpr (.inl (by omega))
    · exact kLt_no.mpr (.inl (by omega))
    · exact kLt_no.mpr (.inl (by omega))
    · refine kLt_no.mpr (.inr ⟨b.trans a, ?_⟩)
      exact List.not_lt.mpr (List.le_trans (List.not_lt.mp a') (List.not_lt.mp b'))
theorem kLt_anti {p q : Int × Str} (h1 : kLt p q = false) (h2 : kLt q p = false) : p = q := by
  rcases kLt_no.mp h1 with a | ⟨a, a'⟩ <;> rcases kLt_no.mp h2 with b | ⟨b, b'⟩
  · omega
  · omega
  · omega
  · rcases lst_tri p.2.cps.toList q.2.cps.toList with e | e | e
    · exact absurd e a'
    · exact Prod.ext a (cps_inj e)
    · exact absurd e b'
/-! ### keys in the machine's heap -/
def IsKey (h : Heap) (v : Value) (p : Int × Str) : Prop := ∃ a o t u n, v = .ref a ∧ h.get? a = some o ∧ o.cls = .type "tuple" ∧ o.data = .seq #[.int p.1 t, .str p.2 u] n
theorem IsKey.uniq {h : Heap} {v : Value} {p q : Int × Str} (x : IsKey h v p) (y : IsKey h v q) : p = q := by
  obtain ⟨a, o, t, u, n, e, ho, _, hd⟩ := x
  obtain ⟨a', o', t', u', n', e', ho', _, hd'⟩ := y
  rw [e] at e'
  cases e'
  rw [ho] at ho'
  cases ho'
  rw [hd] at hd'
  cases p
  cases q
  cases hd'
  rfl
theorem IsKey.keeps {h h' : Heap} {v : Value} {p : Int × Str} (x : IsKey h v p) (k : ∀ b o, h.get? b = some o → o.cls = .type "tuple" → h'.get? b = some o) : IsKey h' v p := by
  obtain ⟨a, o, t, u, n, e, ho, hc, hd⟩ := x
  exact ⟨a, o, t, u, n, e, k _ _ ho hc, hc, hd⟩
section
variable {prog : Program} {w : World} {A : Around} {s : Shared}
theorem key_cmp {ks : List Value} {k : Value → Int × Str} (hp : ∀ v ∈ ks, IsKey s.heap v (k v)) : SrtO.Cmp prog w A s (tuples' true) (fun p => p.1 ∈ ks) (SrtO.lt2 fun v u => kLt (k v) (k u)) := by
  intro p q hm hm'
  have h1 := hp _ hm
  have h2 := hp _ hm'
  show wpAny (model prog w) A (keyLt' (tuples' true) p.1 q.1) (fun r s' => s' = s ∧ r = kLt (k p.1) (k q.1)) (fun _ _ => False) s
  unfold kLt
  generalize k p.1 = x at h1 ⊢
  generalize k q.1 = y at h2 ⊢
  obtain ⟨x, y'⟩ := x
  obtain ⟨x2, y2⟩ := y
  obtain ⟨a, o, t, u, n, e, ho, hc, hd⟩ := h1
  obtain ⟨a', o', t', u', n', e', ho', hc', hd'⟩ := h2
  rw [e, e']
  refine PySem.W.kat_lt ho hd ho' hd' ?_
  show PySem.W.KatLex prog w A true (decide (2 < 2)) _ [(.int x t, .int x2 t'), (.str y' u, .str y2 u')] 0 s
  refine PySem.W.kat_cons (SeqAt.EqAt.int_int x t x2 t' prog w _ _ ?_)
  refine PySem.W.kat_go (fun e1 => ?_) (fun e1 => ?_)
  · have ex : x = x2 := by simpa using e1
    refine PySem.W.kat_yes (PySem.W.kat_cons (SeqAt.EqAt.str_str y' u y2 u' prog w _ _ ?_))
    refine PySem.W.kat_go (fun e2 => ?_) (fun e2 => ?_)
    · have ey : y' = y2 := by simpa using e2
      have e3 : (if x = x2 then decide (y'.cps.toList < y2.cps.toList) else decide (x < x2)) = false := by
        rw [if_pos ex, ey]
        exact decide_eq_false (List.lt_irrefl _)
      exact PySem.W.kat_yes (PySem.W.kat_nil ⟨rfl, e3.symm⟩)
    · have e3 : (if x = x2 then decide (y'.cps.toList < y2.cps.toList) else decide (x < x2)) = decide (y'.cps.toList < y2.cps.toList) := if_pos ex
      refine PySem.W.kat_no (PySem.W.kat_one _ _ (lt_str ?_))
      exact (show s = s ∧ decide (y'.cps.toList < y2.cps.toList) = (if x = x2 then decide (y'.cps.toList < y2.cps.toList) else decide (x < x2)) from ⟨rfl, e3.symm⟩)
  · have ex : ¬ x = x2 := by simpa using e1
    have e3 : (if x = x2 then decide (y'.cps.toList < y2.cps.toList) else decide (x < x2)) = decide (x < x2) := if_neg ex
    exact PySem.W.kat_no (oneLt_int ⟨rfl, e3.symm⟩)
theorem key_firsts {h : Heap} : ∀ {vs : List Value}, (∀ v ∈ vs, ∃ p, IsKey h v p) → ∃ fs : List Value, PySem.W.KatTups h vs fs ∧ fs.length = vs.length ∧ ∀ f ∈ fs, ∃ x t, f = Value.int x t
  | [], _ => ⟨[], PySem.W.KatTups.nil, rfl, fun _ hm => by simp at hm⟩
  | v :: vs, hp => by
    obtain ⟨fs, h1, h2, h3⟩ := key_firsts (vs := vs) fun v' hm => hp v' (List.mem_cons_of_mem _ hm)
    obtain ⟨⟨x, y⟩, a, o, t, u, n, e, ho, hc, hd⟩ := hp v (List.mem_cons_self ..)
    subst e
    refine ⟨.int x t :: fs, PySem.W.KatTups.cons ho hc hd rfl h1, by rw [List.length_cons, List.length_cons, h2], fun f hm => ?_⟩
    rcases List.mem_cons.mp hm with rfl | hm
    · exact ⟨x, t, rfl⟩
    · exact h3 f hm
theorem key_kind {ks : List Value} {Q : SortKind → Shared → Prop} {E : Value → Shared → Prop} (h0 : 0 < ks.length) (hp : ∀ v ∈ ks, ∃ p, IsKey s.heap v p) (hq : Q (tuples' true) s) : wpAny (model prog w) A (keyKind' ks.toArray) Q E s := by
  obtain ⟨fs, h1, h2, h3⟩ := key_firsts hp
  refine PySem.W.kat_kind (T := .type "int") h1 (by omega) (fun f hm => ?_) (by rfl) ?_
  · obtain ⟨x, t, rfl⟩ := h3 f hm
    exact PySem.W.Looks.now
  · have e : (Value.type "int" != Value.type "tuple") = true := by first | decide +kernel | rfl | decide
    rw [e]
    exact hq
end
end DV
end

set_option Elab.async false
set_option linter.all false
set_option maxRecDepth 100000
set_option maxHeartbeats 4000000
/-! DVs: sorted(xs, key=own def) as a rule. -/
noncomputable section
namespace DV
open PySem PySem.Spec PyProof.Rows L2
/-! ### one sorted list -/
theorem srt_uniq {α : Type} {lt : α → α → Bool} : ∀ {l m : List α}, (∀ a ∈ l, ∀ b ∈ l, lt a b = false → lt b a = false → a = b) → l.Perm m → l.Pairwise (fun a b => lt b a = false) → m.Pairwise (fun a b => lt b a = false) → l = m
  | [], m, _, h, _, _ => (List.Perm.eq_nil h.symm).symm
  | x :: l, [], _, h, _, _ => absurd h.length_eq (by simp)
  | x :: l, y :: m, ha, h, h1, h2 => by
    have hy : y ∈ x :: l := h.mem_iff.mpr List.mem_cons_self
    have hx : x ∈ y :: m := h.mem_iff.mp List.mem_cons_self
    have e : x = y := by
      rcases List.mem_cons.mp hy with e | hy'
      · exact e.symm
      · rcases List.mem_cons.mp hx with e | hx'
        · exact e
        · exact ha x List.mem_cons_self y hy ((List.pairwise_cons.mp h2).1 x hx') ((List.pairwise_cons.mp h1).1 y hy')
    subst e
    rw [srt_uniq (fun a h3 b h4 => ha a (List.mem_cons_of_mem _ h3) b (List.mem_cons_of_mem _ h4)) h.cons_inv (List.pairwise_cons.mp h1).2 (List.pairwise_cons.mp h2).2]
/-! ### what it gives -/
def kpar : D → Option (Int × Str)
  | .tuple [.int n, .str z] => some (n, z)
  | _ => none
def kD (p : Int × Str) : D := .tuple [.int p.1, .str p.2]
theorem kpar_some {d : D} {p : Int × Str} (h : kpar d = some p) : d = kD p := by
  unfold kpar at h
  split at h
  · cases h; rfl
  · cases h
def keyO (Ff : List D → Option D) (d : D) : Int × Str := (((Ff [d]).bind kpar).getD (0, Str.empty))
section
local instance (priority := 1000000) cds1 (p : Prop) : Decidable p := Classical.propDecidable p
def sortKF (Ff : List D → Option D) : D → Option D
  | .list ds => if (∀ d ∈ ds, Ff [d] = some (kD (keyO Ff d))) ∧ (∀ a ∈ ds, ∀ b ∈ ds, keyO Ff a = keyO Ff b → a = b) then some (.list (ds.mergeSort fun a b => !kLt (keyO Ff b) (keyO Ff a))) else none
  | _ => none
end
theorem sortKF_some {Ff : List D → Option D} {ds : List D} {out : D} (h : sortKF Ff (.list ds) = some out) : (∀ d ∈ ds, Ff [d] = some (kD (keyO Ff d))) ∧ (∀ a ∈ ds, ∀ b ∈ ds, keyO Ff a = keyO Ff b → a = b) ∧ out = .list (ds.mergeSort fun a b => !kLt (keyO Ff b) (keyO Ff a)) := by
  simp only [sortKF] at h
  split at h
  · rename_i hc
    cases h
    exact ⟨hc.1, hc.2, rfl⟩
  · cases h
theorem sortK_spec {Ff : List D → Option D} {ds l : List D} (hi : ∀ a ∈ ds, ∀ b ∈ ds, keyO Ff a = keyO Ff b → a = b) (hp : l.Perm ds) (hs : l.Pairwise fun a b => kLt (keyO Ff b) (keyO Ff a) = false) : (ds.mergeSort fun a b => !kLt (keyO Ff b) (keyO Ff a)) = l := by
  have O := kLt_swo (keyO Ff)
  have h1 := List.pairwise_mergeSort (le := fun a b => !kLt (keyO Ff b) (keyO Ff a)) (fun a b c x y => by
    simp only [Bool.not_eq_true'] at x y ⊢
    exact O.tr a b c x y) (fun a b => by
    cases e : kLt (keyO Ff b) (keyO Ff a) with
    | false => simp
    | true =>
      have e' : kLt (keyO Ff a) (keyO Ff b) = false := O.asym b a e
      simp [e']) ds
  have h2 := List.mergeSort_perm ds (fun a b => !kLt (keyO Ff b) (keyO Ff a))
  refine (srt_uniq (lt := fun a b => kLt (keyO Ff a) (keyO Ff b)) (fun a ha b hb x y => ?_) (hp.trans h2.symm) hs (h1.imp fun z => by simpa using z)).symm
  exact hi a (hp.mem_iff.mp ha) b (hp.mem_iff.mp hb) (kLt_anti x y)
section
variable {X : Cx} {k : Nat} {f : Addr} {fd : FuncData} {ps : List Str} {Ff : List D → Option D} {pins : List (Addr × Obj)} {σ : L2.St} {G H : Hp} {s : Shared}
/-- the def called from within a built-in -/
theorem call_in {A' : Around} {E : Value → Shared → Prop} {d kd : D} {xv : V} {u : Value} (F : FnOk X.prog X.w X.K X.mg X.base CX0 k f fd ps (spD X.wd ps.length Ff)) (hb : Binds X.K fd ps []) (hl : ∀ ds d, Ff ds = some d → ds.length = ps.length) (hr : Room k A')
    (he : Env0 X.prog X.w X.K X.mg X.base A' X.stack s H) (I : L2.Inv X pins σ H s) (sg : Same G H) (r : Rep X.wd G d xv) (ru : RelV xv u) (hk : Ff [d] = some kd) :
    wpAny (model X.prog X.w) A' (call (.ref f) [u]) (fun u' s' => ∃ kv G' H', L2.Inv X pins σ H' s' ∧ DV.Gw G H G' H' ∧ Rep X.wd G' kd kv ∧ RelV kv u') E s := by
  have hlen : ([u] ++ ([] : List Value)).length = ps.length := by
    have := hl _ _ hk
    simpa using this
  have hlen2 : [xv].length = ps.length := by
    have := hl _ _ hk
    simpa using this
  refine wpAny_call (codeAny_mono (F.run A' X.stack s H ⟨[u], []⟩ ([u] ++ []) [xv] (fun v H' => ∃ G', DV.Gw G H G' H' ∧ Rep X.wd G' kd v) (fun _ _ _ => False) hr he (hb s [u] I.kIn hlen) (.cons ru .nil)
    ⟨hlen2, G, [d], kd, sg, .cons r .nil, hk, fun v G' H' w rz => ⟨G', w, rz⟩⟩) fun r s' hq => ?_)
  cases r with
  | error e => exact hq.elim
  | ok fl =>
    cases fl with
    | ret u' =>
      obtain ⟨v, H', I', rv, G', w, rz⟩ := I.after hq
      exact ⟨v, G', H', I', w, rz, rv⟩
    | next => exact False.elim hq
    | brk => exact False.elim hq
    | cont => exact False.elim hq
theorem keys_of {h : Heap} {W : Wd} {key : D → Int × Str} {P : Program} {w : World} (sg : Same G H) (hok : HOk P w H h) : ∀ {ds : List D} {ks : List V} {kl : List Value}, Reps W G (ds.map fun d => kD (key d)) ks → Vals ks kl → Paired (fun d v => IsKey h v (key d)) ds kl
  | [], _, _, r, rv => by
    cases r
    cases rv
    exact .nil
  | d :: ds, _, _, r, rv => by
    cases r with
    | cons r1 r2 =>
      cases rv with
      | cons v1 v2 =>
        refine .cons ?_ (keys_of sg hok r2 v2)
        cases r1 with
        | tup h1 h2 =>
          cases h2 with
          | cons a1 a2 =>
            cases a1
            cases a2 with
            | cons b1 b2 =>
              cases b1
              cases b2
              cases v1
              obtain ⟨_, its2, r2, o, ho, hc, n, hd⟩ := hok _ _ (sg _ _ h1)
              obtain ⟨u1, u2, rfl, ri, rj⟩ := vals2 r2
              obtain ⟨t1, rfl⟩ := ri
              obtain ⟨t2, rfl⟩ := rj
              exact ⟨_, o, t1, t2, n, rfl, ho, hc, hd⟩
theorem quads {h : Heap} {W : Wd} {key : D → Int × Str} : ∀ {ds : List D} {xs : List V} {its kl : List Value}, Reps W G ds xs → Vals xs its → Paired (fun d v => IsKey h v (key d)) ds kl →
    ∃ L : List (D × V × Value × Value), L.map (·.1) = ds ∧ L.map (fun t => (t.2.2.2, t.2.2.1)) = kl.zip its ∧ ∀ t ∈ L, Rep W G t.1 t.2.1 ∧ RelV t.2.1 t.2.2.1 ∧ IsKey h t.2.2.2 (key t.1)
  | [], _, _, _, r, rv, pk => by
    cases r
    cases rv
    cases pk
    exact ⟨[], rfl, rfl, fun t ht => by cases ht⟩
  | d :: ds, _, _, _, r, rv, pk => by
    cases r with
    | cons r1 r2 =>
      rename_i x xs
      cases rv with
      | cons v1 v2 =>
        rename_i i its
        cases pk with
        | cons p1 p2 =>
          rename_i kv kl
          obtain ⟨L, e1, e2, e3⟩ := quads r2 v2 p2
          refine ⟨(d, x, i, kv) :: L, by rw [List.map_cons, e1], by rw [List.map_cons, e2]; rfl, fun t ht => ?_⟩
          rcases List.mem_cons.mp ht with rfl | ht
          · exact ⟨r1, v1, p1⟩
          · exact e3 t ht
end
end DV
end

set_option Elab.async false
set_option linter.all false
set_option maxRecDepth 100000
set_option maxHeartbeats 4000000
/-! DVt: the run of sorted(xs, key=own def). -/
noncomputable section
namespace DV
open PySem PySem.Spec PyProof.Rows L2
section
variable {X : Cx} {k : Nat} {f : Addr} {fd : FuncData} {ps : List Str} {Ff : List D → Option D} {pins : List (Addr × Obj)} {σ : L2.St} {G H : Hp} {s : Shared}
/-- behind the keys: the order is made, the list is filled -/
theorem end_run {E : Value → Shared → Prop} {P : PySem.Fin → Shared → Prop} {A' : Around} {ds : List D} {xs : List V} {its : List Value} {ks : List V} {kA : Array Value} {e e1 : Nat} {a kS : Addr} {out : D} {Q : VK}
    (I : L2.Inv X (pins ++ [(kS, seqObj "list" kA e), (a, seqObj "list" #[] e1)]) σ H s) (sg : Same G H) (r : Reps X.wd G ds xs) (rv : Vals xs its) (hz : its.length ≤ sizeLine)
    (hka : kS ≠ a) (fk : FpOk X pins H kS) (fa : FpOk X pins H a) (rk : Reps X.wd G (ds.map fun d => kD (keyO Ff d)) ks) (vk : Vals ks kA.toList) (hs : sortKF Ff (.list ds) = some out)
    (q : ∀ z G' H', DV.Gw G H G' H' → Rep X.wd G' out z → Q z H') (hP : ∀ s', EP X pins σ Q (.ref a) s' → P (.done (.ret .none)) s') :
    wpAny (model X.prog X.w) A' (ksk_end a false its.toArray e1 (.ref kS) kA) P E s := by
  have nk := (I.pin (kS, seqObj "list" kA e) (by simp)).1
  have na := (I.pin (a, seqObj "list" #[] e1) (by simp)).1
  have pk := keys_of (key := keyO Ff) sg I.hok rk vk
  obtain ⟨L, l1, l2, l3⟩ := quads r rv pk
  have hkl : kA.toList.length = its.length := by
    have h1 := vk.length
    have h2 := rk.length
    have h3 := r.length
    have h4 := rv.length
    simp at h2
    simp at h1 ⊢
    omega
  have hks : ∀ v ∈ kA.toList, ∃ p, IsKey s.heap v p := fun v hv => by
    obtain ⟨i, hi, e⟩ := List.getElem_of_mem hv
    have : (v, its[i]'(by omega)) ∈ L.map (fun t => (t.2.2.2, t.2.2.1)) := by
      rw [l2]
      have : (kA.toList.zip its)[i]'(by simp; simp at hi hkl; omega) = (v, its[i]'(by omega)) := by
        rw [List.getElem_zip, e]
      rw [← this]
      exact List.getElem_mem _
    obtain ⟨t, ht, et⟩ := List.mem_map.mp this
    obtain ⟨_, _, z⟩ := l3 t ht
    have et1 : t.2.2.2 = v := congrArg Prod.fst et
    rw [et1] at z
    exact ⟨_, z⟩
  haveI : Nonempty (Int × Str) := ⟨(0, Str.empty)⟩
  let kf : Value → Int × Str := fun v => Classical.epsilon fun p => IsKey s.heap v p
  have kf_eq : ∀ {v p}, IsKey s.heap v p → kf v = p := fun {v p} z => IsKey.uniq (Classical.epsilon_spec (p := fun p => IsKey s.heap v p) ⟨p, z⟩) z
  have hks' : ∀ v ∈ kA.toList, IsKey s.heap v (kf v) := fun v hv => by
    obtain ⟨p, z⟩ := hks v hv
    rw [kf_eq z]
    exact z
  have O : SrtO.Swo (SrtO.lt2 fun v u => kLt (kf v) (kf u)) := SrtO.swo2 (kLt_swo kf)
  have hzip : (kA.zip its.toArray).toList = kA.toList.zip its := ksk_zip kA its
  have hsz : kA.size = its.length := by simpa using hkl
  -- the end, whatever the sort's state
  have fin : ∀ st : SortSt, SrtO.Srtd (SrtO.lt2 fun v u => kLt (kf v) (kf u)) (arrOf st).toList → (arrOf st).toList.Perm (kA.zip its.toArray).toList → failedOf st = none →
      wpAny (model X.prog X.w) A' (ksk_tail a false e1 (.ref kS) st) P E s := fun st hs1 hs2 hfl => by
    rw [hzip, ← l2] at hs2
    obtain ⟨L', p1, p2⟩ := perm_lift (fun t : D × V × Value × Value => (t.2.2.2, t.2.2.1)) hs2 L rfl
    have l3' : ∀ t ∈ L', Rep X.wd G t.1 t.2.1 ∧ RelV t.2.1 t.2.2.1 ∧ IsKey s.heap t.2.2.2 (keyO Ff t.1) := fun t ht => l3 t (p1.mem_iff.mp ht)
    have eout : ((arrOf st).map (·.2)).toList = L'.map (·.2.2.1) := by
      rw [Array.toList_map, ← p2, List.map_map]
      rfl
    have elen : L'.length = its.length := by
      have h1 := p1.length_eq
      have h2 := congrArg List.length l1
      have h3 := r.length
      have h4 := rv.length
      simp at h2
      omega
    have rp : ∀ M : List (D × V × Value × Value), (∀ t ∈ M, Rep X.wd G t.1 t.2.1 ∧ RelV t.2.1 t.2.2.1 ∧ IsKey s.heap t.2.2.2 (keyO Ff t.1)) → Reps X.wd G (M.map (·.1)) (M.map (·.2.1)) ∧ Vals (M.map (·.2.1)) (M.map (·.2.2.1)) := by
      intro M
      induction M with
      | nil => exact fun _ => ⟨.nil, .nil⟩
      | cons t M ih =>
        intro h
        obtain ⟨h1, h2⟩ := ih fun t ht => h t (List.mem_cons_of_mem _ ht)
        obtain ⟨g1, g2, _⟩ := h t List.mem_cons_self
        exact ⟨.cons g1 h1, .cons g2 h2⟩
    obtain ⟨rr, rvv⟩ := rp L' l3'
    have eo : out = .list (L'.map (·.1)) := by
      obtain ⟨_, hc2, rfl⟩ := sortKF_some hs
      rw [sortK_spec hc2 (l := L'.map (·.1)) (by rw [← l1]; exact p1.map _) ?_]
      rw [List.pairwise_map]
      rw [← p2] at hs1
      have hs1' := List.pairwise_map.mp hs1
      refine List.Pairwise.imp_of_mem (fun {x y} hx hy z => ?_) hs1'
      have z' : kLt (kf y.2.2.2) (kf x.2.2.2) = false := z
      rw [kf_eq (l3' y hy).2.2, kf_eq (l3' x hx).2.2] at z'
      exact z'
    have s1 := Heap.SameBut.update s.heap kS (Obj.mapSeq fun _ => (#[] : Array Value))
    have na1 : (s.heap.update kS (Obj.mapSeq fun _ => (#[] : Array Value))).get? a = some (seqObj "list" #[] e1) := (s1.2 a hka.symm).trans na
    have s2 := Heap.SameBut.update (s.heap.update kS (Obj.mapSeq fun _ => (#[] : Array Value))) a (Obj.mapSeq fun _ => (arrOf st).map (·.2))
    obtain ⟨c2, hc2⟩ : ∃ c2, ((s.heap.update kS (Obj.mapSeq fun _ => (#[] : Array Value))).update a (Obj.mapSeq fun _ => (arrOf st).map (·.2))).get? a = some (seqObj "list" ((arrOf st).map (·.2)) c2) :=
      ⟨_, get?_update_seq na1 fun _ => (arrOf st).map (·.2)⟩
    have hout : ((arrOf st).map (·.2)).size = its.length := by
      have := congrArg List.length eout
      simp at this
      simp
      omega
    unfold ksk_tail
    try dsimp only
    refine wpAny_bind (listUpdate_at nk rfl ?_ (by rw [hsz]; exact hz) (Nat.zero_le _))
    refine wpAny_bind (wpAny_letGo ?_)
    refine wpAny_bind (seqEpoch_at na1 rfl ?_)
    refine wpAny_bind (listUpdate_at na1 rfl ?_ (Nat.zero_le _) (Nat.le_trans (Nat.le_of_eq hout) (Nat.le_succ_of_le hz)))
    rw [hfl]
    simp only [bne_self_eq_false, Bool.false_eq_true, if_false]
    refine wpAny_pure (hP _ ?_)
    have I1 : L2.Inv X pins σ H s := I.unpinned
    have I2 : L2.Inv X pins σ H { s with heap := s.heap.update kS (Obj.mapSeq fun _ => (#[] : Array Value)) } := I1.turned (t' := s.toks) (it := kS) (fun b o hb ho => (s1.2 b hb).trans ho) fk.1 fk.2.1 fk.2.2.2.1 fk.2.2.2.2.1 fk.2.2.2.2.2
    have I3 := I2.take (t' := s.toks) (it := a) (o := .lst (L'.map (·.2.1))) (fun b ob hb ho => (s2.2 b hb).trans ho) fa ⟨by simpa [elen] using hz, L'.map (·.2.2.1), c2, rvv, by
      rw [← eout]
      exact hc2⟩
    refine ⟨.ref a, _, I3, rfl, ?_⟩
    refine fin_lst sg rr (fun z G' H' w rz => q z G' H' w (by rw [eo]; exact rz)) a fa.1
  unfold ksk_end
  try dsimp only
  simp only [Bool.false_eq_true, if_false]
  by_cases h2 : its.toArray.size < 2
  · rw [if_pos h2, if_pos h2]
    refine wpAny_bind (wpAny_pure ?_)
    rw [StateT.run_pure]
    refine wpAny_bind (wpAny_pure ?_)
    try dsimp only
    refine fin (SortSt.mk' general' (kA.zip its.toArray) #[] 7 none) ?_ (List.Perm.refl _) rfl
    show SrtO.Srtd _ (kA.zip its.toArray).toList
    have : (kA.zip its.toArray).toList.length < 2 := by
      rw [List.size_toArray] at h2
      rw [hzip, List.length_zip]
      omega
    match (kA.zip its.toArray).toList, this with
    | [], _ => exact List.Pairwise.nil
    | [v], _ => exact List.pairwise_singleton _ _
    | _ :: _ :: l, h => exact absurd h (by rw [List.length_cons, List.length_cons]; omega)
  · rw [if_neg h2, if_neg h2]
    rw [List.size_toArray] at h2
    have hk0 : 0 < kA.toList.length := by omega
    have hkk : ∀ (Q : SortKind → Shared → Prop) (E : Value → Shared → Prop), Q (tuples' true) s → wpAny (model X.prog X.w) A' (keyKind' kA) Q E s := fun Q E hq => by
      have := key_kind (prog := X.prog) (w := X.w) (A := A') (E := E) hk0 hks hq
      simpa using this
    refine wpAny_bind (hkk _ _ ?_)
    refine wpAny_bind (wpAny_mono (SrtO.wpS_sortO (st0 := SortSt.mk' (tuples' true) (kA.zip its.toArray) #[] 7 none)
      (Q := fun _ st' => SrtO.Srtd (SrtO.lt2 fun v u => kLt (kf v) (kf u)) (arrOf st').toList ∧ (arrOf st').toList.Perm (kA.zip its.toArray).toList ∧ failedOf st' = none) O (key_cmp hks') rfl (fun p hm => ?_) rfl rfl fun st' a1 a2 a3 => ⟨a1, a2.perm, a3⟩) ?_ fun _ _ e => e)
    · have hm' : p ∈ kA.toList.zip its := by rw [← hzip]; exact hm
      exact (List.of_mem_zip (a := p.1) (b := p.2) hm').1
    · rintro ⟨⟨⟩, st'⟩ s' ⟨rfl, hp1, hp2, hf⟩
      try dsimp only
      exact fin st' hp1 hp2 hf
end
end DV
end

set_option Elab.async false
set_option linter.all false
set_option maxRecDepth 100000
set_option maxHeartbeats 4000000
/-! DVu: sorted(xs, key=own def), the rule. -/
noncomputable section
namespace DV
open PySem PySem.Spec PyProof.Rows L2
section
variable {X : Cx} {k : Nat} {f : Addr} {fd : FuncData} {ps : List Str} {Ff : List D → Option D} {pins : List (Addr × Obj)} {σ : L2.St} {G H : Hp} {s : Shared}
theorem sort_in {A' : Around} {E : Value → Shared → Prop} {P : PySem.Fin → Shared → Prop} {ds : List D} {xs : List V} {its : List Value} {a : Addr} {n : Nat} {out : D} {Q : VK}
    (F : FnOk X.prog X.w X.K X.mg X.base CX0 k f fd ps (spD X.wd ps.length Ff)) (hb : Binds X.K fd ps []) (hl : ∀ ds d, Ff ds = some d → ds.length = ps.length) (hr : Room k A')
    (he : ∀ s' H', Env0 X.prog X.w X.K X.mg X.base X.A X.stack s' H' → Env0 X.prog X.w X.K X.mg X.base A' X.stack s' H')
    (I : L2.Inv X pins σ H s) (sg : Same G H) (r : Reps X.wd G ds xs) (rv : Vals xs its) (hz : its.length ≤ sizeLine) {h1 : Heap} (kp : ∀ b o, s.heap.get? b = some o → h1.get? b = some o) (ha : s.heap.objs.size ≤ a)
    (ho : h1.get? a = some (seqObj "list" its.toArray n)) (hs : sortKF Ff (.list ds) = some out)
    (q : ∀ z G' H', DV.Gw G H G' H' → Rep X.wd G' out z → Q z H') (hP : ∀ s', EP X pins σ Q (.ref a) s' → P (.done (.ret .none)) s') :
    wpAny (model X.prog X.w) A' (Builtin.«list.sort» ⟨[.ref a], [(Str.ofString "key", .ref f)]⟩) P E { s with heap := h1 } := by
  obtain ⟨hc1, hc2, eout⟩ := sortKF_some hs
  rw [ksk_t1]
  have ha1 : a < h1.objs.size := Heap.lt_size ho
  have s1 := Heap.SameBut.update h1 a (Obj.mapSeq fun _ => (#[] : Array Value))
  obtain ⟨e1, ho1⟩ : ∃ e1, (h1.update a (Obj.mapSeq fun _ => (#[] : Array Value))).get? a = some (seqObj "list" #[] e1) := ⟨_, get?_update_seq ho fun _ => #[]⟩
  have hkS : ((h1.update a (Obj.mapSeq fun _ => (#[] : Array Value))).push (seqObj "tuple" its.toArray 0)).objs.size = h1.objs.size + 1 := by rw [size_push', Heap.size_update]
  have hsz1 : s.heap.objs.size ≤ h1.objs.size := Nat.le_trans ha (Nat.le_of_lt ha1)
  unfold ksk_tree
  refine wpAny_bind (listItems_at ho rfl ?_)
  refine wpAny_bind (listUpdate_at ho rfl ?_ (by rw [List.size_toArray]; exact hz) (Nat.zero_le _))
  refine wpAny_bind (seqEpoch_at ho1 rfl ?_)
  refine wpAny_bind (wpAny_newTuple ?_ (by show its.length ≤ _; exact hz))
  refine wpAny_bind (wpAny_newList ?_ (Nat.zero_le _))
  refine wpAny_holding ?_
  -- the heap in which the keys are asked for
  let hB : Heap := ((h1.update a (Obj.mapSeq fun _ => (#[] : Array Value))).push (seqObj "tuple" its.toArray 0)).push (seqObj "list" #[] 0)
  let kS : Addr := ((h1.update a (Obj.mapSeq fun _ => (#[] : Array Value))).push (seqObj "tuple" its.toArray 0)).objs.size
  have kpB : ∀ b o, s.heap.get? b = some o → hB.get? b = some o := fun b o z => by
    have hb : b ≠ a := Nat.ne_of_lt (Nat.lt_of_lt_of_le (Heap.lt_size z) ha)
    exact Heap.get?_push_of_some _ (Heap.get?_push_of_some _ ((s1.2 b hb).trans (kp b o z)))
  have hoB : hB.get? a = some (seqObj "list" #[] e1) := Heap.get?_push_of_some _ (Heap.get?_push_of_some _ ho1)
  have hkB : hB.get? kS = some (seqObj "list" #[] 0) := Heap.get?_push_size _ rfl
  have hkge : s.heap.objs.size ≤ kS := by
    show _ ≤ ((h1.update a (Obj.mapSeq fun _ => (#[] : Array Value))).push (seqObj "tuple" its.toArray 0)).objs.size
    rw [hkS]; omega
  have hka : kS ≠ a := by
    show ((h1.update a (Obj.mapSeq fun _ => (#[] : Array Value))).push (seqObj "tuple" its.toArray 0)).objs.size ≠ a
    rw [hkS]
    exact Nat.ne_of_gt (Nat.lt_succ_of_lt ha1)
  have IB0 : L2.Inv X pins σ H { s with heap := hB } := I.kept (t' := s.toks) kpB
  have nl : ∀ b, s.heap.objs.size ≤ b → H b = none ∧ b ≠ X.env.locals ∧ b ∉ X.fs := fun b hb' => ⟨I.hok.fresh hb', Nat.ne_of_gt (Nat.lt_of_lt_of_le I.lt hb'), I.nofs hb'⟩
  have fk0 : FpOk X pins H kS := I.fpOk hkge (nl kS hkge).1
  have fa0 : FpOk X pins H a := I.fpOk ha (nl a ha).1
  have repin : ∀ {H' : Hp} {s' : Shared} {kA : Array Value} {e : Nat}, L2.Inv X pins σ H' s' → s'.heap.get? kS = some (seqObj "list" kA e) → s'.heap.get? a = some (seqObj "list" #[] e1) → H' kS = none → H' a = none → L2.Inv X (pins ++ [(kS, seqObj "list" kA e), (a, seqObj "list" #[] e1)]) σ H' s' := fun {H' s' kA e} I' g1 g2 n1 n2 => I'.pins_of fun p hp => by
    rcases List.mem_append.mp hp with hp | hp
    · exact I'.pin p (List.mem_append_right _ hp)
    · rcases List.mem_cons.mp hp with rfl | hp
      · exact ⟨g1, n1, (nl kS hkge).2.1, (nl kS hkge).2.2, fun v z => by cases z⟩
      · rw [List.mem_singleton.mp hp]
        exact ⟨g2, n2, (nl a ha).2.1, (nl a ha).2.2, fun v z => by cases z⟩
  have fp' : ∀ {H' : Hp} {b : Addr}, FpOk X pins H b → H' b = none → FpOk X pins H' b := fun {H' b} z n => ⟨n, z.2⟩
  show wpAny (model X.prog X.w) A' (ksk_rest a (.ref f) false its.toArray e1 (.ref kS)) P E { s with heap := hB }
  unfold ksk_rest
  refine wpAny_bind (wpAny_rule ?_)
  first
    | rw [List.forIn_toArray]
    | (rw [← Array.forIn_toList]; simp only [List.toList_toArray])
    | rw [← Array.forIn_toList]
  refine wpAny_bind (ksk_fold (fun i s' => ∃ G' H' kA e ks, L2.Inv X (pins ++ [(kS, seqObj "list" kA e), (a, seqObj "list" #[] e1)]) σ H' s' ∧ DV.Gw G H G' H' ∧ Reps X.wd G' ((ds.take i).map fun d => kD (keyO Ff d)) ks ∧ Vals ks kA.toList) its 0 _
    ⟨G, H, #[], 0, [], repin IB0 hkB hoB (nl kS hkge).1 (nl a ha).1, DV.Gw.refl sg, .nil, .nil⟩ ?step ?done)
  case step =>
    rintro j u s' hu ⟨G', H', kA, e, ks, I', gw, rk, vk⟩
    simp only [Nat.zero_add] at rk ⊢
    have hj : j < its.length := (List.getElem?_eq_some_iff.mp hu).1
    have hjd : j < ds.length := by rw [r.length, rv.length]; exact hj
    obtain ⟨xv, hx, rx⟩ := r.get (List.getElem?_eq_getElem hjd)
    obtain ⟨u', hu', ru⟩ := rv.get hx
    rw [hu] at hu'
    cases hu'
    have hkA : kA.size ≤ j := by
      have h1 := vk.length
      have h2 := rk.length
      simp at h1 h2
      omega
    refine wpAny_bind (wpAny_attempt (wpAny_mono (call_in (E := fun _ _ => False) F hb hl hr (he s' H' I'.env0) I' gw.gh (rx.mono gw.g) ru (hc1 _ (List.getElem_mem hjd))) (fun v s'' hv => ?_) fun _ _ hF => hF.elim))
    obtain ⟨kv, G2, H2, I2, gw2, rk2, rv2⟩ := hv
    try dsimp only
    have nk := I2.pin (kS, seqObj "list" kA e) (by simp)
    have na := I2.pin (a, seqObj "list" #[] e1) (by simp)
    have t1 := Heap.SameBut.update s''.heap kS (Obj.mapSeq (·.push v))
    obtain ⟨c2, hc2'⟩ : ∃ c2, (s''.heap.update kS (Obj.mapSeq (·.push v))).get? kS = some (seqObj "list" (kA.push v) c2) := ⟨_, get?_update_seq nk.1 (·.push v)⟩
    have ea : (kA.push v).toList = kA.toList ++ [v] := by simp
    have ed : (ds.take (j + 1)).map (fun d => kD (keyO Ff d)) = (ds.take j).map (fun d => kD (keyO Ff d)) ++ [kD (keyO Ff ds[j])] := by
      rw [List.take_add_one, List.getElem?_eq_getElem hjd, List.map_append]
      rfl
    refine wpAny_bind (listUpdate_at nk.1 rfl ?_ (by omega) (Nat.le_trans (Nat.le_of_eq (Array.size_push ..)) (by omega)))
    have I3 : L2.Inv X pins σ H2 { s'' with heap := s''.heap.update kS (Obj.mapSeq (·.push v)) } := I2.unpinned.turned (t' := s''.toks) (it := kS) (fun b o hb ho => (t1.2 b hb).trans ho) nk.2.1 fk0.2.1 fk0.2.2.2.1 fk0.2.2.2.2.1 fk0.2.2.2.2.2
    refine wpAny_pure ⟨rfl, G2, H2, kA.push v, c2, ks ++ [kv], repin I3 hc2' ((t1.2 a hka.symm).trans na.1) nk.2.1 na.2.1, gw.trans gw2, ?_, ?_⟩
    · rw [ed]
      exact (rk.mono gw2.g).snoc rk2
    · rw [ea]
      exact vk.append (.cons rv2 .nil)
  case done =>
    rintro s' ⟨G', H', kA, e, ks, I', gw, rk, vk⟩
    rw [List.take_of_length_le (by rw [r.length, rv.length]; omega)] at rk
    have nk := I'.pin (kS, seqObj "list" kA e) (by simp)
    have na := I'.pin (a, seqObj "list" #[] e1) (by simp)
    try dsimp only
    refine wpAny_bind (listItems_at nk.1 rfl ?_)
    exact end_run I' gw.gh (r.mono gw.g) rv hz hka (fp' fk0 nk.2.1) (fp' fa0 na.2.1) rk vk hs (fun z G2 H2 w rz => q z G2 H2 (gw.trans w) rz) hP
end
end DV
end

set_option Elab.async false
set_option linter.all false
set_option maxRecDepth 100000
set_option maxHeartbeats 4000000
/-! DVv: sorted(xs, key=own def) as a rule of data. -/
noncomputable section
namespace DV
open PySem PySem.Spec PyProof.Rows L2
def rSortK (W : Wd) (f : Addr) (Ff : List D → Option D) : List V → List V → Hp → VK → Prop := fun vs zs H Q => ∃ (la : V) (G : Hp) (d out : D), vs = [la] ∧ zs = [V.ref f] ∧ Same G H ∧ Bor W G H d la ∧ sortKF Ff d = some out ∧ ∀ z G' H', DV.Gw G H G' H' → Rep W G' out z → Q z H'
section
variable {X : Cx} {k : Nat} {f : Addr} {fd : FuncData} {ps : List Str} {Ff : List D → Option D}
theorem cr_sortK (F : FnOk X.prog X.w X.K X.mg X.base CX0 k f fd ps (spD X.wd ps.length Ff)) (hb : Binds X.K fd ps []) (hl : ∀ ds d, Ff ds = some d → ds.length = ps.length) (hr : Room (k + 2) X.A) :
    CallRK X (.builtin "sorted") [Str.ofString "key"] (rSortK X.wd f Ff) := by
  intro pins s σ H vs zs us ws Q I rv rz h
  obtain ⟨la, G, d, out, rfl, rfl, sg, b, hs, q⟩ := h
  obtain ⟨ds, rfl⟩ : ∃ ds, d = .list ds := by
    unfold sortKF at hs
    split at hs
    · exact ⟨_, rfl⟩
    · cases hs
  obtain ⟨l, xs, rfl, h1, r1⟩ := b.lst' sg
  obtain rfl := Vals.ref1 rv
  obtain ⟨w1, rfl, e1⟩ := vals1 rz
  obtain rfl : w1 = Value.ref f := e1
  obtain ⟨its, ri, hl', hz⟩ := I.list (SqL.of h1)
  have hz' : its.length ≤ sizeLine := by rw [← ri.length]; exact hz
  show wpAny (model X.prog X.w) X.A (call (.builtin "sorted") [.ref l] [(Str.ofString "key", .ref f)]) (EP X pins σ Q) X.xe s
  refine call_function_entry_kw kind_sorted plain_sorted entry_sorted (PyProof.Rows.ksk_s1 _ _) ?_
  unfold Builtin.«sorted»
  refine wpAny_bind (m := checkCount "sorted" 1 1 _) (wpAny_pure ?_)
  refine wpAny_bind (collect_list hl'.isList ?_ hz')
  refine wpAny_bind (wpAny_newList ?_ hz')
  have hsz : ((s.heap.push (seqObj "list" #[] 0)).update s.heap.objs.size (Obj.mapSeq (· ++ its.toArray))).objs.size = s.heap.objs.size + 1 := by
    rw [Heap.size_update, size_push']
  have hoL : (((s.heap.push (seqObj "list" #[] 0)).update s.heap.objs.size (Obj.mapSeq (· ++ its.toArray))).push (seqObj "list" its.toArray 0)).get? (s.heap.objs.size + 1) = some (seqObj "list" its.toArray 0) := by
    rw [← hsz]; exact Heap.get?_push_size _ rfl
  have keep : ∀ b o, s.heap.get? b = some o → (((s.heap.push (seqObj "list" #[] 0)).update s.heap.objs.size (Obj.mapSeq (· ++ its.toArray))).push (seqObj "list" its.toArray 0)).get? b = some o := fun b o q => by
    have hlt : b < s.heap.objs.size := Heap.lt_size q
    rw [Heap.get?_push_ne _ _ _ (by rw [hsz]; exact Nat.ne_of_lt (Nat.lt_succ_of_lt hlt)), Heap.get?_update_ne _ _ _ _ (Nat.ne_of_lt hlt), Heap.get?_push_ne _ _ _ (Nat.ne_of_lt hlt)]
    exact q
  show wpAny _ _ _ _ _ { s with heap := ((s.heap.push (seqObj "list" #[] 0)).update s.heap.objs.size (Obj.mapSeq (· ++ its.toArray))).push (seqObj "list" its.toArray 0) }
  rw [hsz]
  refine wpAny_bind (wpAny_holding (wpAny_call_entry_kw slot_list_sort ⟨_, hoL, rfl⟩ entry_list_sort ?body (PyProof.Rows.ksk_l1 _ _)))
  case body =>
    show wpAny (model X.prog X.w) X.A.in1.in1 (Builtin.«list.sort» ⟨[.ref (s.heap.objs.size + 1)], [(Str.ofString "key", .ref f)]⟩) _ _ _
    refine sort_in F hb hl hr.in1.in1 (fun s' H' e => e.in1.in1) I sg r1 ri hz' keep (Nat.le_succ _) hoL hs q fun s' hq => ⟨_, rfl, ?_⟩
    exact wpAny_pure ⟨_, rfl, hq⟩
end
section
variable {X : Cx} {k : Nat} {fn x : Str} {p p' pos kpos : Pos} {e : Expr} {es : List Expr} {L : FL} {Ff : List D → Option D}
def sortF (Ff : List D → Option D) : List D → Option D
  | [d] => sortKF Ff d
  | _ => none
theorem f_sortK (F : DefD X.prog X.w X.K X.mg X.base k fn Ff) (hr : Room (k + 2) X.A) (hm : X.mg "sorted" = none) (ha : PAB X [e] L) (hgf : Gl X fn := by rfl) (hd : (fn == ("__debug__" : Str)) = false := by decide)
    (hg : Gl X "sorted" := by rfl) (hv : bootBuiltins "sorted" = some (.builtin "sorted") := by decide +kernel)
    (he : backTo pos (starEach [e] X.env) = (false, eval e X.env) :: backTo pos (starEach [] X.env) := by rfl) (hpl : (backTo pos (starEach [e] X.env)).any (·.1) = false := by rfl)
    (hall : (backToKw pos (keywordEach [⟨some "key", .Name fn p', kpos⟩] X.env)).all (·.1.isSome) = true := by rfl) (hnone : (backToKw pos (keywordEach [⟨some "key", .Name fn p', kpos⟩] X.env)).any (·.1.isNone) = false := by rfl)
    (hks : (backToKw pos (keywordEach [⟨some "key", .Name fn p', kpos⟩] X.env)).filterMap (·.1) = [Str.ofString "key"] := by rfl) :
    PF X (.Call (.Name "sorted" p) [e] [⟨some "key", .Name fn p', kpos⟩] pos) (eCall (sortF Ff) L) := by
  obtain ⟨f, fd, ps, F, hmf, hk, hb, hl⟩ := F.ex
  refine PE.weak (pe_callBK (cr_sortK F hb hl hr) hg hm hv ha (pk_cons (pe_glob (v := V.ref f) hgf hmf rfl hd) pk_nil) (by decide) (by decide) he hpl hall hnone hks) fun σ H Q ⟨B, G, ρ, d, r, q, z⟩ => ?_
  obtain ⟨ds, hd', q⟩ := Option.bind_eq_some_iff.mp q
  refine ⟨B, G, ρ, ds, r, hd', fun vs G1 H1 w1 bs => ?_⟩
  unfold sortF at q
  split at q
  · obtain ⟨v, rfl, b⟩ := bs.one
    exact ⟨v, G1, _, d, rfl, rfl, w1.gh, b, q, fun z' G2 H2 w2 rz => z z' G2 H2 (w1.trans w2) rz⟩
  · cases q
end
end DV
end

set_option Elab.async false
set_option linter.all false
set_option maxRecDepth 100000
/-! DVw: tests by a written tuple of the module. -/
noncomputable section
namespace DV
open PySem PySem.Spec PyProof.Rows L2
section
variable {X : Cx} {pos : Pos}
theorem t_ninG {x : Str} {ks : List Str} {a : Expr} {Fa : FE} {p : Pos} (ha : PB X a Fa) (T : KTup X.K X.mg x ks) (hg : Gl X x) (hd : (x == ("__debug__" : Str)) = false := by decide) (hm : behindInMarks .NotIn (.Name x p) = false := by with_unfolding_all rfl) :
    PTD X (.Compare a [.NotIn] [.Name x p] pos) (toT (o1 (ninC ks) Fa)) := by
  obtain ⟨t, o, its, n, h1, h2, h3, h4, h5, h6⟩ := T.ex
  refine PT.weak (pt_cmpR op_notIn_seq ha (pe_glob (v := V.ref t) hg h1 rfl hd) hm) fun σ H Q ⟨B, G, ρ, c, r, k, q⟩ => ?_
  obtain ⟨d, hd', k⟩ := Option.bind_eq_some_iff.mp k
  obtain ⟨y, hy, hd'⟩ := Option.bind_eq_some_iff.mp hd'
  refine ⟨B, G, ρ, y, r, hy, fun v G1 H1 w1 b1 => ?_⟩
  unfold ninC at hd'
  split at hd'
  · cases hd'
    cases k
    cases b1.str'
    refine ⟨t, ks.map V.str, rfl, .inr (.inr ⟨o, its, n, h2, h3, h4, h5, h6⟩), rfl, ?_, ?_⟩
    · simp [flatV]
    · rw [inV_strs]
      exact ⟨_, rfl, q G1 H1 w1⟩
  · cases hd'
end
end DV
end

set_option Elab.async false
set_option linter.all false
set_option maxRecDepth 100000
/-! DVm: reckoning with functions of data: combinators by simp, words as lists of numbers, loops. -/
noncomputable section
namespace DV
open PySem L2
/-! strict forms: simp goes into what is reckoned next alone -/
def ap2 (f : D → D → Option D) : Option D → Option D → Option D
  | some x, some y => f x y
  | _, _ => none
def ap3 (f : D → Option Int → Option Int → Option D) : Option D → Option (Option Int) → Option (Option Int) → Option D
  | some x, some y, some z => f x y z
  | _, _, _ => none
def andO (x : Option Bool) (u : FT) (ρ : Env) : Option Bool := x.bind fun x => if x = true then u ρ else some false
def orO (x : Option Bool) (u : FT) (ρ : Env) : Option Bool := x.bind fun x => if x = true then some true else u ρ
def andV (x : Option Bool) (b : FE) (ρ : Env) : Option D := x.bind fun x => if x = true then b ρ else some (.bool false)
def orV (x : Option Bool) (b : FE) (ρ : Env) : Option D := x.bind fun x => if x = true then some (.bool true) else b ρ
def iteV (x : Option Bool) (a b : FE) (ρ : Env) : Option D := x.bind fun x => if x = true then a ρ else b ρ
def iteS (x : Option Bool) (a b : FS) (ρ : Env) : Option Out := x.bind fun x => if x = true then a ρ else b ρ
def mapB (f : Bool → D) (x : Option Bool) : Option D := x.map f
def consO : Option D → Option (List D) → Option (List D)
  | some x, some xs => some (x :: xs)
  | _, _ => none
section
local instance (priority := 1000000) cdec13 (p : Prop) : Decidable p := Classical.propDecidable p
def tupO (ds : List D) : Option D := if ds.length ≤ sizeLine then some (.tuple ds) else none
def lstO (ds : List D) : Option D := if ds.length ≤ sizeLine then some (.list ds) else none
end
def d1O : Option D → Option D → Option D
  | some x, some y => (keyOf x).map fun _ => .dict [(.none, .int 0), (x, y)]
  | _, _ => none
def thenS (o : Option Out) (b : FS) : Option Out := o.bind fun o => match o with
  | .nx ρ' => b ρ'
  | o => some o
def rtO (x : Option D) : Option Out := x.map .rt
def exO (x : Option D) (ρ : Env) : Option Out := x.map fun _ => .nx ρ
def nxO (x : Option Env) : Option Out := x.map .nx
def asgO (x : Option D) (k : FG) (ρ : Env) : Option Out := x.bind fun d => nxO (k d ρ)
def ownO (i : Nat) (x : Option D) (ρ : Env) : Option Out := x.map fun d => .nx (ρ.set i (some (.own d)))
section
local instance (priority := 1000000) cdec14 (p : Prop) : Decidable p := Classical.propDecidable p
def appS (i : Nat) (d : D) (ρ : Env) : Option (Option Sl) → Option Out
  | some (some (.own (.list ds))) => if ds.length < sizeLine then some (.nx (ρ.set i (some (.own (.list (ds ++ [d])))))) else none
  | _ => none
end
def appO (i : Nat) (x : Option D) (ρ : Env) : Option Out := x.bind fun d => appS i d ρ ρ[i]?
def putS (i : Nat) (k v : D) (ρ : Env) : Option (Option Sl) → Option Out
  | some (some (.own d)) => (putO d k v).map fun d' => .nx (ρ.set i (some (.own d')))
  | _ => none
def putSO (i : Nat) (v k : Option D) (ρ : Env) : Option Out := v.bind fun v => k.bind fun k => putS i k v ρ ρ[i]?
def forO (x : Option (List D)) (k : FG) (s : FS) (ρ : Env) : Option Out := x.bind fun ds => forL k s ds ρ
section
local instance (priority := 1000000) cdec15 (p : Prop) : Decidable p := Classical.propDecidable p
def lcO (x : Option (List D)) (k : FG) (t : FT) (a : FE) (ρ : Env) : Option D := x.bind fun ds => if ds.length ≤ sizeLine then (lcL k t a ρ ds).map .list else none
def dcO (x : Option (List D)) (k : FG) (t : FT) (a b : FE) (ρ : Env) : Option D := x.bind fun ds => if ds.length ≤ sizeLine then (dcL k t a b ρ ds []).map fun kvs => .dict ((.none, .int 0) :: kvs) else none
end
def getV : Option (Option Sl) → Option D
  | some (some (.shr d)) => some d
  | _ => none
def getW : Option (Option Sl) → Option D
  | some (some (.shr d)) => some d
  | some (some (.own d)) => some d
  | _ => none
def frzS (i : Nat) (ρ : Env) : Option (Option Sl) → Env
  | some (some (.own d)) => ρ.set i (some (.shr d))
  | _ => ρ
def thenFO (i : Nat) (x : Option Out) : Option Out := x.map fun o => match o with
  | .nx ρ' => .nx (frzE i ρ')
  | o => o
section
variable {f : D → D → Option D} {g : D → Option D} {a b c : FE} {t u : FT} {ρ : Env} {i : Nat} {d : D}
@[simp] theorem getV_s : getV (some (some (.shr d))) = some d := rfl
@[simp] theorem getW_s : getW (some (some (.shr d))) = some d := rfl
@[simp] theorem getW_o : getW (some (some (.own d))) = some d := rfl
@[simp] theorem eV_e : eV i ρ = getV ρ[i]? := by unfold eV getV; split <;> simp_all
@[simp] theorem eW_e : eW i ρ = getW ρ[i]? := by unfold eW getW; split <;> simp_all
@[simp] theorem eC_e : eC d ρ = some d := rfl
@[simp] theorem ap2_s {x y : D} : ap2 f (some x) (some y) = f x y := rfl
@[simp] theorem ap3_s {h : D → Option Int → Option Int → Option D} {x : D} {y z : Option Int} : ap3 h (some x) (some y) (some z) = h x y z := rfl
@[simp] theorem o1_e : o1 g a ρ = (a ρ).bind g := rfl
@[simp] theorem o2_e : o2 f a b ρ = ap2 f (a ρ) (b ρ) := by
  unfold o2 ap2
  cases a ρ <;> cases b ρ <;> rfl
@[simp] theorem toT_e : toT a ρ = (a ρ).bind asB := rfl
@[simp] theorem asB_b {k : Bool} : asB (.bool k) = some k := rfl
@[simp] theorem asI_i {k : Int} : asI (.int k) = some k := rfl
@[simp] theorem andO_t : andO (some true) u ρ = u ρ := rfl
@[simp] theorem andO_f : andO (some false) u ρ = some false := rfl
@[simp] theorem orO_t : orO (some true) u ρ = some true := rfl
@[simp] theorem orO_f : orO (some false) u ρ = u ρ := rfl
@[simp] theorem andV_t : andV (some true) b ρ = b ρ := rfl
@[simp] theorem andV_f : andV (some false) b ρ = some (.bool false) := rfl
@[simp] theorem orV_t : orV (some true) b ρ = some (.bool true) := rfl
@[simp] theorem orV_f : orV (some false) b ρ = b ρ := rfl
@[simp] theorem iteV_t : iteV (some true) a b ρ = a ρ := rfl
@[simp] theorem iteV_f : iteV (some false) a b ρ = b ρ := rfl
@[simp] theorem tAndF_e : tAndF t u ρ = andO (t ρ) u ρ := rfl
@[simp] theorem tOrF_e : tOrF t u ρ = orO (t ρ) u ρ := rfl
@[simp] theorem tNotF_e : tNotF t ρ = (t ρ).map not := rfl
@[simp] theorem eAnd_e : eAnd a b ρ = andV ((a ρ).bind asB) b ρ := rfl
@[simp] theorem eOr_e : eOr a b ρ = orV ((a ρ).bind asB) b ρ := rfl
@[simp] theorem eNot_e : eNot a ρ = mapB (fun x => .bool (!x)) ((a ρ).bind asB) := rfl
@[simp] theorem mapB_s {h : Bool → D} {k : Bool} : mapB h (some k) = some (h k) := rfl
@[simp] theorem eIf_e : eIf t a b ρ = iteV (t ρ) a b ρ := rfl
@[simp] theorem lN_e : lN ρ = some [] := rfl
@[simp] theorem consO_s {x : D} {xs : List D} : consO (some x) (some xs) = some (x :: xs) := rfl
@[simp] theorem lC_e {l : FL} : lC a l ρ = consO (a ρ) (l ρ) := by
  unfold lC consO
  cases a ρ <;> cases l ρ <;> rfl
@[simp] theorem o3c_e {f' : D → D → Option D} : o3c f f' a b c ρ = andV ((ap2 f (a ρ) (b ρ)).bind asB) (o2 f' b c) ρ := by
  unfold o3c andV o2 ap2
  cases a ρ <;> cases b ρ <;> rfl
@[simp] theorem eCall_e {h : List D → Option D} {l : FL} : eCall h l ρ = (l ρ).bind h := rfl
def apM (h : D → List D → Option D) : Option D → Option (List D) → Option D
  | some x, some xs => h x xs
  | _, _ => none
@[simp] theorem apM_s {h : D → List D → Option D} {x : D} {xs : List D} : apM h (some x) (some xs) = h x xs := rfl
@[simp] theorem eMeth_e {h : D → List D → Option D} {l : FL} : eMeth h a l ρ = apM h (a ρ) (l ρ) := by
  unfold eMeth apM
  cases a ρ <;> cases l ρ <;> rfl
theorem tupO_s {ds : List D} (h : ds.length ≤ 16777216) : tupO ds = some (.tuple ds) := if_pos (by rw [sizeLine_eq]; exact h)
theorem lstO_s {ds : List D} (h : ds.length ≤ 16777216) : lstO ds = some (.list ds) := if_pos (by rw [sizeLine_eq]; exact h)
@[simp] theorem tupO_0 : tupO [] = some (.tuple []) := tupO_s (by show 0 ≤ _; decide)
@[simp] theorem lstO_0 : lstO [] = some (.list []) := lstO_s (by show 0 ≤ _; decide)
@[simp] theorem tupO_1 {x : D} : tupO [x] = some (.tuple [x]) := tupO_s (by show 1 ≤ _; decide)
@[simp] theorem lstO_1 {x : D} : lstO [x] = some (.list [x]) := lstO_s (by show 1 ≤ _; decide)
@[simp] theorem tupO_2 {x y : D} : tupO [x, y] = some (.tuple [x, y]) := tupO_s (by show 2 ≤ _; decide)
@[simp] theorem lstO_2 {x y : D} : lstO [x, y] = some (.list [x, y]) := lstO_s (by show 2 ≤ _; decide)
@[simp] theorem tupO_3 {x y z : D} : tupO [x, y, z] = some (.tuple [x, y, z]) := tupO_s (by show 3 ≤ _; decide)
@[simp] theorem lstO_3 {x y z : D} : lstO [x, y, z] = some (.list [x, y, z]) := lstO_s (by show 3 ≤ _; decide)
@[simp] theorem tupO_4 {x y z w : D} : tupO [x, y, z, w] = some (.tuple [x, y, z, w]) := tupO_s (by show 4 ≤ _; decide)
@[simp] theorem lstO_4 {x y z w : D} : lstO [x, y, z, w] = some (.list [x, y, z, w]) := lstO_s (by show 4 ≤ _; decide)
@[simp] theorem tupO_5 {x y z w v : D} : tupO [x, y, z, w, v] = some (.tuple [x, y, z, w, v]) := tupO_s (by show 5 ≤ _; decide)
@[simp] theorem eTup_e {l : FL} : eTup l ρ = (l ρ).bind tupO := rfl
@[simp] theorem eLst_e {l : FL} : eLst l ρ = (l ρ).bind lstO := rfl
@[simp] theorem d1O_s {x y : D} : d1O (some x) (some y) = (keyOf x).map fun _ => .dict [(.none, .int 0), (x, y)] := rfl
@[simp] theorem eD1_e : eD1 a b ρ = d1O (a ρ) (b ρ) := by
  unfold eD1 d1O
  cases a ρ <;> cases b ρ <;> rfl
@[simp] theorem pN_e : pN ρ = some none := rfl
@[simp] theorem pS_e : pS a ρ = ((a ρ).bind asI).map some := rfl
@[simp] theorem eSl_e {p q : FP} : eSl a p q ρ = ap3 slD (a ρ) (p ρ) (q ρ) := by
  unfold eSl ap3
  cases a ρ <;> cases p ρ <;> cases q ρ <;> rfl
@[simp] theorem iAny_e : iAny a ρ = (a ρ).bind itemsD := rfl
@[simp] theorem iCall_e {h : List D → Option (List D)} {l : FL} : iCall h l ρ = (l ρ).bind h := rfl
@[simp] theorem tYs_e : tYs ρ = some true := rfl
@[simp] theorem gN_e : gN i d ρ = some (ρ.set i (some (.shr d))) := rfl
@[simp] theorem gT_e {n : Nat} {h : List D → Env → Option Env} {ds : List D} : gT n h (.tuple ds) ρ = if ds.length = n then h ds ρ else none := rfl
@[simp] theorem gsN_e : gsN [] ρ = some ρ := rfl
@[simp] theorem gsC_e {k : FG} {h : List D → Env → Option Env} {ds : List D} : gsC k h (d :: ds) ρ = (k d ρ).bind (h ds) := rfl
variable {s s' : FS}
@[simp] theorem thenS_nx : thenS (some (.nx ρ)) s = s ρ := rfl
@[simp] theorem thenS_rt : thenS (some (.rt d)) s = some (.rt d) := rfl
@[simp] theorem thenS_bk : thenS (some (.bk ρ)) s = some (.bk ρ) := rfl
@[simp] theorem thenS_ct : thenS (some (.ct ρ)) s = some (.ct ρ) := rfl
@[simp] theorem iteS_t : iteS (some true) s s' ρ = s ρ := rfl
@[simp] theorem iteS_f : iteS (some false) s s' ρ = s' ρ := rfl
theorem iteS_d {p : Prop} [Decidable p] : iteS (some (decide p)) s s' ρ = if p then s ρ else s' ρ := by
  by_cases h : p
  · rw [if_pos h, decide_eq_true h]; rfl
  · rw [if_neg h, decide_eq_false h]; rfl
@[simp] theorem sNx_e : sNx ρ = some (.nx ρ) := rfl
@[simp] theorem sBk_e : sBk ρ = some (.bk ρ) := rfl
@[simp] theorem sCt_e : sCt ρ = some (.ct ρ) := rfl
@[simp] theorem sSeq_e : sSeq s s' ρ = thenS (s ρ) s' := rfl
@[simp] theorem rtO_s : rtO (some d) = some (.rt d) := rfl
@[simp] theorem sRet_e : sRet a ρ = rtO (a ρ) := rfl
@[simp] theorem sRetN_e : sRetN ρ = some (.rt .none) := rfl
@[simp] theorem exO_s : exO (some d) ρ = some (.nx ρ) := rfl
@[simp] theorem sEx_e : sEx a ρ = exO (a ρ) ρ := rfl
@[simp] theorem sIf_e : sIf t s s' ρ = iteS (t ρ) s s' ρ := rfl
@[simp] theorem nxO_s : nxO (some ρ) = some (.nx ρ) := rfl
@[simp] theorem asgO_s {k : FG} : asgO (some d) k ρ = nxO (k d ρ) := rfl
@[simp] theorem sAsg_e {k : FG} : sAsg a k ρ = asgO (a ρ) k ρ := rfl
@[simp] theorem ownO_s : ownO i (some d) ρ = some (.nx (ρ.set i (some (.own d)))) := rfl
@[simp] theorem sOwn_e : sOwn i a ρ = ownO i (a ρ) ρ := rfl
@[simp] theorem sFrz_e : sFrz i s ρ = s (frzE i ρ) := rfl
@[simp] theorem frzS_o : frzS i ρ (some (some (.own d))) = ρ.set i (some (.shr d)) := rfl
@[simp] theorem frzS_s : frzS i ρ (some (some (.shr d))) = ρ := rfl
@[simp] theorem frzS_n : frzS i ρ (some none) = ρ := rfl
@[simp] theorem frzE_e : frzE i ρ = frzS i ρ ρ[i]? := by
  unfold frzE frzS
  split <;> simp_all
@[simp] theorem thenFO_nx : thenFO i (some (.nx ρ)) = some (.nx (frzE i ρ)) := rfl
@[simp] theorem thenFO_rt : thenFO i (some (.rt d)) = some (.rt d) := rfl
@[simp] theorem thenF_e : thenF i s ρ = thenFO i (s ρ) := rfl
theorem appS_s {ds : List D} (h : ds.length < 16777216) : appS i d ρ (some (some (.own (.list ds)))) = some (.nx (ρ.set i (some (.own (.list (ds ++ [d])))))) := if_pos (by rw [sizeLine_eq]; exact h)
@[simp] theorem appO_s : appO i (some d) ρ = appS i d ρ ρ[i]? := rfl
@[simp] theorem sApp_e : sApp i a ρ = appO i (a ρ) ρ := by
  unfold sApp appO
  cases a ρ with
  | none => rfl
  | some d =>
    simp only [Option.bind_some]
    unfold appS
    split <;> simp_all
@[simp] theorem putS_o {k v d : D} : putS i k v ρ (some (some (.own d))) = (putO d k v).map fun d' => .nx (ρ.set i (some (.own d'))) := rfl
@[simp] theorem putSO_s {k v : D} : putSO i (some v) (some k) ρ = putS i k v ρ ρ[i]? := rfl
@[simp] theorem sPut_e {k : FE} : sPut i k a ρ = putSO i (a ρ) (k ρ) ρ := by
  unfold sPut putSO
  cases a ρ with
  | none => rfl
  | some v =>
    cases k ρ with
    | none => rfl
    | some k =>
      simp only [Option.bind_some]
      unfold putS
      split <;> simp_all
@[simp] theorem forO_s {ds : List D} {k : FG} : forO (some ds) k s ρ = forL k s ds ρ := rfl
@[simp] theorem sFor_e {l : FI} {k : FG} : sFor l k s ρ = forO (l ρ) k s ρ := rfl
@[simp] theorem wipeE_nil : wipeE ρ [] = ρ := rfl
@[simp] theorem wipeE_cons {v : Nat} {vs : List Nat} : wipeE ρ (v :: vs) = (wipeE ρ vs).set v none := rfl
theorem lcO_s {ds : List D} {k : FG} (h : ds.length ≤ 16777216) : lcO (some ds) k t a ρ = (lcL k t a ρ ds).map .list := if_pos (by rw [sizeLine_eq]; exact h)
theorem dcO_s {ds : List D} {k : FG} (h : ds.length ≤ 16777216) : dcO (some ds) k t a b ρ = (dcL k t a b ρ ds []).map fun kvs => .dict ((.none, .int 0) :: kvs) := if_pos (by rw [sizeLine_eq]; exact h)
@[simp] theorem eLc_e {vs : List Nat} {l : FI} {k : FG} : eLc vs l k t a ρ = lcO (l ρ) k t a (wipeE ρ vs) := rfl
@[simp] theorem eDc_e {vs : List Nat} {l : FI} {k : FG} : eDc vs l k t a b ρ = dcO (l ρ) k t a b (wipeE ρ vs) := rfl
@[simp] theorem bind0_e {n : Nat} {ds : List D} : bind0 n ds = ds.map (fun d => some (.shr d)) ++ List.replicate (n - ds.length) none := rfl
def endF (o : Option Out) : Option D := o.bind fun o => match o with | .nx _ => some .none | .rt d => some d | _ => none
@[simp] theorem endF_nx : endF (some (.nx ρ)) = some .none := rfl
@[simp] theorem endF_rt : endF (some (.rt d)) = some d := rfl
theorem callF_1 {n : Nat} {x : D} : callF n 1 s [x] = endF (s (bind0 n [x])) := rfl
theorem callF_2 {n : Nat} {x y : D} : callF n 2 s [x, y] = endF (s (bind0 n [x, y])) := rfl
theorem callF_3 {n : Nat} {x y z : D} : callF n 3 s [x, y, z] = endF (s (bind0 n [x, y, z])) := rfl
theorem callF_4 {n : Nat} {x y z w : D} : callF n 4 s [x, y, z, w] = endF (s (bind0 n [x, y, z, w])) := rfl
theorem callF_5 {n : Nat} {x y z w v : D} : callF n 5 s [x, y, z, w, v] = endF (s (bind0 n [x, y, z, w, v])) := rfl
theorem forL_nil {k : FG} : forL k s [] ρ = some (.nx ρ) := rfl
/-- behind a turn -/
def turnS (o : Option Out) (r : FS) : Option Out := o.bind fun o => match o with
  | .nx ρ' => r ρ'
  | .ct ρ' => r ρ'
  | .bk ρ' => some (.nx ρ')
  | .rt d => some (.rt d)
@[simp] theorem turnS_nx {r : FS} : turnS (some (.nx ρ)) r = r ρ := rfl
@[simp] theorem turnS_ct {r : FS} : turnS (some (.ct ρ)) r = r ρ := rfl
@[simp] theorem turnS_bk {r : FS} : turnS (some (.bk ρ)) r = some (.nx ρ) := rfl
@[simp] theorem turnS_rt {r : FS} : turnS (some (.rt d)) r = some (.rt d) := rfl
theorem forL_cons {i : Nat} {ds : List D} : forL (gN i) s (d :: ds) ρ = turnS (s (ρ.set i (some (.shr d)))) (forL (gN i) s ds) := rfl
theorem forL_consG {k : FG} {ds : List D} : forL k s (d :: ds) ρ = (k d ρ).bind fun ρ1 => turnS (s ρ1) (forL k s ds) := rfl
theorem whileL_succ {n : Nat} : whileL t s (n + 1) ρ = iteS (t ρ) (fun ρ => turnS (s ρ) (whileL t s n)) sNx ρ := rfl
theorem whileL_t {n : Nat} (h : t ρ = some true) : whileL t s (n + 1) ρ = turnS (s ρ) (whileL t s n) := by rw [whileL_succ, h]; rfl
theorem whileL_f {n : Nat} (h : t ρ = some false) : whileL t s (n + 1) ρ = some (.nx ρ) := by rw [whileL_succ, h]; rfl
theorem lcL_nil {k : FG} : lcL k t a ρ [] = some [] := rfl
/-- one more item that is taken -/
def lcC (x : Option D) (r : Option (List D)) : Option (List D) := x.bind fun y => r.map fun ys => y :: ys
@[simp] theorem lcC_s {x : D} {r : Option (List D)} : lcC (some x) r = r.map fun ys => x :: ys := rfl
theorem lcL_y {i : Nat} {ds : List D} : lcL (gN i) tYs a ρ (d :: ds) = lcC (a (ρ.set i (some (.shr d)))) (lcL (gN i) tYs a ρ ds) := rfl
theorem lcL_t {i : Nat} {ds : List D} (h : t (ρ.set i (some (.shr d))) = some true) : lcL (gN i) t a ρ (d :: ds) = lcC (a (ρ.set i (some (.shr d)))) (lcL (gN i) t a ρ ds) := by
  show ((t _).bind _) = _
  rw [h]
  rfl
theorem lcL_f {i : Nat} {ds : List D} (h : t (ρ.set i (some (.shr d))) = some false) : lcL (gN i) t a ρ (d :: ds) = lcL (gN i) t a ρ ds := by
  show ((t _).bind _) = _
  rw [h]
  rfl
/-- a comprehension over items of one kind -/
theorem lcL_map {α : Type} {i : Nat} (enc : α → D) (h : α → D) : ∀ (xs : List α), (∀ x ∈ xs, a (ρ.set i (some (.shr (enc x)))) = some (h x)) → lcL (gN i) tYs a ρ (xs.map enc) = some (xs.map h)
  | [], _ => rfl
  | x :: xs, hh => by
    rw [List.map_cons, lcL_y, hh x List.mem_cons_self, lcC_s, lcL_map enc h xs fun y hy => hh y (List.mem_cons_of_mem _ hy)]
    rfl
theorem lcL_filter {α : Type} {i : Nat} (enc : α → D) (p : α → Bool) (h : α → D) : ∀ (xs : List α), (∀ x ∈ xs, t (ρ.set i (some (.shr (enc x)))) = some (p x)) → (∀ x ∈ xs, p x = true → a (ρ.set i (some (.shr (enc x)))) = some (h x)) → lcL (gN i) t a ρ (xs.map enc) = some ((xs.filter p).map h)
  | [], _, _ => rfl
  | x :: xs, ht, hh => by
    have ih := lcL_filter enc p h xs (fun y hy => ht y (List.mem_cons_of_mem _ hy)) (fun y hy => hh y (List.mem_cons_of_mem _ hy))
    cases hp : p x with
    | true =>
      rw [List.map_cons, lcL_t ((ht x List.mem_cons_self).trans (by rw [hp])), hh x List.mem_cons_self hp, lcC_s, ih]
      simp [List.filter_cons, hp]
    | false =>
      rw [List.map_cons, lcL_f ((ht x List.mem_cons_self).trans (by rw [hp])), ih]
      simp [List.filter_cons, hp]
end
/-! ### operators at ints -/
section
variable {i j : Int}
@[simp] theorem add_ii : addD (.int i) (.int j) = some (.int (i + j)) := rfl
@[simp] theorem sub_ii : subD (.int i) (.int j) = some (.int (i - j)) := rfl
theorem mul_ii (h : (-18446744073709551616 < i ∧ i < 18446744073709551616) ∨ (-18446744073709551616 < j ∧ j < 18446744073709551616)) : mulD (.int i) (.int j) = some (.int (i * j)) := if_pos h
theorem mod_ii (h : 0 < j) : modD (.int i) (.int j) = some (.int (i % j)) := if_pos h
theorem fdiv_ii (h : 0 < j) (h2 : j < 1073741824) : fdivD (.int i) (.int j) = some (.int (i / j)) := if_pos ⟨h, h2⟩
@[simp] theorem neg_i : negD (.int i) = some (.int (-i)) := rfl
@[simp] theorem lt_ii : ltD (.int i) (.int j) = some (.bool (decide (i < j))) := rfl
@[simp] theorem le_ii : leD (.int i) (.int j) = some (.bool (decide (i ≤ j))) := rfl
@[simp] theorem gt_ii : gtD (.int i) (.int j) = some (.bool (decide (j < i))) := rfl
@[simp] theorem ge_ii : geD (.int i) (.int j) = some (.bool (decide (j ≤ i))) := rfl
@[simp] theorem eq_ii : eqD (.int i) (.int j) = some (.bool (decide (i = j))) := rfl
@[simp] theorem ne_ii : neD (.int i) (.int j) = some (.bool (!decide (i = j))) := rfl
theorem pow_18 : powD (.int 10) (.int 18) = some (.int 1000000000000000000) := by
  simp only [powD]
  rw [if_pos (by decide)]
  rfl
theorem rng1_i (h : -4611686018427387904 ≤ j) (h2 : j < 4611686018427387904) : rng1 [.int j] = some (rngL 0 j.toNat) := if_pos ⟨h, h2⟩
theorem rng2_i (h : -4611686018427387904 ≤ i) (h2 : i < 4611686018427387904) (h3 : -4611686018427387904 ≤ j) (h4 : j < 4611686018427387904) : rng2 [.int i, .int j] = some (rngL i (j - i).toNat) := if_pos ⟨h, h2, h3, h4⟩
theorem rng3_i (h : -4611686018427387904 ≤ i) (h2 : i < 4611686018427387904) (h3 : -4611686018427387904 ≤ j) (h4 : j < 4611686018427387904) : rng3 [.int i, .int j, .int (-1)] = some (rngC i (-1) (i - j).toNat) := if_pos ⟨rfl, h, h2, h3, h4⟩
@[simp] theorem len_l {ds : List D} : lenF [.list ds] = some (.int ds.length) := rfl
@[simp] theorem len_t {ds : List D} : lenF [.tuple ds] = some (.int ds.length) := rfl
@[simp] theorem len_dk {kvs : List (D × D)} : lenF [.dict ((.none, .int 0) :: kvs)] = some (.int kvs.length) := rfl
@[simp] theorem len_scr {ns : List Int} : lenF [scrD ns] = some (.int ns.length) := by simp [scrD, lenF]
theorem sz (n : Nat) : (n ≤ sizeLine) = (n ≤ 16777216) := by rw [sizeLine_eq]
theorem szl (n : Nat) : (n < sizeLine) = (n < 16777216) := by rw [sizeLine_eq]
end
/-! ### words -/
def wd (l : List Nat) : Str := ⟨(l.map (· + 97)).toArray⟩
abbrev dW (l : List Nat) : D := .str (wd l)
theorem wd_len (l : List Nat) : (wd l).length = l.length := by simp [wd, Str.length]
theorem wd_cps (l : List Nat) : (wd l).cps.toList = l.map (· + 97) := by simp [wd]
theorem wd_app (l m : List Nat) : wd l ++ wd m = wd (l ++ m) := by
  show (⟨(wd l).cps ++ (wd m).cps⟩ : Str) = wd (l ++ m)
  simp [wd]
theorem wd_inj {l m : List Nat} (h : wd l = wd m) : l = m := by
  have e := congrArg (fun s : Str => s.cps.toList.map (· - 97)) h
  simpa [wd, Function.comp_def] using e
theorem wd_eq (l m : List Nat) : decide (wd l = wd m) = decide (l = m) := by
  by_cases e : l = m
  · subst e; simp
  · rw [decide_eq_false e, decide_eq_false fun z => e (wd_inj z)]
theorem abc_wd : (Str.ofString "abc") = wd [0, 1, 2] := by decide +kernel
theorem nil_wd : (Str.ofString "") = wd [] := by decide +kernel
theorem a_wd : (Str.ofString "a") = wd [0] := by decide +kernel
theorem items_wd (l : List Nat) : itemsD (dW l) = some (l.map fun c => dW [c]) := by
  simp [itemsD, wd, Function.comp_def]
theorem add_wd {l m : List Nat} (h : l.length + m.length ≤ 16777216) : addD (dW l) (dW m) = some (dW (l ++ m)) := by
  simp only [addD]
  rw [wd_len, wd_len, if_pos (by rw [sizeLine_eq]; exact h), wd_app]
theorem sl_wd {l : List Nat} (lo hi : Option Int) (h : l.length ≤ 16777216) : slD (dW l) lo hi = some (dW ((l.drop (HT.sIx l.length 0 lo)).take (HT.sIx l.length l.length hi - HT.sIx l.length 0 lo))) := by
  simp only [slD]
  rw [wd_len, if_pos (by rw [sizeLine_eq]; exact h)]
  unfold cutS
  rw [wd_len, wd_cps]
  simp [wd]
theorem in_wd (c : Nat) (l : List Nat) : inB (dW [c]) (dW l) = some (decide (c ∈ l)) := by
  show (match (wd [c]).cps.toList with | [c] => some (decide (c ∈ (wd l).cps.toList)) | _ => none) = _
  rw [wd_cps, wd_cps]
  simp
theorem eq_wd (l m : List Nat) : eqD (dW l) (dW m) = some (.bool (decide (l = m))) := by
  show some (PyData.bool (decide (wd l = wd m))) = _
  rw [wd_eq]
theorem len_wd {l : List Nat} (h : l.length ≤ 16777216) : lenF [dW l] = some (.int l.length) := by
  simp only [lenF, lenS]
  rw [wd_len, if_pos (by rw [sizeLine_eq]; exact h)]
theorem sIx_nil (n d : Nat) : HT.sIx n d none = d := rfl
/-- the first letters of the alphabet -/
theorem abc_sl {k : Nat} (h : k ≤ 3) : slD (dW [0, 1, 2]) none (some (k : Int)) = some (dW (List.range k)) := by
  rw [sl_wd _ _ (by decide)]
  rcases k with _ | _ | _ | _ | k
  · rfl
  · rfl
  · rfl
  · rfl
  · omega
theorem abc_itm {k : Nat} (h : k ≤ 3) : (slD (dW [0, 1, 2]) none (some (k : Int))).bind itemsD = some ((List.range k).map fun c => dW [c]) := by
  rw [abc_sl h, Option.bind_some, items_wd]
theorem ix_wd {l : List Nat} {i : Nat} (h : i < l.length) (hz : l.length ≤ 16777216) : ixD (dW l) (.int (i : Int)) = some (dW [l[i]]) := by
  simp only [ixD, ixS]
  rw [wd_len, if_pos (by rw [sizeLine_eq]; exact hz), wd_cps, atI_nat (v := l[i] + 97) (by rw [List.getElem?_map, List.getElem?_eq_getElem h]; rfl)]
  rfl
theorem ix_l {ds : List D} {i : Nat} {d : D} (h : ds[i]? = some d) : ixD (.list ds) (.int (i : Int)) = some d := atI_nat h
theorem ix_t {ds : List D} {i : Nat} {d : D} (h : ds[i]? = some d) : ixD (.tuple ds) (.int (i : Int)) = some d := atI_nat h
@[simp] theorem ix_t0 {x : D} {ds : List D} : ixD (.tuple (x :: ds)) (.int 0) = some x := ix_t (i := 0) rfl
@[simp] theorem ix_t1 {x y : D} {ds : List D} : ixD (.tuple (x :: y :: ds)) (.int 1) = some y := ix_t (i := 1) rfl
@[simp] theorem ix_t2 {x y z : D} {ds : List D} : ixD (.tuple (x :: y :: z :: ds)) (.int 2) = some z := ix_t (i := 2) rfl
@[simp] theorem ix_l0 {x : D} {ds : List D} : ixD (.list (x :: ds)) (.int 0) = some x := ix_l (i := 0) rfl
theorem strsOf_wd : ∀ ls : List (List Nat), strsOf (ls.map dW) = some (ls.map wd)
  | [] => rfl
  | l :: ls => by simp [strsOf, strsOf_wd ls]
theorem join_wd (ls : List (List Nat)) (h : (ls.map (·.length)).sum ≤ 16777216) : joinF (dW []) [.list (ls.map dW)] = some (dW ls.flatten) := by
  have e : ∀ (ls : List (List Nat)) (l : List Nat), Str.join (wd []) ((l :: ls).map wd) = wd (l ++ ls.flatten) := by
    intro ls
    induction ls with
    | nil => intro l; simp [Str.join]
    | cons m ls ih =>
      intro l
      have := ih m
      rw [List.map_cons, List.map_cons]
      show wd l ++ wd [] ++ Str.join (wd []) (wd m :: ls.map wd) = _
      rw [← List.map_cons (f := wd), this, wd_app, wd_app]
      simp
  have e2 : Txt.join (wd []) (ls.map wd) = wd ls.flatten := by
    rw [show Txt.join (wd []) (ls.map wd) = Str.join (wd []) (ls.map wd) from StrLaws.glued_eq_join _ _]
    cases ls with
    | nil => rfl
    | cons l ls => rw [e]; simp
  have hl : (List.map (·.length) (ls.map wd)) = ls.map (·.length) := by
    rw [List.map_map]
    exact List.map_congr_left fun l _ => wd_len l
  simp only [joinF]
  rw [strsOf_wd, Option.bind_some, hl, if_pos (by rw [wd_len]; simpa using h), e2]
theorem sl_take (p s : List Nat) (h : (p ++ s).length ≤ 16777216) : slD (dW (p ++ s)) none (some (p.length : Int)) = some (dW p) := by
  rw [sl_wd _ _ h, HT.sIx_nat, sIx_nil]
  simp
theorem sl_drop (p s : List Nat) (h : (p ++ s).length ≤ 16777216) : slD (dW (p ++ s)) (some (p.length : Int)) none = some (dW s) := by
  rw [sl_wd _ _ h, HT.sIx_nat, sIx_nil]
  simp
theorem keq_wd (a b : List Nat) : keq (dW a) (dW b) = decide (a = b) := by
  show decide (wd a = wd b) = _
  exact wd_eq a b
@[simp] theorem keyOf_wd (a : List Nat) : keyOf (dW a) = some (.inr (wd a)) := rfl
end DV
end

set_option Elab.async false
set_option linter.all false
set_option maxRecDepth 100000
/-! DVn: dicts of the kind K as lists of pairs. -/
noncomputable section
namespace DV
open PySem L2
/-- keys that are told apart by what they stand for -/
structure KeyE {α : Type} [DecidableEq α] (ek : α → D) : Prop where
  eq : ∀ a b, keq (ek a) (ek b) = decide (a = b)
  ok : ∀ a, ∃ k, keyOf (ek a) = some k
section
variable {α β : Type} [DecidableEq α] {ek : α → D} {ev : β → D}
def enM (ek : α → D) (ev : β → D) (m : List (α × β)) : List (D × D) := m.map fun p => (ek p.1, ev p.2)
abbrev dM (ek : α → D) (ev : β → D) (m : List (α × β)) : D := .dict ((.none, .int 0) :: enM ek ev m)
def mget (m : List (α × β)) (k : α) : Option β := (m.find? fun p => decide (p.1 = k)).map (·.2)
def mput (m : List (α × β)) (k : α) (v : β) : List (α × β) := if k ∈ m.map (·.1) then m.map (fun p => if p.1 = k then (p.1, v) else p) else m ++ [(k, v)]
theorem enM_len (m : List (α × β)) : (enM ek ev m).length = m.length := by simp [enM]
theorem dget_en (E : KeyE ek) (m : List (α × β)) (k : α) : dget (enM ek ev m) (ek k) = (mget m k).map ev := by
  unfold dget mget enM
  rw [List.find?_map]
  simp only [Function.comp_def, E.eq]
  cases m.find? (fun p => decide (p.1 = k)) <;> rfl
theorem dput_en (E : KeyE ek) (m : List (α × β)) (k : α) (v : β) : dput (enM ek ev m) (ek k) (ev v) = enM ek ev (mput m k v) := by
  unfold dput mput enM
  simp only [List.any_map, Function.comp_def, E.eq, List.any_eq_true, decide_eq_true_eq]
  by_cases h : k ∈ m.map (·.1)
  · have h' : ∃ x ∈ m, x.1 = k := by simpa using h
    rw [if_pos h, if_pos h', List.map_map, List.map_map]
    refine List.map_congr_left fun p _ => ?_
    simp only [Function.comp_def, E.eq, decide_eq_true_eq]
    by_cases e : p.1 = k
    · rw [if_pos e, if_pos e]
    · rw [if_neg e, if_neg e]
  · have h' : ¬ ∃ x ∈ m, x.1 = k := by simpa using h
    rw [if_neg h, if_neg h', List.map_append]
    rfl
theorem mget_none {m : List (α × β)} {k : α} : mget m k = none ↔ k ∉ m.map (·.1) := by
  unfold mget
  rw [Option.map_eq_none_iff, List.find?_eq_none]
  constructor
  · rintro h hm
    obtain ⟨p, hp, e⟩ := List.mem_map.mp hm
    exact h p hp (by simpa using e)
  · intro h p hp e
    exact h (List.mem_map.mpr ⟨p, hp, by simpa using e⟩)
theorem mput_keys (m : List (α × β)) (k : α) (v : β) : (mput m k v).map (·.1) = if k ∈ m.map (·.1) then m.map (·.1) else m.map (·.1) ++ [k] := by
  unfold mput
  by_cases h : k ∈ m.map (·.1)
  · rw [if_pos h, if_pos h, List.map_map]
    refine List.map_congr_left fun p _ => ?_
    simp only [Function.comp_def]
    by_cases e : p.1 = k
    · rw [if_pos e]
    · rw [if_neg e]
  · rw [if_neg h, if_neg h, List.map_append]
    rfl
theorem mput_nodup {m : List (α × β)} {k : α} {v : β} (h : (m.map (·.1)).Nodup) : ((mput m k v).map (·.1)).Nodup := by
  rw [mput_keys]
  split
  · exact h
  · rename_i e
    rw [List.nodup_append]
    exact ⟨h, by simp, fun a ha b hb => by
      simp at hb
      subst hb
      exact fun z => e (z ▸ ha)⟩
theorem mget_put (m : List (α × β)) (k : α) (v : β) (k' : α) : mget (mput m k v) k' = if k' = k then some v else mget m k' := by
  unfold mput
  by_cases h : k ∈ m.map (·.1)
  · rw [if_pos h]
    unfold mget
    rw [List.find?_map]
    have e1 : ((fun p : α × β => decide (p.1 = k')) ∘ fun p : α × β => if p.1 = k then (p.1, v) else p) = fun p : α × β => decide (p.1 = k') := by
      funext p
      simp only [Function.comp_def]
      by_cases e : p.1 = k
      · rw [if_pos e]
      · rw [if_neg e]
    rw [e1]
    by_cases e : k' = k
    · subst e
      rw [if_pos rfl]
      cases q : m.find? (fun p => decide (p.1 = k')) with
      | none =>
        have := mget_none (m := m) (k := k')
        exact absurd h (this.mp (by unfold mget; rw [q]; rfl))
      | some p =>
        have hp := List.find?_some q
        simp only [decide_eq_true_eq] at hp
        simp [hp]
    · rw [if_neg e]
      cases q : m.find? (fun p => decide (p.1 = k')) with
      | none => rfl
      | some p =>
        have hp := List.find?_some q
        simp only [decide_eq_true_eq] at hp
        simp [hp, e]
  · rw [if_neg h]
    unfold mget
    rw [List.find?_append]
    by_cases e : k' = k
    · subst e
      have q : m.find? (fun p => decide (p.1 = k')) = none := by
        have := mget_none (m := m) (k := k')
        simpa [mget] using this.mpr h
      rw [q, if_pos rfl]
      simp
    · rw [if_neg e]
      have e' : ¬ k = k' := fun z => e z.symm
      cases q : m.find? (fun p => decide (p.1 = k')) with
      | none => simp [e']
      | some p => simp
theorem mput_new {m : List (α × β)} {k : α} {v : β} (h : k ∉ m.map (·.1)) : mput m k v = m ++ [(k, v)] := if_neg h
theorem mget_of_mem {m : List (α × β)} (hn : (m.map (·.1)).Nodup) {k : α} {v : β} (h : (k, v) ∈ m) : mget m k = some v := by
  induction m with
  | nil => cases h
  | cons p m ih =>
    rw [List.map_cons, List.nodup_cons] at hn
    unfold mget
    rcases List.mem_cons.mp h with e | e
    · subst e
      simp
    · have hk : p.1 ≠ k := fun z => hn.1 (List.mem_map.mpr ⟨_, e, by simp [z]⟩)
      rw [List.find?_cons, decide_eq_false hk]
      exact ih hn.2 e
theorem ix_dM (E : KeyE ek) {m : List (α × β)} {k : α} {v : β} (h : mget m k = some v) : ixD (dM ek ev m) (ek k) = some (ev v) := by
  show ((keyOf (ek k)).bind fun _ => dget (enM ek ev m) (ek k)) = _
  obtain ⟨q, hq⟩ := E.ok k
  rw [hq, Option.bind_some, dget_en E, h]
  rfl
theorem put_dM (E : KeyE ek) {m : List (α × β)} {k : α} {v : β} (h : m.length < 16777216) : putO (dM ek ev m) (ek k) (ev v) = some (dM ek ev (mput m k v)) := by
  show ((keyOf (ek k)).bind fun _ => putKv (.int 0) (enM ek ev m) (ek k) (ev v)) = _
  obtain ⟨q, hq⟩ := E.ok k
  rw [hq, Option.bind_some]
  have e : putKv (.int 0) (enM ek ev m) (ek k) (ev v) = some (.dict ((.none, .int 0) :: dput (enM ek ev m) (ek k) (ev v))) := if_pos (by rw [sizeLine_eq, enM_len]; exact h)
  rw [e, dput_en E]
theorem items_dM (m : List (α × β)) : itemsD (dM ek ev m) = some ((m.map (·.1)).map ek) := by
  show some ((enM ek ev m).map (·.1)) = _
  simp [enM, Function.comp_def]
theorem len_dM (m : List (α × β)) : lenF [dM ek ev m] = some (.int m.length) := by
  show some (PyData.int (enM ek ev m).length) = _
  rw [enM_len]
/-- a dict comprehension over items of one kind -/
theorem dcL_map {γ : Type} (E : KeyE ek) {i : Nat} {ρ : Env} {fk fv : FE} (enc : γ → D) (kf : γ → α) (vf : γ → β) : ∀ (xs : List γ) (acc : List (α × β)),
    (∀ x ∈ xs, fk (ρ.set i (some (.shr (enc x)))) = some (ek (kf x))) → (∀ x ∈ xs, fv (ρ.set i (some (.shr (enc x)))) = some (ev (vf x))) →
    dcL (gN i) tYs fk fv ρ (xs.map enc) (enM ek ev acc) = some (enM ek ev (xs.foldl (fun m x => mput m (kf x) (vf x)) acc))
  | [], acc, _, _ => rfl
  | x :: xs, acc, h1, h2 => by
    obtain ⟨q, hq⟩ := E.ok (kf x)
    have ih := dcL_map E (ρ := ρ) (i := i) (fk := fk) (fv := fv) enc kf vf xs (mput acc (kf x) (vf x)) (fun y hy => h1 y (List.mem_cons_of_mem _ hy)) (fun y hy => h2 y (List.mem_cons_of_mem _ hy))
    rw [List.map_cons]
    show (fk (ρ.set i (some (.shr (enc x))))).bind (fun k => (fv (ρ.set i (some (.shr (enc x))))).bind fun v => (keyOf k).bind fun _ => dcL (gN i) tYs fk fv ρ (xs.map enc) (dput (enM ek ev acc) k v)) = _
    rw [h1 x List.mem_cons_self, Option.bind_some, h2 x List.mem_cons_self, Option.bind_some, hq, Option.bind_some, dput_en E, ih]
    rfl
theorem foldl_copy : ∀ (m acc : List (α × β)), ((acc ++ m).map (·.1)).Nodup → m.foldl (fun m p => mput m p.1 p.2) acc = acc ++ m
  | [], acc, _ => by simp
  | p :: m, acc, h => by
    have hp : p.1 ∉ acc.map (·.1) := fun z => by
      rw [List.map_append, List.nodup_append] at h
      exact h.2.2 _ z _ (by simp) rfl
    rw [List.foldl_cons, mput_new hp, foldl_copy m (acc ++ [(p.1, p.2)]) (by simpa using h)]
    simp
end
theorem key_letter : KeyE (fun c : Nat => dW [c]) := ⟨fun a b => by rw [keq_wd]; simp, fun a => ⟨_, rfl⟩⟩
theorem key_word : KeyE dW := ⟨fun a b => keq_wd a b, fun a => ⟨_, rfl⟩⟩
end DV
end

set_option Elab.async false
set_option linter.all false
set_option maxRecDepth 100000
/-! DVo: equality of plain data; sorted words. -/
noncomputable section
namespace DV
open PySem L2
theorem strOk_wd {l : List Nat} (h : ∀ c ∈ l, c < 1000) : PyData.strOk (wd l) = true := by
  unfold PyData.strOk
  simp [wd]
  intro c hc
  have := h c hc
  omega
theorem lay_words {ls : List (List Nat)} (h : ∀ l ∈ ls, ∀ c ∈ l, c < 1000) : PyData.canLayAll0 (ls.map dW) = true := by
  induction ls with
  | nil => rfl
  | cons l ls ih =>
    rw [List.map_cons]
    show (PyData.canLay0 (dW l) && PyData.canLayAll0 (ls.map dW)) = true
    rw [ih fun x hx => h x (List.mem_cons_of_mem _ hx)]
    show (PyData.strOk (wd l) && true) = true
    rw [strOk_wd (h l List.mem_cons_self)]
    rfl
theorem depth_words (ls : List (List Nat)) : PyData.depthAll (ls.map dW) = 0 := by
  induction ls with
  | nil => rfl
  | cons l ls ih =>
    rw [List.map_cons]
    show max 0 (PyData.depthAll (ls.map dW)) = 0
    rw [ih]
    rfl
theorem shaped_words {ls : List (List Nat)} (h : ∀ l ∈ ls, ∀ c ∈ l, c < 1000) : SeqAt.shaped (.tuple (ls.map dW)) = true := by
  unfold SeqAt.shaped
  rw [Bool.and_eq_true]
  refine ⟨lay_words h, decide_eq_true ?_⟩
  show PyData.depthAll (ls.map dW) + 1 ≤ 64
  rw [depth_words]
  decide
theorem eqG_self {x : D} (h : SeqAt.shaped x = true) : eqG x x = some (.bool true) := by
  unfold eqG
  rw [if_pos ⟨h, h⟩, SeqAt.eqv_refl x (SeqAt.canLay_of_shaped h)]
theorem eq_tt {ds : List D} (h : SeqAt.shaped (.tuple ds) = true) : eqD (.tuple ds) (.tuple ds) = some (.bool true) := eqG_self h
theorem ne_tt {ds : List D} (h : SeqAt.shaped (.tuple ds) = true) : neD (.tuple ds) (.tuple ds) = some (.bool false) := by
  unfold neD
  rw [eq_tt h]
  rfl
/-! ### lists without repeats and with the same members -/
theorem perm_of_mem {α : Type} [DecidableEq α] : ∀ {l m : List α}, l.Nodup → m.Nodup → (∀ x, x ∈ l ↔ x ∈ m) → l.Perm m
  | [], m, _, _, h => by
    cases m with
    | nil => exact .nil
    | cons a m => exact absurd ((h a).mpr List.mem_cons_self) (by simp)
  | a :: l, m, hl, hm, h => by
    have ha : a ∈ m := (h a).mp List.mem_cons_self
    rw [List.nodup_cons] at hl
    refine List.Perm.trans ?_ (List.perm_cons_erase ha).symm
    refine List.Perm.cons a (perm_of_mem hl.2 (hm.erase a) fun x => ?_)
    rw [hm.mem_erase_iff]
    constructor
    · intro hx
      exact ⟨fun e => hl.1 (e ▸ hx), (h x).mp (List.mem_cons_of_mem _ hx)⟩
    · rintro ⟨h1, h2⟩
      rcases List.mem_cons.mp ((h x).mpr h2) with e | e
      · exact absurd e h1
      · exact e
theorem nodup_len_le {α : Type} [DecidableEq α] : ∀ {l m : List α}, l.Nodup → (∀ x ∈ l, x ∈ m) → l.length ≤ m.length
  | [], m, _, _ => Nat.zero_le _
  | a :: l, m, h, hs => by
    rw [List.nodup_cons] at h
    have ha := hs a List.mem_cons_self
    have := nodup_len_le (l := l) (m := m.erase a) h.2 fun x hx => (List.mem_erase_of_ne fun e => h.1 (by rw [← e]; exact hx)).mpr (hs x (List.mem_cons_of_mem _ hx))
    rw [List.length_erase_of_mem ha] at this
    have := List.length_pos_of_mem ha
    simp
    omega
/-! ### keys of a dict whose values are all True -/
abbrev vT : Unit → D := fun _ => .bool true
abbrev dS (ks : List (List Nat)) : D := dM dW vT (ks.map fun w => (w, ()))
def addK (ks : List (List Nat)) (w : List Nat) : List (List Nat) := if w ∈ ks then ks else ks ++ [w]
theorem mput_addK (ks : List (List Nat)) (w : List Nat) : mput (ks.map fun w => (w, ())) w () = (addK ks w).map fun w => (w, ()) := by
  unfold mput addK
  have e : (ks.map fun w => (w, ())).map (·.1) = ks := by simp [Function.comp_def]
  rw [e]
  split
  · rw [List.map_map]
    refine List.map_congr_left fun x _ => ?_
    simp only [Function.comp_def]
    split <;> rfl
  · rw [List.map_append]
    rfl
theorem put_dS {ks : List (List Nat)} {w : List Nat} (h : ks.length < 16777216) : putO (dS ks) (dW w) (.bool true) = some (dS (addK ks w)) := by
  have := put_dM (ek := dW) (ev := vT) key_word (m := ks.map fun w => (w, ())) (k := w) (v := ()) (by simpa using h)
  rw [mput_addK] at this
  exact this
theorem keys_dS (ks : List (List Nat)) : lstF [dS ks] = some (.list (ks.map dW)) := by
  show some (PyData.list ((enM dW vT (ks.map fun w => (w, ()))).map (·.1))) = _
  simp [enM, Function.comp_def]
theorem addK_nodup {ks : List (List Nat)} {w : List Nat} (h : ks.Nodup) : (addK ks w).Nodup := by
  unfold addK
  split
  · exact h
  · rename_i e
    rw [List.nodup_append]
    exact ⟨h, by simp, fun a ha b hb => by
      simp at hb
      subst hb
      exact fun z => e (z ▸ ha)⟩
theorem addK_mem {ks : List (List Nat)} {w u : List Nat} : u ∈ addK ks w ↔ u ∈ ks ∨ u = w := by
  unfold addK
  split
  · rename_i e
    exact ⟨.inl, fun z => z.elim id fun z => z ▸ e⟩
  · simp
theorem addK_len (ks : List (List Nat)) (w : List Nat) : (addK ks w).length ≤ ks.length + 1 := by
  unfold addK
  split <;> simp
end DV
end

set_option linter.all false
noncomputable section
namespace LC
open PySem L2 DV
def L1_law_same (rec : List D → Option D) : FS :=
    (sIf (tNotF (toT (eCall rec (lC (o2 ixD (eW 0) (eW 2)) (lC (o2 ixD (eW 1) (eW 2)) lN))))) (sRet (eC (.bool false))) sNx)
def b_law_same (rec : List D → Option D) : FS :=
    (sSeq (sIf (tOrF (toT (o1 (isiD "bool") (eW 1))) (toT (o1 (isiD "bool") (eW 0)))) (sRet (eAnd (o1 (isiD "bool") (eW 1)) (eAnd (o1 (isiD "bool") (eW 0)) (o2 eqD (eW 0) (eW 1))))) sNx)
    (sSeq (sIf (tOrF (toT (o2 isD (eW 1) (eC .none))) (toT (o1 (isiD "int") (eW 1)))) (sRet (eAnd (o2 eqD (eW 0) (eW 1)) (eOr (o2 isD (eW 1) (eC .none)) (o1 (isiD "int") (eW 0))))) sNx)
    (sSeq (sIf (toT (o1 (isiD "str") (eW 1))) (sRet (eAnd (o1 (isiD "str") (eW 0)) (o2 eqD (eW 0) (eW 1)))) sNx)
    (sSeq (sIf (tOrF (toT (o2 neD (o1 (isiD "list") (eW 1)) (o1 (isiD "list") (eW 0)))) (toT (o2 neD (o1 (isiD "tuple") (eW 1)) (o1 (isiD "tuple") (eW 0))))) (sRet (eC (.bool false))) sNx)
    (sSeq (sIf (toT (o2 neD (eCall lenF (lC (eW 0) lN)) (eCall lenF (lC (eW 1) lN)))) (sRet (eC (.bool false))) sNx)
    (sSeq (sFor (iCall rng1 (lC (eCall lenF (lC (eW 1) lN)) lN)) (gN 2) (L1_law_same rec))
    (sRet (eC (.bool true)))))))))
def F_law_same : Nat → List D → Option D
  | 0 => fun _ => none
  | n + 1 => callF 3 2 (b_law_same (F_law_same n))
def b_law_number : FS :=
    (sSeq (sAsg (o2 addD (o2 mulD (eCall sumF (lC (eW 0) lN)) (eC (.int 31))) (o2 mulD (eC (.int 1000003)) (o2 addD (eW 1) (eC (.int 1))))) (gN 2))
    (sSeq (sIf (toT (o2 ltD (eW 1) (eCall lenF (lC (eW 0) lN)))) (sAsg (o2 ixD (eW 0) (eW 1)) (gN 2)) sNx)
    (sRet (eCall absF (lC (eW 2) lN)))))
def F_law_number : List D → Option D := callF 3 2 b_law_number
def L1_law_draws : FS :=
    (sSeq (sApp 5 (o2 modD (eW 4) (eW 3)))
    (sAsg (o2 fdivD (eW 4) (eW 3)) (gN 4)))
def L2_law_draws : FS :=
    (sSeq (sAsg (o2 modD (o2 addD (o2 addD (o2 mulD (eW 7) (eC (.int 48271))) (o2 mulD (eC (.int 11)) (eW 6))) (eC (.int 7))) (eC (.int 2147483647))) (gN 7))
    (sSeq (sAsg (o2 modD (o2 addD (o2 addD (o2 mulD (eW 7) (eW 7)) (o2 mulD (eC (.int 69621)) (eW 6))) (eC (.int 5))) (eC (.int 2147483629))) (gN 8))
    (sApp 5 (o2 modD (o2 fdivD (eW 8) (eC (.int 64))) (eW 3)))))
def b_law_draws : FS :=
    (sSeq (sAsg (eCall F_law_number (lC (eV 0) (lC (eV 1) lN))) (gN 4))
    (sSeq (sOwn 5 (eLst lN))
    (sSeq (sIf (toT (o2 geD (eW 4) (o2 powD (eC (.int 10)) (eC (.int 18))))) (sSeq (sAsg (o2 subD (eW 4) (o2 powD (eC (.int 10)) (eC (.int 18)))) (gN 4))
    (sSeq (sFor (iCall rng1 (lC (eV 2) lN)) (gN 6) L1_law_draws)
    (sFrz 5 (sRet (eV 5))))) sNx)
    (sSeq (sAsg (o2 addD (o2 modD (eW 4) (eC (.int 2147483647))) (eC (.int 1))) (gN 7))
    (sSeq (sFor (iCall rng1 (lC (eV 2) lN)) (gN 6) L2_law_draws)
    (sFrz 5 (sRet (eV 5))))))))
def F_law_draws : List D → Option D := callF 9 4 b_law_draws
def b_law_word : FS :=
    (sRet (eMeth joinF (eC (.str "")) (lC (eLc [2] (iAny (eV 0)) (gN 2) tYs (o2 ixD (eC (.str "abc")) (o2 modD (eW 2) (eW 1)))) lN)))
def F_law_word : List D → Option D := callF 3 2 b_law_word
def L1_law_words : FS :=
    (sApp 5 (o2 addD (eW 6) (eW 7)))
def L2_law_words : FS :=
    (sFor (iAny (eSl (eC (.str "abc")) pN (pS (eV 0)))) (gN 7) L1_law_words)
def L3_law_words : FS :=
    (sSeq (sOwn 5 (eLst lN))
    (sSeq (sFor (iAny (eV 3)) (gN 6) L2_law_words)
    (sSeq (sAsg (o2 addD (eW 2) (eW 5)) (gN 2))
    (sFrz 5 (sAsg (eV 5) (gN 3))))))
def b_law_words : FS :=
    (sSeq (sAsg (eLst (lC (eC (.str "")) lN)) (gN 2))
    (sSeq (sAsg (eLst (lC (eC (.str "")) lN)) (gN 3))
    (sSeq (sFor (iCall rng1 (lC (eV 1) lN)) (gN 4) L3_law_words)
    (sRet (eV 2)))))
def F_law_words : List D → Option D := callF 8 2 b_law_words
def L1_law_scattered : FS :=
    (sIf (tAndF (toT (o2 ltD (eW 2) (eCall lenF (lC (eW 0) lN)))) (toT (o2 eqD (o2 ixD (eW 0) (eW 2)) (eW 3)))) (sAsg (o2 addD (eW 2) (eC (.int 1))) (gN 2)) sNx)
def b_law_scattered : FS :=
    (sSeq (sAsg (eC (.int 0)) (gN 2))
    (sSeq (sFor (iAny (eV 1)) (gN 3) L1_law_scattered)
    (sRet (o2 eqD (eW 2) (eCall lenF (lC (eW 0) lN))))))
def F_law_scattered : List D → Option D := callF 4 2 b_law_scattered
end LC
end

set_option Elab.async false
set_option linter.all false
set_option maxRecDepth 100000
set_option maxHeartbeats 4000000
/-! LC: what the laws' own helpers answer. -/
namespace LC
open PySem L2 DV
abbrev dN (n : Nat) : D := .int (n : Int)
theorem intsOf_map (ns : List Int) : intsOf (ns.map .int) = some ns := by
  induction ns with
  | nil => rfl
  | cons n ns ih => simp [intsOf, ih]
theorem sum_scr (ns : List Int) : sumF [scrD ns] = some (.int ns.sum) := by simp [sumF, scrD, intsOf_map]
theorem ix_scr {ns : List Int} {k : Nat} (h : k < ns.length) : ixD (scrD ns) (.int (k : Int)) = some (.int ns[k]) := by
  have e : atI (ns.map PyData.int) (k : Int) = some (.int ns[k]) := atI_nat (by rw [List.getElem?_map, List.getElem?_eq_getElem h]; rfl)
  exact e
theorem number_eq (ns : List Int) (k : Nat) : ∃ m : Nat, F_law_number [scrD ns, dN k] = some (dN m) := by
  rw [F_law_number, callF_2, b_law_number]
  have ab : ∀ i : Int, ∃ m : Nat, absF [.int i] = some (dN m) := fun i => ⟨i.natAbs, by
    simp only [absF]
    congr 2
    split <;> omega⟩
  have c1 := mul_ii (i := ns.sum) (j := 31) (.inr ⟨by omega, by omega⟩)
  have c2 := mul_ii (i := 1000003) (j := (k : Int) + 1) (.inl ⟨by omega, by omega⟩)
  by_cases h : (k : Int) < ns.length
  · have hk : k < ns.length := by omega
    obtain ⟨m, hm⟩ := ab ns[k]
    refine ⟨m, ?_⟩
    simp [List.replicate, sum_scr, c1, c2, hk, ix_scr hk, hm]
  · obtain ⟨m, hm⟩ := ab (ns.sum * 31 + 1000003 * ((k : Int) + 1))
    have hk : ¬ k < ns.length := by omega
    refine ⟨m, ?_⟩
    simp [List.replicate, sum_scr, c1, c2, hk, hm]
theorem step1 {a0 a1 a2 o : Option Sl} {many x : Nat} {ds : List D} (hm : 0 < many) (hm2 : many < 1073741824) (hl : ds.length < 16777216) :
    L1_law_draws [a0, a1, a2, some (.shr (dN many)), some (.shr (dN x)), some (.own (.list ds)), o, none, none] =
      some (.nx [a0, a1, a2, some (.shr (dN many)), some (.shr (dN (x / many))), some (.own (.list (ds ++ [dN (x % many)]))), o, none, none]) := by
  have c1 := mod_ii (i := (x : Int)) (j := (many : Int)) (by omega)
  have c2 := fdiv_ii (i := (x : Int)) (j := (many : Int)) (by omega) (by omega)
  simp [L1_law_draws, c1, c2, appS_s hl]
theorem draws1 {a0 a1 a2 : Option Sl} {many : Nat} (hm : 0 < many) (hm2 : many < 1073741824) : ∀ (is : List D) (o : Option Sl) (x : Nat) (l : List Nat), l.length + is.length ≤ 16777216 → (∀ y ∈ l, y < many) →
    ∃ (x' : Nat) (l' : List Nat) (o' : Option Sl), forL (gN 6) L1_law_draws is [a0, a1, a2, some (.shr (dN many)), some (.shr (dN x)), some (.own (.list (l.map dN))), o, none, none] =
      some (.nx [a0, a1, a2, some (.shr (dN many)), some (.shr (dN x')), some (.own (.list (l'.map dN))), o', none, none]) ∧ l'.length = l.length + is.length ∧ ∀ y ∈ l', y < many
  | [], o, x, l, _, hb => ⟨x, l, o, rfl, rfl, hb⟩
  | d :: is, o, x, l, hl, hb => by
    simp at hl
    obtain ⟨x', l', o', e, h1, h2⟩ := draws1 (a0 := a0) (a1 := a1) (a2 := a2) hm hm2 is (some (.shr d)) (x / many) (l ++ [x % many]) (by simp; omega) (fun y hy => by
      rcases List.mem_append.mp hy with z | z
      · exact hb y z
      · simp at z; subst z; exact Nat.mod_lt _ hm)
    refine ⟨x', l', o', ?_, by rw [h1]; simp; omega, h2⟩
    rw [List.map_append] at e
    rw [forL_cons]
    show turnS (L1_law_draws [a0, a1, a2, some (.shr (dN many)), some (.shr (dN x)), some (.own (.list (l.map dN))), some (.shr d), none, none]) _ = _
    rw [step1 hm hm2 (by simp; omega), turnS_nx]
    exact e
theorem step2 {a0 a1 a2 a4 o8 : Option Sl} {many : Nat} {x y w d : Int} {v : Nat} {ds : List D} (hm : 0 < many) (hx : 0 ≤ x) (hx2 : x < 2147483648) (hy : y = (x * 48271 + 11 * d + 7) % 2147483647) (hw : w = (y * y + 69621 * d + 5) % 2147483629) (hv : w / 64 = (v : Int)) (hl : ds.length < 16777216) :
    L2_law_draws [a0, a1, a2, some (.shr (dN many)), a4, some (.own (.list ds)), some (.shr (.int d)), some (.shr (.int x)), o8] =
      some (.nx [a0, a1, a2, some (.shr (dN many)), a4, some (.own (.list (ds ++ [dN (v % many)]))), some (.shr (.int d)), some (.shr (.int y)), some (.shr (.int w))]) := by
  have hy1 := Int.emod_nonneg (x * 48271 + 11 * d + 7) (show (2147483647 : Int) ≠ 0 by decide)
  have hy2 := Int.emod_lt_of_pos (x * 48271 + 11 * d + 7) (show (0 : Int) < 2147483647 by decide)
  rw [← hy] at hy1 hy2
  have c1 := mul_ii (i := x) (j := 48271) (.inl ⟨by omega, by omega⟩)
  have c2 := mul_ii (i := 11) (j := d) (.inl ⟨by omega, by omega⟩)
  have c3 := mul_ii (i := y) (j := y) (.inl ⟨by omega, by omega⟩)
  have c4 := mul_ii (i := 69621) (j := d) (.inl ⟨by omega, by omega⟩)
  have c5 := mod_ii (i := x * 48271 + 11 * d + 7) (j := 2147483647) (by omega)
  have c6 := mod_ii (i := y * y + 69621 * d + 5) (j := 2147483629) (by omega)
  have c7 := fdiv_ii (i := w) (j := 64) (by omega) (by omega)
  have c8 := mod_ii (i := (v : Int)) (j := (many : Int)) (by omega)
  rw [← hy] at c5
  rw [← hw] at c6
  rw [hv] at c7
  simp [L2_law_draws, c1, c2, c3, c4, c5, c6, c7, c8, appS_s hl]
theorem draws2 {a0 a1 a2 a4 : Option Sl} {many : Nat} (hm : 0 < many) : ∀ (is : List Int) (o : Option Sl) (x : Int) (o8 : Option Sl) (l : List Nat), 0 ≤ x → x < 2147483648 → l.length + is.length ≤ 16777216 → (∀ y ∈ l, y < many) →
    ∃ (l' : List Nat) (o' o7 o8' : Option Sl), forL (gN 6) L2_law_draws (is.map .int) [a0, a1, a2, some (.shr (dN many)), a4, some (.own (.list (l.map dN))), o, some (.shr (.int x)), o8] =
      some (.nx [a0, a1, a2, some (.shr (dN many)), a4, some (.own (.list (l'.map dN))), o', o7, o8']) ∧ l'.length = l.length + is.length ∧ ∀ y ∈ l', y < many
  | [], o, x, o8, l, _, _, _, hb => ⟨l, o, _, o8, rfl, rfl, hb⟩
  | d :: is, o, x, o8, l, hx, hx2, hl, hb => by
    simp at hl
    have hy := Int.emod_nonneg (x * 48271 + 11 * d + 7) (show (2147483647 : Int) ≠ 0 by decide)
    have hy2 := Int.emod_lt_of_pos (x * 48271 + 11 * d + 7) (show (0 : Int) < 2147483647 by decide)
    generalize hyy : (x * 48271 + 11 * d + 7) % 2147483647 = y at hy hy2
    have hw := Int.emod_nonneg (y * y + 69621 * d + 5) (show (2147483629 : Int) ≠ 0 by decide)
    generalize hww : (y * y + 69621 * d + 5) % 2147483629 = w at hw
    have hv : 0 ≤ w / 64 := Int.ediv_nonneg hw (by decide)
    obtain ⟨v, hv⟩ := Int.eq_ofNat_of_zero_le hv
    obtain ⟨l', o', o7, o8', e, h1, h2⟩ := draws2 (a0 := a0) (a1 := a1) (a2 := a2) (a4 := a4) hm is (some (.shr (.int d))) y (some (.shr (.int w))) (l ++ [v % many]) hy (by omega) (by simp; omega) (fun y hy => by
      rcases List.mem_append.mp hy with z | z
      · exact hb y z
      · simp at z; subst z; exact Nat.mod_lt _ hm)
    refine ⟨l', o', o7, o8', ?_, by rw [h1]; simp; omega, h2⟩
    rw [List.map_append] at e
    rw [List.map_cons, forL_cons]
    show turnS (L2_law_draws [a0, a1, a2, some (.shr (dN many)), a4, some (.own (.list (l.map dN))), some (.shr (.int d)), some (.shr (.int x)), o8]) _ = _
    rw [step2 hm hx hx2 hyy.symm hww.symm hv (by simp; omega), turnS_nx]
    exact e
theorem rng_eq (count : Nat) : rngL 0 count = (List.range count).map dN := by simp [rngL]
theorem rng1_n {count : Nat} (h : count ≤ 16777216) : rng1 [dN count] = some ((List.range count).map dN) := by
  rw [rng1_i (by omega) (by omega), Int.toNat_natCast, rng_eq]
theorem draws_eq (ns : List Int) (k count many : Nat) (hc : count ≤ 16777216) (hm : 0 < many) (hm2 : many < 1073741824) :
    ∃ l : List Nat, F_law_draws [scrD ns, dN k, dN count, dN many] = some (.list (l.map dN)) ∧ l.length = count ∧ ∀ y ∈ l, y < many := by
  obtain ⟨m, hn⟩ := number_eq ns k
  rw [F_law_draws, callF_4, b_law_draws]
  obtain ⟨N, hN⟩ : ∃ N, powD (.int 10) (.int 18) = some (.int N) := ⟨_, pow_18⟩
  by_cases h : N ≤ (m : Int)
  · have hp : (0 : Int) ≤ (m : Int) - N := by omega
    obtain ⟨x, hx⟩ := Int.eq_ofNat_of_zero_le hp
    obtain ⟨x', l', o', e, h1, h2⟩ := draws1 (a0 := some (.shr (scrD ns))) (a1 := some (.shr (dN k))) (a2 := some (.shr (dN count))) hm hm2 ((List.range count).map dN) none x [] (by simp; exact hc) (by simp)
    refine ⟨l', ?_, by rw [h1]; simp, h2⟩
    rw [List.map_nil] at e
    simp [List.replicate, hn, hN, h, rng1_n hc, hx, e]
  · have hy := Int.emod_nonneg (m : Int) (show (2147483647 : Int) ≠ 0 by decide)
    have hy2 := Int.emod_lt_of_pos (m : Int) (show (0 : Int) < 2147483647 by decide)
    have c1 := mod_ii (i := (m : Int)) (j := 2147483647) (by omega)
    obtain ⟨l', o', o7, o8', e, h1, h2⟩ := draws2 (a0 := some (.shr (scrD ns))) (a1 := some (.shr (dN k))) (a2 := some (.shr (dN count))) (a4 := some (.shr (dN m))) hm ((List.range count).map fun (i : Nat) => (i : Int)) none ((m : Int) % 2147483647 + 1) none [] (by omega) (by omega) (by simp; exact hc) (by simp)
    refine ⟨l', ?_, by rw [h1]; simp, h2⟩
    rw [List.map_map, List.map_nil] at e
    have er : (List.range count).map (PyData.int ∘ fun (i : Nat) => (i : Int)) = (List.range count).map dN := rfl
    rw [er] at e
    simp [List.replicate, hn, hN, h, rng1_n hc, c1, e]
end LC

/-! M77: arches of words as lists of numbers; the shortest word that is not scattered. Plain Lean. -/
namespace M77
def nxt : List Nat → Nat → Option (List Nat)
  | [], _ => none
  | d :: s, c => if d = c then some s else nxt s c
/-- whether w is scattered in s -/
def sub : List Nat → List Nat → Bool
  | [], _ => true
  | _ :: _, [] => false
  | c :: w, d :: s => if d = c then sub w s else sub (c :: w) s
theorem sub_nil (s : List Nat) : sub [] s = true := by cases s <;> rfl
theorem sub_cons (c : Nat) (w : List Nat) : ∀ s, sub (c :: w) s = match nxt s c with | none => false | some s' => sub w s'
  | [] => rfl
  | d :: s => by
    rw [sub, nxt]
    split
    · rfl
    · exact sub_cons c w s
theorem nxt_app {c : Nat} : ∀ {p : List Nat} (s : List Nat), c ∈ p → ∃ q, nxt (p ++ s) c = some (q ++ s)
  | [], _, h => by cases h
  | d :: p, s, h => by
    by_cases e : d = c
    · exact ⟨p, by simp [nxt, e]⟩
    · rcases List.mem_cons.mp h with h | h
      · exact absurd h.symm e
      · obtain ⟨q, hq⟩ := nxt_app s h
        exact ⟨q, by simp [nxt, e, hq]⟩
theorem nxt_new {c : Nat} : ∀ {p : List Nat} (s : List Nat), c ∉ p → nxt (p ++ c :: s) c = some s
  | [], s, _ => by simp [nxt]
  | d :: p, s, h => by
    have h1 : d ≠ c := fun e => h (by rw [e]; exact List.mem_cons_self)
    have h2 : c ∉ p := fun e => h (List.mem_cons_of_mem _ e)
    simp [nxt, h1, nxt_new s h2]
theorem nxt_none {c : Nat} : ∀ {s : List Nat}, nxt s c = none ↔ c ∉ s
  | [] => by simp [nxt]
  | d :: s => by
    by_cases e : d = c
    · simp [nxt, e]
    · have e' : c ≠ d := fun z => e z.symm
      simp [nxt, e, nxt_none (s := s), e']
theorem nxt_len {c : Nat} : ∀ {s s' : List Nat}, nxt s c = some s' → s'.length < s.length
  | [], _, h => by cases h
  | d :: s, s', h => by
    unfold nxt at h
    split at h
    · cases h; simp
    · have := nxt_len h
      simp; omega
theorem nxt_suf {c : Nat} : ∀ {s s' : List Nat}, nxt s c = some s' → ∃ p, s = p ++ c :: s' ∧ c ∉ p
  | [], _, h => by cases h
  | d :: s, s', h => by
    unfold nxt at h
    split at h
    · rename_i e
      cases h
      exact ⟨[], by simp [e], by simp⟩
    · rename_i e
      obtain ⟨p, hp, hc⟩ := nxt_suf h
      exact ⟨d :: p, by rw [hp]; rfl, by
        intro z
        rcases List.mem_cons.mp z with z | z
        · exact e z.symm
        · exact hc z⟩
theorem sub_tail : ∀ (u : List Nat) (a : Nat) (w : List Nat), sub (a :: w) u = true → sub w u = true
  | [], _, _, z => by cases z
  | f :: u, a, w, z => by
    have go : sub w u = true → sub w (f :: u) = true := fun h => by
      cases w with
      | nil => rfl
      | cons b w =>
        rw [sub]
        split
        · exact sub_tail u b w h
        · exact h
    rw [sub] at z
    split at z
    · exact go z
    · exact go (sub_tail u a w z)
theorem sub_pre : ∀ (p : List Nat) {w s : List Nat}, sub w s = true → sub w (p ++ s) = true
  | [], _, _, h => h
  | d :: p, [], s, h => rfl
  | d :: p, c :: w, s, h => by
    show (if d = c then sub w (p ++ s) else sub (c :: w) (p ++ s)) = true
    split
    · exact sub_pre p (sub_tail s c w h)
    · exact sub_pre p h
def ok (k : Nat) (w : List Nat) : Prop := ∀ c ∈ w, c < k
def has (k : Nat) (s : List Nat) : Bool := (List.range k).all fun c => decide (c ∈ s)
theorem has_iff {k : Nat} {s : List Nat} : has k s = true ↔ ∀ c, c < k → c ∈ s := by
  simp [has, List.all_eq_true]
/-- the arches of part ++ s, where part has not all letters, and what is left -/
def arcs (k : Nat) : List Nat → List Nat → List (List Nat) × List Nat
  | part, [] => ([], part)
  | part, c :: s => if has k (part ++ [c]) = true then ((part ++ [c]) :: (arcs k [] s).1, (arcs k [] s).2) else arcs k (part ++ [c]) s
def ar (k : Nat) (s : List Nat) : Nat := (arcs k [] s).1.length
theorem has_nil {k : Nat} (hk : 0 < k) : has k [] = false := by
  cases h : has k [] with
  | false => rfl
  | true => exact absurd (has_iff.mp h 0 hk) (by simp)
theorem all_sub_part {k : Nat} (hk : 0 < k) : ∀ (s part w : List Nat), has k part = false → ok k w → w.length ≤ (arcs k part s).1.length → sub w (part ++ s) = true
  | [], part, w, _, _, hl => by
    have : w = [] := List.eq_nil_of_length_eq_zero (by simpa [arcs] using hl)
    subst this
    exact sub_nil _
  | c :: s, part, w, hp, hw, hl => by
    unfold arcs at hl
    split at hl
    · rename_i hh
      cases w with
      | nil => exact sub_nil _
      | cons d w =>
        have h1 := all_sub_part hk s [] w (has_nil hk) (fun x hx => hw x (List.mem_cons_of_mem _ hx)) (by simpa using hl)
        have hd := has_iff.mp hh d (hw d List.mem_cons_self)
        obtain ⟨q, hq⟩ := nxt_app s hd
        have e : part ++ c :: s = (part ++ [c]) ++ s := by simp
        rw [e, sub_cons, hq]
        exact sub_pre q h1
    · rename_i hh
      have := all_sub_part hk s (part ++ [c]) w (by simpa using hh) hw hl
      simpa using this
theorem some_not_part {k : Nat} (hk : 0 < k) : ∀ (s part : List Nat), has k part = false → ∃ w, ok k w ∧ w.length = (arcs k part s).1.length + 1 ∧ sub w (part ++ s) = false
  | [], part, hp => by
    have : ¬ ∀ c, c < k → c ∈ part := fun z => by rw [has_iff.mpr z] at hp; cases hp
    obtain ⟨c, hc⟩ := Classical.not_forall.mp this
    obtain ⟨h1, h2⟩ := Classical.not_imp.mp hc
    refine ⟨[c], fun x hx => by simp at hx; omega, by simp [arcs], ?_⟩
    rw [List.append_nil, sub_cons, nxt_none.mpr h2]
  | c :: s, part, hp => by
    unfold arcs
    split
    · rename_i hh
      obtain ⟨w, h1, h2, h3⟩ := some_not_part hk s [] (has_nil hk)
      have : ¬ ∀ d, d < k → d ∈ part := fun z => by rw [has_iff.mpr z] at hp; cases hp
      obtain ⟨d, hd⟩ := Classical.not_forall.mp this
      obtain ⟨g1, g2⟩ := Classical.not_imp.mp hd
      have e : d = c := by
        have := has_iff.mp hh d g1
        rcases List.mem_append.mp this with z | z
        · exact absurd z g2
        · simpa using z
      subst e
      refine ⟨d :: w, fun x hx => ?_, by simp [h2], ?_⟩
      · rcases List.mem_cons.mp hx with z | z
        · omega
        · exact h1 x z
      · rw [sub_cons, nxt_new s g2]
        simpa using h3
    · rename_i hh
      obtain ⟨w, h1, h2, h3⟩ := some_not_part hk s (part ++ [c]) (by simpa using hh)
      exact ⟨w, h1, h2, by simpa using h3⟩
theorem all_sub {k : Nat} (hk : 0 < k) {s w : List Nat} (hw : ok k w) (hl : w.length ≤ ar k s) : sub w s = true := by
  simpa using all_sub_part hk s [] w (has_nil hk) hw hl
theorem some_not {k : Nat} (hk : 0 < k) (s : List Nat) : ∃ w, ok k w ∧ w.length = ar k s + 1 ∧ sub w s = false := by
  obtain ⟨w, h1, h2, h3⟩ := some_not_part hk s [] (has_nil hk)
  exact ⟨w, h1, h2, by simpa using h3⟩
theorem ar_next_ge {k : Nat} (hk : 0 < k) {s s' : List Nat} {c : Nat} (hc : c < k) (h : nxt s c = some s') : ar k s ≤ ar k s' + 1 := by
  obtain ⟨w, h1, h2, h3⟩ := some_not hk s'
  refine Nat.le_of_not_lt fun hl => ?_
  have := all_sub hk (s := s) (w := c :: w) (fun x hx => by
    rcases List.mem_cons.mp hx with z | z
    · omega
    · exact h1 x z) (by simp; omega)
  rw [sub_cons, h] at this
  simp only at this
  rw [h3] at this
  cases this
theorem ar_next_le {k : Nat} (hk : 0 < k) {s s' : List Nat} {c : Nat} (hc : c < k) (h : nxt s c = some s') : ar k s' ≤ ar k s := by
  obtain ⟨w, h1, h2, h3⟩ := some_not hk s
  refine Nat.le_of_not_lt fun hl => ?_
  have g := all_sub hk (s := s') (w := w) h1 (by omega)
  obtain ⟨p, hp, _⟩ := nxt_suf h
  have := sub_pre (p ++ [c]) g
  rw [List.append_assoc] at this
  simp only [List.cons_append, List.nil_append] at this
  rw [← hp, h3] at this
  cases this
theorem ar_next_ex {k : Nat} (hk : 0 < k) {s : List Nat} (hh : has k s = true) : ∃ c s', c < k ∧ nxt s c = some s' ∧ ar k s = ar k s' + 1 := by
  obtain ⟨w, h1, h2, h3⟩ := some_not hk s
  cases w with
  | nil => simp at h2
  | cons c w =>
    have hc := h1 c List.mem_cons_self
    rw [sub_cons] at h3
    cases e : nxt s c with
    | none => exact absurd (has_iff.mp hh c hc) (nxt_none.mp e)
    | some s' =>
      rw [e] at h3
      simp only at h3
      refine ⟨c, s', hc, e, ?_⟩
      have g1 := ar_next_ge hk hc e
      have g2 : ar k s' < ar k s := by
        refine Nat.lt_of_not_le fun hl => ?_
        have := all_sub hk (s := s') (w := w) (fun x hx => h1 x (List.mem_cons_of_mem _ hx)) (by simp at h2; omega)
        rw [h3] at this
        cases this
      omega
theorem ar_zero {k : Nat} (hk : 0 < k) {s : List Nat} : has k s = false ↔ ar k s = 0 := by
  constructor
  · intro h
    refine Nat.eq_zero_of_not_pos fun hp => ?_
    have : has k s = true := has_iff.mpr fun c hc => by
      have := all_sub hk (s := s) (w := [c]) (fun x hx => by simp at hx; omega) (by simpa using (show 1 ≤ ar k s from hp))
      rw [sub_cons] at this
      cases e : nxt s c with
      | none => rw [e] at this; cases this
      | some s' =>
        obtain ⟨p, hp, _⟩ := nxt_suf e
        rw [hp]; simp
    rw [h] at this
    cases this
  · intro h
    cases hh : has k s with
    | false => rfl
    | true =>
      obtain ⟨c, s', _, _, e⟩ := ar_next_ex hk hh
      omega
/-- the first word of so many letters more that is not scattered -/
def mw (k : Nat) : Nat → List Nat → List Nat
  | 0, s => [((List.range k).find? fun c => decide (c ∉ s)).getD 0]
  | n + 1, s => match (List.range k).find? fun c => match nxt s c with | some s' => decide (ar k s' = n) | none => false with
    | some c => c :: mw k n ((nxt s c).getD [])
    | none => []
def wordsOf (k : Nat) : Nat → List (List Nat)
  | 0 => [[]]
  | n + 1 => (wordsOf k n).flatMap fun w => (List.range k).map fun c => w ++ [c]
theorem wordsOf_pre (k : Nat) : ∀ n, wordsOf k (n + 1) = (List.range k).flatMap fun c => (wordsOf k n).map fun w => c :: w
  | 0 => by
    show ([[]] : List (List Nat)).flatMap (fun w => (List.range k).map fun c => w ++ [c]) = (List.range k).flatMap fun c => [[c]]
    rw [List.flatMap_cons, List.flatMap_nil, List.append_nil]
    induction (List.range k) with
    | nil => rfl
    | cons a l ih => rw [List.map_cons, List.flatMap_cons, ih]; rfl
  | n + 1 => by
    have ih := wordsOf_pre k n
    have e : wordsOf k (n + 1 + 1) = (wordsOf k (n + 1)).flatMap fun w => (List.range k).map fun c => w ++ [c] := rfl
    rw [e, ih, List.flatMap_assoc]
    congr 1
    funext c
    rw [List.flatMap_map, ← ih]
    have e2 : wordsOf k (n + 1) = (wordsOf k n).flatMap fun w => (List.range k).map fun c => w ++ [c] := rfl
    rw [e2, List.map_flatMap]
    congr 1
    funext w
    rw [List.map_map]
    rfl
theorem wordsOf_ok (k : Nat) : ∀ n w, w ∈ wordsOf k n → ok k w ∧ w.length = n
  | 0, w, h => by
    simp [wordsOf] at h
    subst h
    exact ⟨(fun c hc => by cases hc), rfl⟩
  | n + 1, w, h => by
    simp only [wordsOf, List.mem_flatMap, List.mem_map, List.mem_range] at h
    obtain ⟨v, hv, c, hc, rfl⟩ := h
    obtain ⟨h1, h2⟩ := wordsOf_ok k n v hv
    refine ⟨fun x hx => ?_, by simp [h2]⟩
    rcases List.mem_append.mp hx with z | z
    · exact h1 x z
    · simp at z; omega
theorem first_none {k : Nat} (hk : 0 < k) {n : Nat} {s : List Nat} (h : n ≤ ar k s) : (wordsOf k n).find? (fun w => !sub w s) = none := by
  rw [List.find?_eq_none]
  intro w hw
  obtain ⟨h1, h2⟩ := wordsOf_ok k n w hw
  rw [all_sub hk h1 (by omega)]
  simp
theorem first_is {k : Nat} (hk : 0 < k) : ∀ (n : Nat) (s : List Nat), ar k s = n → (wordsOf k (n + 1)).find? (fun w => !sub w s) = some (mw k n s)
  | 0, s, h => by
    have hh := (ar_zero hk).mpr h
    rw [wordsOf_pre, List.find?_flatMap]
    have e : ∀ c, ((wordsOf k 0).map fun w => c :: w).find? (fun w => !sub w s) = if c ∈ s then none else some [c] := fun c => by
      simp only [wordsOf, List.map_cons, List.map_nil, List.find?_cons, List.find?_nil]
      rw [sub_cons]
      by_cases hc : c ∈ s
      · rw [if_pos hc]
        cases q : nxt s c with
        | none => exact absurd hc (nxt_none.mp q)
        | some s' => simp [sub_nil]
      · rw [if_neg hc, nxt_none.mpr hc]
        simp
    simp only [e]
    unfold mw
    have : ∃ c ∈ List.range k, c ∉ s := by
      refine Classical.byContradiction fun z => ?_
      have : has k s = true := has_iff.mpr fun c hc => Classical.byContradiction fun y => z ⟨c, List.mem_range.mpr hc, y⟩
      rw [hh] at this
      cases this
    revert this
    generalize List.range k = l
    induction l with
    | nil => rintro ⟨c, hc, _⟩; cases hc
    | cons a l ih =>
      intro hx
      by_cases ha : a ∈ s
      · rw [List.findSome?_cons, if_pos ha, List.find?_cons]
        simp only [ha, not_true_eq_false, decide_false]
        refine ih ?_
        obtain ⟨c, hc, hs⟩ := hx
        rcases List.mem_cons.mp hc with z | z
        · rw [z] at hs; exact absurd ha hs
        · exact ⟨c, z, hs⟩
      · rw [List.findSome?_cons, if_neg ha, List.find?_cons]
        simp [ha]
  | n + 1, s, h => by
    have hh : has k s = true := by
      cases q : has k s with
      | true => rfl
      | false => have := (ar_zero hk).mp q; omega
    rw [wordsOf_pre, List.find?_flatMap]
    have e : ∀ c, c < k → ((wordsOf k (n + 1)).map fun w => c :: w).find? (fun w => !sub w s) = match nxt s c with
        | some s' => if ar k s' = n then some (c :: mw k n s') else none
        | none => none := fun c hc => by
      rw [List.find?_map]
      cases q : nxt s c with
      | none => exact absurd (has_iff.mp hh c hc) (nxt_none.mp q)
      | some s' =>
        have f : ((fun w => !sub w s) ∘ fun w => c :: w) = fun w => !sub w s' := by
          funext w
          show (!sub (c :: w) s) = _
          rw [sub_cons, q]
        rw [f]
        have g1 := ar_next_ge hk hc q
        by_cases ha : ar k s' = n
        · simp only [ha, if_true]
          rw [first_is hk n s' ha]
          rfl
        · simp only [if_neg ha]
          rw [first_none hk (by omega)]
          rfl
    obtain ⟨c0, s0, hc0, hn0, ha0⟩ := ar_next_ex hk hh
    have key : ∀ l : List Nat, (∀ c ∈ l, c < k) → (∃ c ∈ l, ∃ s', nxt s c = some s' ∧ ar k s' = n) →
        l.findSome? (fun c => ((wordsOf k (n + 1)).map fun w => c :: w).find? (fun w => !sub w s)) = some (match l.find? (fun c => match nxt s c with | some s' => decide (ar k s' = n) | none => false) with
          | some c => c :: mw k n ((nxt s c).getD [])
          | none => []) := by
      intro l
      induction l with
      | nil => rintro _ ⟨c, hc, _⟩; cases hc
      | cons a l ih =>
        intro hl hx
        rw [List.findSome?_cons, e a (hl a List.mem_cons_self), List.find?_cons]
        cases q : nxt s a with
        | none =>
          simp only
          refine ih (fun c hc => hl c (List.mem_cons_of_mem _ hc)) ?_
          obtain ⟨c, hc, s', h1, h2⟩ := hx
          rcases List.mem_cons.mp hc with z | z
          · rw [z, q] at h1; cases h1
          · exact ⟨c, z, s', h1, h2⟩
        | some s' =>
          by_cases ha : ar k s' = n
          · simp [ha, q]
          · simp only [ha, if_false, decide_false]
            refine ih (fun c hc => hl c (List.mem_cons_of_mem _ hc)) ?_
            obtain ⟨c, hc, s1, h1, h2⟩ := hx
            rcases List.mem_cons.mp hc with z | z
            · rw [z, q] at h1; cases h1; exact absurd h2 ha
            · exact ⟨c, z, s1, h1, h2⟩
    have := key (List.range k) (fun c hc => List.mem_range.mp hc) ⟨c0, List.mem_range.mpr hc0, s0, hn0, by omega⟩
    rw [this]
    rfl
theorem mw_ok {k : Nat} (hk : 0 < k) {s : List Nat} : ok k (mw k (ar k s) s) ∧ (mw k (ar k s) s).length = ar k s + 1 ∧ sub (mw k (ar k s) s) s = false := by
  have h := first_is hk (ar k s) s rfl
  have h1 := wordsOf_ok k _ _ (List.mem_of_find?_eq_some h)
  have h2 := List.find?_some h
  exact ⟨h1.1, h1.2, by simpa using h2⟩
end M77

set_option Elab.async false
set_option linter.all false
set_option maxRecDepth 100000
set_option maxHeartbeats 4000000
namespace LC
open PySem L2 DV M77
theorem law_word_eq {l : List Nat} {k : Nat} (hk : 0 < k) (hk3 : k ≤ 3) (hl : l.length ≤ 16777216) : F_law_word [.list (l.map dN), dN k] = some (dW (l.map (· % k))) := by
  rw [F_law_word, callF_2, b_law_word]
  have st : ∀ x ∈ l, o2 ixD (eC (dW [0, 1, 2])) (o2 modD (eW 2) (eW 1)) ([some (.shr (.list (l.map dN))), some (.shr (dN k)), none].set 2 (some (.shr (dN x)))) = some (dW [x % k]) := fun x _ => by
    have c1 := mod_ii (i := (x : Int)) (j := (k : Int)) (by omega)
    have hm : x % k < k := Nat.mod_lt _ hk
    have e : (x : Int) % (k : Int) = ((x % k : Nat) : Int) := by omega
    have c2 := ix_wd (l := [0, 1, 2]) (i := x % k) (by simp; omega) (by decide)
    have c3 : ([0, 1, 2] : List Nat)[x % k]'(by simp; omega) = x % k := by
      have : x % k = 0 ∨ x % k = 1 ∨ x % k = 2 := by omega
      rcases this with z | z | z <;> simp [z]
    rw [c3, ← e] at c2
    simp [c1, c2]
  have lc := lcL_map (a := o2 ixD (eC (dW [0, 1, 2])) (o2 modD (eW 2) (eW 1))) (ρ := [some (.shr (.list (l.map dN))), some (.shr (dN k)), none]) (i := 2) dN (fun x => dW [x % k]) l st
  have e2 : l.map (fun x => dW [x % k]) = (l.map fun x => [x % k]).map dW := by rw [List.map_map]; rfl
  rw [e2] at lc
  have hs : ((l.map fun x => [x % k]).map (·.length)).sum ≤ 16777216 := by
    rw [List.map_map]
    show (l.map fun _ => 1).sum ≤ _
    rw [List.map_const', List.sum_replicate_nat]
    omega
  have hf : (l.map fun x => [x % k]).flatten = l.map (· % k) := by
    clear st lc e2 hs hl
    induction l with
    | nil => rfl
    | cons a l ih => simp [ih]
  have j := join_wd (l.map fun x => [x % k]) hs
  rw [hf] at j
  simp only [List.map_map] at lc j
  simp [List.replicate, abc_wd, nil_wd, itemsD, lcO_s, hl, lc, j]
/-! ### all words of at most a length -/
def upTo (k n : Nat) : List (List Nat) := (List.range (n + 1)).flatMap (M77.wordsOf k)
theorem inner {a0 a1 a2 a3 a4 : Option Sl} {w : List Nat} (hw : w.length + 1 ≤ 16777216) : ∀ (cs : List Nat) (o : Option Sl) (acc : List D), acc.length + cs.length ≤ 16777216 →
    ∃ o', forL (gN 7) L1_law_words (cs.map fun c => dW [c]) [a0, a1, a2, a3, a4, some (.own (.list acc)), some (.shr (dW w)), o] =
      some (.nx [a0, a1, a2, a3, a4, some (.own (.list (acc ++ cs.map fun c => dW (w ++ [c])))), some (.shr (dW w)), o'])
  | [], o, acc, _ => ⟨o, by simp [forL_nil]⟩
  | c :: cs, o, acc, h => by
    simp at h
    obtain ⟨o', e⟩ := inner (a0 := a0) (a1 := a1) (a2 := a2) (a3 := a3) (a4 := a4) hw cs (some (.shr (dW [c]))) (acc ++ [dW (w ++ [c])]) (by simp; omega)
    refine ⟨o', ?_⟩
    rw [List.map_cons, forL_cons]
    have st : L1_law_words ([a0, a1, a2, a3, a4, some (.own (.list acc)), some (.shr (dW w)), o].set 7 (some (.shr (dW [c])))) = some (.nx [a0, a1, a2, a3, a4, some (.own (.list (acc ++ [dW (w ++ [c])]))), some (.shr (dW w)), some (.shr (dW [c]))]) := by
      have c1 := add_wd (l := w) (m := [c]) (by simpa using hw)
      have c2 := appS_s (i := 5) (d := dW (w ++ [c])) (ρ := [a0, a1, a2, a3, a4, some (.own (.list acc)), some (.shr (dW w)), some (.shr (dW [c]))]) (ds := acc) (by omega)
      simp [L1_law_words, c1, c2]
    rw [st, turnS_nx, e]
    simp
theorem middle {a1 a2 a3 a4 : Option Sl} {k n : Nat} (hk : k ≤ 3) (hn : n ≤ 1000) : ∀ (ws : List (List Nat)) (o6 o7 : Option Sl) (acc : List D), (∀ w ∈ ws, w.length = n) → acc.length + ws.length * k ≤ 16777216 →
    ∃ o6' o7', forL (gN 6) L2_law_words (ws.map dW) [some (.shr (dN k)), a1, a2, a3, a4, some (.own (.list acc)), o6, o7] =
      some (.nx [some (.shr (dN k)), a1, a2, a3, a4, some (.own (.list (acc ++ (ws.flatMap fun w => (List.range k).map fun c => w ++ [c]).map dW))), o6', o7'])
  | [], o6, o7, acc, _, _ => ⟨o6, o7, by simp [forL_nil]⟩
  | w :: ws, o6, o7, acc, hw, h => by
    have hw1 := hw w List.mem_cons_self
    rw [List.length_cons, Nat.succ_mul] at h
    obtain ⟨o7', e1⟩ := inner (a0 := some (.shr (dN k))) (a1 := a1) (a2 := a2) (a3 := a3) (a4 := a4) (w := w) (by omega) (List.range k) o7 acc (by simp; omega)
    obtain ⟨o6'', o7'', e2⟩ := middle (a1 := a1) (a2 := a2) (a3 := a3) (a4 := a4) hk hn ws (some (.shr (dW w))) o7' (acc ++ (List.range k).map fun c => dW (w ++ [c])) (fun x hx => hw x (List.mem_cons_of_mem _ hx)) (by simp; omega)
    refine ⟨o6'', o7'', ?_⟩
    rw [List.map_cons, forL_cons]
    have st : L2_law_words ([some (.shr (dN k)), a1, a2, a3, a4, some (.own (.list acc)), o6, o7].set 6 (some (.shr (dW w)))) = some (.nx [some (.shr (dN k)), a1, a2, a3, a4, some (.own (.list (acc ++ (List.range k).map fun c => dW (w ++ [c])))), some (.shr (dW w)), o7']) := by
      have c1 := abc_itm hk
      simp [L2_law_words, abc_wd, c1, e1]
    rw [st, turnS_nx, e2]
    simp [Function.comp_def]
theorem wordsOf_len (k : Nat) : ∀ n, (M77.wordsOf k n).length = k ^ n
  | 0 => rfl
  | n + 1 => by
    have := wordsOf_len k n
    simp only [M77.wordsOf, List.length_flatMap, List.length_map, List.length_range]
    rw [List.map_const', List.sum_replicate_nat, this, Nat.pow_succ]
theorem upTo_succ (k n : Nat) : upTo k (n + 1) = upTo k n ++ M77.wordsOf k (n + 1) := by
  unfold upTo
  rw [List.range_succ (n := n + 1), List.flatMap_append]
  simp
def cnt (k : Nat) : Nat → Nat
  | 0 => 1
  | n + 1 => cnt k n + k ^ (n + 1)
theorem upTo_len (k : Nat) : ∀ n, (upTo k n).length = cnt k n
  | 0 => by simp [upTo, M77.wordsOf, cnt]
  | n + 1 => by rw [upTo_succ, List.length_append, upTo_len k n, wordsOf_len]; rfl
theorem outer {k n : Nat} {a1 : Option Sl} (hk : k ≤ 3) (hn : n ≤ 1000) (hc : cnt k n ≤ 16777216) : ∀ (m i : Nat) (o4 o5 o6 o7 : Option Sl), i + m = n →
    ∃ (a2 : Option Sl) (o3' o4' o5' o6' o7' : Option Sl), forL (gN 4) L3_law_words ((List.range' i m).map dN) [some (.shr (dN k)), a1, some (.shr (.list ((upTo k i).map dW))), some (.shr (.list ((M77.wordsOf k i).map dW))), o4, o5, o6, o7] =
      some (.nx [some (.shr (dN k)), a1, some (.shr (.list ((upTo k n).map dW))), o3', o4', o5', o6', o7'])
  | 0, i, o4, o5, o6, o7, h => ⟨none, _, o4, o5, o6, o7, by
      have : i = n := by omega
      subst this
      simp [forL_nil]
      rfl⟩
  | m + 1, i, o4, o5, o6, o7, h => by
    have mono : ∀ a b, cnt k a ≤ cnt k (a + b) := fun a b => by
      induction b with
      | zero => exact Nat.le_refl _
      | succ b ih => exact Nat.le_trans ih (Nat.le_add_right _ _)
    have h1 : cnt k (i + 1) ≤ 16777216 := by
      have := mono (i + 1) m
      rw [show i + 1 + m = n by omega] at this
      omega
    have h2 : cnt k (i + 1) = cnt k i + k ^ (i + 1) := rfl
    have hwl : (M77.wordsOf k i).length * k = k ^ (i + 1) := by rw [wordsOf_len, Nat.pow_succ]
    obtain ⟨o6', o7', e1⟩ := middle (a1 := a1) (a2 := some (.shr (.list ((upTo k i).map dW)))) (a3 := some (.shr (.list ((M77.wordsOf k i).map dW)))) (a4 := some (.shr (dN i))) (n := i) hk (by omega) (M77.wordsOf k i) o6 o7 [] (fun w hw => (wordsOf_ok k i w hw).2) (by rw [hwl]; simp; omega)
    obtain ⟨a2, o3', o4', o5', o6'', o7'', e2⟩ := outer (a1 := a1) hk hn hc m (i + 1) (some (.shr (dN i))) (some (.shr (.list ((M77.wordsOf k (i + 1)).map dW)))) o6' o7' (by omega)
    refine ⟨a2, o3', o4', o5', o6'', o7'', ?_⟩
    rw [List.range'_succ, List.map_cons, forL_cons]
    have ew : (M77.wordsOf k i).flatMap (fun w => (List.range k).map fun c => w ++ [c]) = M77.wordsOf k (i + 1) := rfl
    rw [ew, List.nil_append] at e1
    have st : L3_law_words ([some (.shr (dN k)), a1, some (.shr (.list ((upTo k i).map dW))), some (.shr (.list ((M77.wordsOf k i).map dW))), o4, o5, o6, o7].set 4 (some (.shr (dN i)))) =
        some (.nx [some (.shr (dN k)), a1, some (.shr (.list ((upTo k (i + 1)).map dW))), some (.shr (.list ((M77.wordsOf k (i + 1)).map dW))), some (.shr (dN i)), some (.shr (.list ((M77.wordsOf k (i + 1)).map dW))), o6', o7']) := by
      have c1 : addD (.list ((upTo k i).map dW)) (.list ((M77.wordsOf k (i + 1)).map dW)) = some (.list ((upTo k (i + 1)).map dW)) := by
        simp only [addD]
        rw [if_pos (by rw [sizeLine_eq, List.length_map, List.length_map, upTo_len, wordsOf_len]; omega), upTo_succ, List.map_append]
      simp [L3_law_words, itemsD, e1, c1]
    rw [st, turnS_nx, e2]
theorem law_words_eq {k n : Nat} (hk : k ≤ 3) (hn : n ≤ 1000) (hc : cnt k n ≤ 16777216) : F_law_words [dN k, dN n] = some (.list ((upTo k n).map dW)) := by
  rw [F_law_words, callF_2, b_law_words]
  obtain ⟨_, o3, o4, o5, o6, o7, e⟩ := outer (a1 := some (.shr (dN n))) hk hn hc n 0 none none none none (by omega)
  have e0 : upTo k 0 = [[]] := by simp [upTo, M77.wordsOf]
  have e1 : M77.wordsOf k 0 = [[]] := rfl
  rw [e0, e1, ← List.range_eq_range'] at e
  simp at e
  simp [List.replicate, nil_wd, rng1_n (show n ≤ 16777216 by omega), e]
/-! ### scattered -/
theorem scat_loop {w : List Nat} {a1 : Option Sl} (hw : w.length ≤ 16777216) : ∀ (t : List Nat) (i : Nat) (o : Option Sl), i ≤ w.length →
    ∃ (j : Nat) (o' : Option Sl), forL (gN 3) L1_law_scattered (t.map fun c => dW [c]) [some (.shr (dW w)), a1, some (.shr (dN i)), o] = some (.nx [some (.shr (dW w)), a1, some (.shr (dN j)), o']) ∧ j ≤ w.length ∧ (j = w.length ↔ sub (w.drop i) t = true)
  | [], i, o, hi => ⟨i, o, rfl, hi, by
      by_cases h : i = w.length
      · subst h; simp [sub_nil]
      · have hlt : i < w.length := by omega
        rw [List.drop_eq_getElem_cons hlt]
        simp [sub, h]⟩
  | c :: t, i, o, hi => by
    rw [List.map_cons, forL_cons]
    by_cases h : i < w.length
    · have c1 := len_wd hw
      have c2 := ix_wd h hw
      by_cases hc : w[i] = c
      · obtain ⟨j, o', e, h1, h2⟩ := scat_loop (a1 := a1) hw t (i + 1) (some (.shr (dW [c]))) h
        refine ⟨j, o', ?_, h1, ?_⟩
        · have st : L1_law_scattered ([some (.shr (dW w)), a1, some (.shr (dN i)), o].set 3 (some (.shr (dW [c])))) = some (.nx [some (.shr (dW w)), a1, some (.shr (dN (i + 1))), some (.shr (dW [c]))]) := by
            simp [L1_law_scattered, c1, c2, eq_wd, h, hc]
          rw [st, turnS_nx, e]
        · rw [h2, List.drop_eq_getElem_cons h]
          simp [sub, hc]
      · obtain ⟨j, o', e, h1, h2⟩ := scat_loop (a1 := a1) hw t i (some (.shr (dW [c]))) hi
        refine ⟨j, o', ?_, h1, ?_⟩
        · have st : L1_law_scattered ([some (.shr (dW w)), a1, some (.shr (dN i)), o].set 3 (some (.shr (dW [c])))) = some (.nx [some (.shr (dW w)), a1, some (.shr (dN i)), some (.shr (dW [c]))]) := by
            simp [L1_law_scattered, c1, c2, eq_wd, h, hc]
          rw [st, turnS_nx, e]
        · have hc' : ¬ c = w[i] := fun z => hc z.symm
          rw [h2, List.drop_eq_getElem_cons h]
          simp [sub, hc']
    · have ei : i = w.length := by omega
      obtain ⟨j, o', e, h1, h2⟩ := scat_loop (a1 := a1) hw t i (some (.shr (dW [c]))) hi
      refine ⟨j, o', ?_, h1, ?_⟩
      · have c1 := len_wd hw
        have st : L1_law_scattered ([some (.shr (dW w)), a1, some (.shr (dN i)), o].set 3 (some (.shr (dW [c])))) = some (.nx [some (.shr (dW w)), a1, some (.shr (dN i)), some (.shr (dW [c]))]) := by
          simp [L1_law_scattered, c1, h]
        rw [st, turnS_nx, e]
      · rw [h2, ei]
        simp [sub_nil]
theorem law_scattered_eq {w t : List Nat} (hw : w.length ≤ 16777216) : F_law_scattered [dW w, dW t] = some (.bool (sub w t)) := by
  rw [F_law_scattered, callF_2, b_law_scattered]
  obtain ⟨j, o', e, h1, h2⟩ := scat_loop (a1 := some (.shr (dW t))) hw t 0 none (by omega)
  have c1 := len_wd hw
  have c2 : decide ((j : Int) = (w.length : Int)) = sub w t := by
    rw [Bool.eq_iff_iff, decide_eq_true_iff]
    rw [List.drop_zero] at h2
    rw [← h2]
    omega
  rw [show dN 0 = PyData.int 0 from rfl] at e
  simp [List.replicate, items_wd, e, c1]
  by_cases h : j = w.length
  · have := h2.mp h
    simp_all
  · have : sub w t = false := by
      cases q : sub w t with
      | false => rfl
      | true => exact absurd (h2.mpr (by simpa using q)) h
    simp_all
end LC

set_option Elab.async false
set_option linter.all false
set_option maxRecDepth 100000
set_option maxHeartbeats 4000000
namespace LC
open PySem L2 DV
theorem kb_NoneType_bool : kitB "NoneType" "bool" = some false := by decide +kernel
@[simp] theorem isi_NoneType_bool : isiD "bool" .none = some (.bool false) := by
  show (kitB "NoneType" "bool").map _ = _
  rw [kb_NoneType_bool]
  rfl
theorem kb_bool_bool : kitB "bool" "bool" = some true := by decide +kernel
@[simp] theorem isi_bool_bool {b : Bool} : isiD "bool" (.bool b) = some (.bool true) := by
  show (kitB "bool" "bool").map _ = _
  rw [kb_bool_bool]
  rfl
theorem kb_int_bool : kitB "int" "bool" = some false := by decide +kernel
@[simp] theorem isi_int_bool {i : Int} : isiD "bool" (.int i) = some (.bool false) := by
  show (kitB "int" "bool").map _ = _
  rw [kb_int_bool]
  rfl
theorem kb_str_bool : kitB "str" "bool" = some false := by decide +kernel
@[simp] theorem isi_str_bool {x : Str} : isiD "bool" (.str x) = some (.bool false) := by
  show (kitB "str" "bool").map _ = _
  rw [kb_str_bool]
  rfl
theorem kb_list_bool : kitB "list" "bool" = some false := by decide +kernel
@[simp] theorem isi_list_bool {ds : List D} : isiD "bool" (.list ds) = some (.bool false) := by
  show (kitB "list" "bool").map _ = _
  rw [kb_list_bool]
  rfl
theorem kb_tuple_bool : kitB "tuple" "bool" = some false := by decide +kernel
@[simp] theorem isi_tuple_bool {ds : List D} : isiD "bool" (.tuple ds) = some (.bool false) := by
  show (kitB "tuple" "bool").map _ = _
  rw [kb_tuple_bool]
  rfl
theorem kb_NoneType_int : kitB "NoneType" "int" = some false := by decide +kernel
@[simp] theorem isi_NoneType_int : isiD "int" .none = some (.bool false) := by
  show (kitB "NoneType" "int").map _ = _
  rw [kb_NoneType_int]
  rfl
theorem kb_bool_int : kitB "bool" "int" = some true := by decide +kernel
@[simp] theorem isi_bool_int {b : Bool} : isiD "int" (.bool b) = some (.bool true) := by
  show (kitB "bool" "int").map _ = _
  rw [kb_bool_int]
  rfl
theorem kb_int_int : kitB "int" "int" = some true := by decide +kernel
@[simp] theorem isi_int_int {i : Int} : isiD "int" (.int i) = some (.bool true) := by
  show (kitB "int" "int").map _ = _
  rw [kb_int_int]
  rfl
theorem kb_str_int : kitB "str" "int" = some false := by decide +kernel
@[simp] theorem isi_str_int {x : Str} : isiD "int" (.str x) = some (.bool false) := by
  show (kitB "str" "int").map _ = _
  rw [kb_str_int]
  rfl
theorem kb_list_int : kitB "list" "int" = some false := by decide +kernel
@[simp] theorem isi_list_int {ds : List D} : isiD "int" (.list ds) = some (.bool false) := by
  show (kitB "list" "int").map _ = _
  rw [kb_list_int]
  rfl
theorem kb_tuple_int : kitB "tuple" "int" = some false := by decide +kernel
@[simp] theorem isi_tuple_int {ds : List D} : isiD "int" (.tuple ds) = some (.bool false) := by
  show (kitB "tuple" "int").map _ = _
  rw [kb_tuple_int]
  rfl
theorem kb_NoneType_str : kitB "NoneType" "str" = some false := by decide +kernel
@[simp] theorem isi_NoneType_str : isiD "str" .none = some (.bool false) := by
  show (kitB "NoneType" "str").map _ = _
  rw [kb_NoneType_str]
  rfl
theorem kb_bool_str : kitB "bool" "str" = some false := by decide +kernel
@[simp] theorem isi_bool_str {b : Bool} : isiD "str" (.bool b) = some (.bool false) := by
  show (kitB "bool" "str").map _ = _
  rw [kb_bool_str]
  rfl
theorem kb_int_str : kitB "int" "str" = some false := by decide +kernel
@[simp] theorem isi_int_str {i : Int} : isiD "str" (.int i) = some (.bool false) := by
  show (kitB "int" "str").map _ = _
  rw [kb_int_str]
  rfl
theorem kb_str_str : kitB "str" "str" = some true := by decide +kernel
@[simp] theorem isi_str_str {x : Str} : isiD "str" (.str x) = some (.bool true) := by
  show (kitB "str" "str").map _ = _
  rw [kb_str_str]
  rfl
theorem kb_list_str : kitB "list" "str" = some false := by decide +kernel
@[simp] theorem isi_list_str {ds : List D} : isiD "str" (.list ds) = some (.bool false) := by
  show (kitB "list" "str").map _ = _
  rw [kb_list_str]
  rfl
theorem kb_tuple_str : kitB "tuple" "str" = some false := by decide +kernel
@[simp] theorem isi_tuple_str {ds : List D} : isiD "str" (.tuple ds) = some (.bool false) := by
  show (kitB "tuple" "str").map _ = _
  rw [kb_tuple_str]
  rfl
theorem kb_NoneType_list : kitB "NoneType" "list" = some false := by decide +kernel
@[simp] theorem isi_NoneType_list : isiD "list" .none = some (.bool false) := by
  show (kitB "NoneType" "list").map _ = _
  rw [kb_NoneType_list]
  rfl
theorem kb_bool_list : kitB "bool" "list" = some false := by decide +kernel
@[simp] theorem isi_bool_list {b : Bool} : isiD "list" (.bool b) = some (.bool false) := by
  show (kitB "bool" "list").map _ = _
  rw [kb_bool_list]
  rfl
theorem kb_int_list : kitB "int" "list" = some false := by decide +kernel
@[simp] theorem isi_int_list {i : Int} : isiD "list" (.int i) = some (.bool false) := by
  show (kitB "int" "list").map _ = _
  rw [kb_int_list]
  rfl
theorem kb_str_list : kitB "str" "list" = some false := by decide +kernel
@[simp] theorem isi_str_list {x : Str} : isiD "list" (.str x) = some (.bool false) := by
  show (kitB "str" "list").map _ = _
  rw [kb_str_list]
  rfl
theorem kb_list_list : kitB "list" "list" = some true := by decide +kernel
@[simp] theorem isi_list_list {ds : List D} : isiD "list" (.list ds) = some (.bool true) := by
  show (kitB "list" "list").map _ = _
  rw [kb_list_list]
  rfl
theorem kb_tuple_list : kitB "tuple" "list" = some false := by decide +kernel
@[simp] theorem isi_tuple_list {ds : List D} : isiD "list" (.tuple ds) = some (.bool false) := by
  show (kitB "tuple" "list").map _ = _
  rw [kb_tuple_list]
  rfl
theorem kb_NoneType_tuple : kitB "NoneType" "tuple" = some false := by decide +kernel
@[simp] theorem isi_NoneType_tuple : isiD "tuple" .none = some (.bool false) := by
  show (kitB "NoneType" "tuple").map _ = _
  rw [kb_NoneType_tuple]
  rfl
theorem kb_bool_tuple : kitB "bool" "tuple" = some false := by decide +kernel
@[simp] theorem isi_bool_tuple {b : Bool} : isiD "tuple" (.bool b) = some (.bool false) := by
  show (kitB "bool" "tuple").map _ = _
  rw [kb_bool_tuple]
  rfl
theorem kb_int_tuple : kitB "int" "tuple" = some false := by decide +kernel
@[simp] theorem isi_int_tuple {i : Int} : isiD "tuple" (.int i) = some (.bool false) := by
  show (kitB "int" "tuple").map _ = _
  rw [kb_int_tuple]
  rfl
theorem kb_str_tuple : kitB "str" "tuple" = some false := by decide +kernel
@[simp] theorem isi_str_tuple {x : Str} : isiD "tuple" (.str x) = some (.bool false) := by
  show (kitB "str" "tuple").map _ = _
  rw [kb_str_tuple]
  rfl
theorem kb_list_tuple : kitB "list" "tuple" = some false := by decide +kernel
@[simp] theorem isi_list_tuple {ds : List D} : isiD "tuple" (.list ds) = some (.bool false) := by
  show (kitB "list" "tuple").map _ = _
  rw [kb_list_tuple]
  rfl
theorem kb_tuple_tuple : kitB "tuple" "tuple" = some true := by decide +kernel
@[simp] theorem isi_tuple_tuple {ds : List D} : isiD "tuple" (.tuple ds) = some (.bool true) := by
  show (kitB "tuple" "tuple").map _ = _
  rw [kb_tuple_tuple]
  rfl

@[simp] theorem eq_bb {a b : Bool} : eqD (.bool a) (.bool b) = some (.bool (decide (a = b))) := rfl
@[simp] theorem eq_ss {a b : Str} : eqD (.str a) (.str b) = some (.bool (decide (a = b))) := rfl
@[simp] theorem eq_nn : eqD .none .none = some (.bool true) := rfl
@[simp] theorem ne_bb {a b : Bool} : neD (.bool a) (.bool b) = some (.bool (!decide (a = b))) := rfl
@[simp] theorem is_n {d : D} : isD d .none = some (.bool (isNb d)) := by
  cases d <;> rfl
@[simp] theorem isn_n {d : D} : isnD d .none = some (.bool (!isNb d)) := by
  cases d <;> rfl
/-- data that _law_same goes through in so many levels -/
def plain : Nat → D → Prop
  | 0, _ => False
  | n + 1, d => match d with
    | .list ds => ds.length ≤ 16777216 ∧ ∀ x ∈ ds, plain n x
    | .tuple ds => ds.length ≤ 16777216 ∧ ∀ x ∈ ds, plain n x
    | .dict _ => False
    | _ => True
theorem plain_list {n : Nat} {ds : List D} : plain (n + 1) (.list ds) ↔ ds.length ≤ 16777216 ∧ ∀ x ∈ ds, plain n x := Iff.rfl
theorem plain_tuple {n : Nat} {ds : List D} : plain (n + 1) (.tuple ds) ↔ ds.length ≤ 16777216 ∧ ∀ x ∈ ds, plain n x := Iff.rfl
theorem rngN {count : Nat} (h : count ≤ 16777216) : rng1 [.int (count : Int)] = some ((List.range count).map fun (i : Nat) => PyData.int (i : Int)) := by
  rw [rng1_i (by omega) (by omega), Int.toNat_natCast]
  simp [rngL]
theorem same_loop {rec : List D → Option D} {x : D} {ds : List D} (hx : ∀ (i : Nat) d, ds[i]? = some d → ixD x (.int (i : Int)) = some d) (hr : ∀ d ∈ ds, rec [d, d] = some (.bool true)) : ∀ (is : List Nat) (o : Option Sl), (∀ i ∈ is, i < ds.length) →
    ∃ o', forL (gN 2) (L1_law_same rec) (is.map fun (i : Nat) => PyData.int (i : Int)) [some (.shr x), some (.shr x), o] = some (.nx [some (.shr x), some (.shr x), o'])
  | [], o, _ => ⟨o, rfl⟩
  | i :: is, o, hi => by
    have hl := hi i List.mem_cons_self
    have hd : ds[i]? = some ds[i] := List.getElem?_eq_getElem hl
    obtain ⟨o', e⟩ := same_loop hx hr is (some (.shr (.int (i : Int)))) fun j hj => hi j (List.mem_cons_of_mem _ hj)
    refine ⟨o', ?_⟩
    rw [List.map_cons, forL_cons]
    have st : L1_law_same rec ([some (.shr x), some (.shr x), o].set 2 (some (.shr (.int (i : Int))))) = some (.nx [some (.shr x), some (.shr x), some (.shr (.int (i : Int)))]) := by
      have c1 := hx i _ hd
      have c2 := hr _ (List.getElem_mem hl)
      simp [L1_law_same, c1, c2]
    rw [st, turnS_nx, e]
theorem law_same_eq : ∀ (n : Nat) (d : D), plain n d → F_law_same n [d, d] = some (.bool true)
  | 0, _, h => h.elim
  | n + 1, d, h => by
    rw [F_law_same, callF_2, b_law_same]
    cases d with
    | none => simp [List.replicate, isNb]
    | bool b => simp [List.replicate, isNb]
    | int i => simp [List.replicate, isNb]
    | str x => simp [List.replicate, isNb]
    | dict kvs => exact h.elim
    | list ds =>
      obtain ⟨h1, h2⟩ := h
      obtain ⟨o', e⟩ := same_loop (rec := F_law_same n) (x := .list ds) (ds := ds) (fun i d => ix_l) (fun d hd => law_same_eq n d (h2 d hd)) (List.range ds.length) none (fun i hi => List.mem_range.mp hi)
      simp [List.replicate, isNb, rngN h1, e]
    | tuple ds =>
      obtain ⟨h1, h2⟩ := h
      obtain ⟨o', e⟩ := same_loop (rec := F_law_same n) (x := .tuple ds) (ds := ds) (fun i d => ix_t) (fun d hd => law_same_eq n d (h2 d hd)) (List.range ds.length) none (fun i hi => List.mem_range.mp hi)
      simp [List.replicate, isNb, rngN h1, e]
end LC

set_option Elab.async false
set_option linter.all false
noncomputable section
namespace LD
open PySem L2 DV
def L1_law_subwords : FS :=
    (sIf (toT (eCall LC.F_law_scattered (lC (o2 addD (eW 7) (eW 8)) (lC (eV 2) lN)))) (sApp 6 (o2 addD (eW 7) (eW 8))) sNx)
def L2_law_subwords : FS :=
    (sFor (iAny (eSl (eC (.str "abc")) pN (pS (eV 1)))) (gN 8) L1_law_subwords)
def L3_law_subwords : FS :=
    (sSeq (sOwn 6 (eLst lN))
    (sSeq (sFor (iAny (eV 4)) (gN 7) L2_law_subwords)
    (sSeq (sAsg (o2 addD (eW 3) (eW 6)) (gN 3))
    (sFrz 6 (sAsg (eV 6) (gN 4))))))
def b_law_subwords : FS :=
    (sSeq (sAsg (eLst (lC (eC (.str "")) lN)) (gN 3))
    (sSeq (sAsg (eLst (lC (eC (.str "")) lN)) (gN 4))
    (sSeq (sFor (iCall rng1 (lC (eCall minF (lC (eW 0) (lC (eCall lenF (lC (eW 2) lN)) lN))) lN)) (gN 5) L3_law_subwords)
    (sRet (eCall tupF (lC (eW 3) lN))))))
def F_law_subwords : List D → Option D := callF 9 3 b_law_subwords
end LD
end

set_option Elab.async false
set_option linter.all false
/-! M79: scattered words of joined texts; words that have the same scattered words of few letters. -/
namespace M79
open M77
theorem sub_nil' (s : List Nat) : sub [] s = true := by cases s <;> rfl
theorem sub_split : ∀ {w x y : List Nat}, sub w (x ++ y) = true ↔ ∃ u v, w = u ++ v ∧ sub u x = true ∧ sub v y = true
  | w, [], y => by
    constructor
    · intro h
      exact ⟨[], w, rfl, rfl, h⟩
    · rintro ⟨u, v, rfl, h1, h2⟩
      cases u with
      | nil => exact h2
      | cons a u => cases h1
  | [], d :: x, y => ⟨fun _ => ⟨[], [], rfl, rfl, sub_nil' _⟩, fun _ => rfl⟩
  | c :: w, d :: x, y => by
    rw [List.cons_append, sub]
    by_cases e : d = c
    · rw [if_pos e, sub_split]
      subst e
      constructor
      · rintro ⟨u, v, rfl, h1, h2⟩
        exact ⟨d :: u, v, rfl, by rw [sub, if_pos rfl]; exact h1, h2⟩
      · rintro ⟨u, v, hw, h1, h2⟩
        cases u with
        | nil =>
          simp only [List.nil_append] at hw
          subst hw
          exact ⟨[], w, rfl, sub_nil' _, sub_tail _ _ _ h2⟩
        | cons a u =>
          rw [List.cons_append] at hw
          injection hw with e1 e2
          subst e1 e2
          rw [sub, if_pos rfl] at h1
          exact ⟨u, v, rfl, h1, h2⟩
    · rw [if_neg e, sub_split]
      constructor
      · rintro ⟨u, v, hw, h1, h2⟩
        refine ⟨u, v, hw, ?_, h2⟩
        cases u with
        | nil => rfl
        | cons a u =>
          rw [List.cons_append] at hw
          injection hw with e1 e2
          subst e1
          rw [sub, if_neg e]
          exact h1
      · rintro ⟨u, v, hw, h1, h2⟩
        refine ⟨u, v, hw, ?_, h2⟩
        cases u with
        | nil => exact sub_nil' _
        | cons a u =>
          rw [List.cons_append] at hw
          injection hw with e1 e2
          subst e1
          rw [sub, if_neg e] at h1
          exact h1
/-- the same scattered words of at most n letters -/
def eqv (n : Nat) (x y : List Nat) : Prop := ∀ w, w.length ≤ n → (sub w x = true ↔ sub w y = true)
theorem eqv.refl (n : Nat) (x : List Nat) : eqv n x x := fun _ _ => Iff.rfl
theorem eqv.app {n : Nat} {x x' y y' : List Nat} (h1 : eqv n x x') (h2 : eqv n y y') : eqv n (x ++ y) (x' ++ y') := fun w hw => by
  rw [sub_split, sub_split]
  constructor
  · rintro ⟨u, v, rfl, a, b⟩
    simp at hw
    exact ⟨u, v, rfl, (h1 u (by omega)).mp a, (h2 v (by omega)).mp b⟩
  · rintro ⟨u, v, rfl, a, b⟩
    simp at hw
    exact ⟨u, v, rfl, (h1 u (by omega)).mpr a, (h2 v (by omega)).mpr b⟩
theorem sub_mem : ∀ {w x : List Nat}, sub w x = true → ∀ c ∈ w, c ∈ x
  | [], _, _, c, hc => by cases hc
  | a :: w, [], h, c, hc => by cases h
  | a :: w, d :: x, h, c, hc => by
    rw [sub] at h
    split at h
    · rename_i e
      rcases List.mem_cons.mp hc with z | z
      · rw [z, ← e]; exact List.mem_cons_self
      · exact List.mem_cons_of_mem _ (sub_mem h c z)
    · exact List.mem_cons_of_mem _ (sub_mem h c hc)
theorem sub_one {c : Nat} {x : List Nat} (h : c ∈ x) : sub [c] x = true := by
  rw [sub_cons]
  cases e : nxt x c with
  | none => exact absurd h (nxt_none.mp e)
  | some s => exact sub_nil' s
theorem sub_post {w x y : List Nat} (h : sub w x = true) : sub w (x ++ y) = true := sub_split.mpr ⟨w, [], by simp, h, sub_nil' _⟩
/-- every word over A of at most n letters is scattered in n copies of a word that has all letters of A -/
theorem sub_rep {A b : List Nat} (hb : ∀ c ∈ A, c ∈ b) : ∀ (n : Nat) (w : List Nat), (∀ c ∈ w, c ∈ A) → w.length ≤ n → sub w (List.replicate n b).flatten = true
  | 0, w, _, h => by
    have : w = [] := List.eq_nil_of_length_eq_zero (by omega)
    subst this
    exact sub_nil' _
  | n + 1, [], _, _ => sub_nil' _
  | n + 1, c :: w, hw, h => by
    rw [List.replicate_succ, List.flatten_cons]
    refine sub_split.mpr ⟨[c], w, rfl, sub_one (hb c (hw c List.mem_cons_self)), sub_rep hb n w (fun x hx => hw x (List.mem_cons_of_mem _ hx)) (by simpa using h)⟩
theorem sub_set {A a b c : List Nat} (ha : ∀ x ∈ a, x ∈ A) (hb : ∀ x ∈ b, x ∈ A) (hc : ∀ x ∈ c, x ∈ A) (hA : ∀ x ∈ A, x ∈ b) {n : Nat} {w : List Nat} (hw : w.length ≤ n) :
    sub w (a ++ (List.replicate n b).flatten ++ c) = true ↔ ∀ x ∈ w, x ∈ A := by
  constructor
  · intro h x hx
    have := sub_mem h x hx
    rcases List.mem_append.mp this with z | z
    · rcases List.mem_append.mp z with z | z
      · exact ha x z
      · obtain ⟨l, hl, hx⟩ := List.mem_flatten.mp z
        rw [List.eq_of_mem_replicate hl] at hx
        exact hb x hx
    · exact hc x z
  · intro h
    exact sub_post (sub_pre a (sub_rep hA n w h hw))
/-- the scattered words of so many letters, in the order of the alphabet -/
def lvl (k : Nat) (x : List Nat) (n : Nat) : List (List Nat) := (wordsOf k n).filter fun w => sub w x
theorem sub_init {u x : List Nat} {c : Nat} (h : sub (u ++ [c]) x = true) : sub u x = true := by
  have : ∀ (x u v : List Nat), sub (u ++ v) x = true → sub u x = true := by
    intro x
    induction x with
    | nil =>
      intro u v h
      cases u with
      | nil => rfl
      | cons a u => cases h
    | cons d x ih =>
      intro u v h
      cases u with
      | nil => rfl
      | cons a u =>
        rw [List.cons_append, sub] at h
        rw [sub]
        split
        · rename_i e
          rw [if_pos e] at h
          exact ih u v h
        · rename_i e
          rw [if_neg e] at h
          exact ih (a :: u) v h
  exact this x u [c] h
theorem lvl_zero (k : Nat) (x : List Nat) : lvl k x 0 = [[]] := by simp [lvl, wordsOf, sub_nil']
theorem lvl_succ (k : Nat) (x : List Nat) (n : Nat) : lvl k x (n + 1) = (lvl k x n).flatMap fun w => ((List.range k).map fun c => w ++ [c]).filter fun w => sub w x := by
  unfold lvl
  rw [wordsOf, List.filter_flatMap]
  induction wordsOf k n with
  | nil => rfl
  | cons w l ih =>
    rw [List.flatMap_cons, ih, List.filter_cons]
    by_cases h : sub w x = true
    · rw [if_pos h, List.flatMap_cons]
    · rw [if_neg h]
      have : ((List.range k).map fun c => w ++ [c]).filter (fun w => sub w x) = [] := by
        rw [List.filter_eq_nil_iff]
        intro v hv
        obtain ⟨c, _, rfl⟩ := List.mem_map.mp hv
        exact fun z => h (sub_init z)
      rw [this, List.nil_append]
theorem sub_len : ∀ {w x : List Nat}, sub w x = true → w.length ≤ x.length
  | [], _, _ => Nat.zero_le _
  | a :: w, [], h => by cases h
  | a :: w, d :: x, h => by
    rw [sub] at h
    split at h
    · have := sub_len h
      simp; omega
    · have := sub_len h
      simp at this ⊢; omega
theorem lvl_long {k n : Nat} {x : List Nat} (h : x.length < n) : lvl k x n = [] := by
  unfold lvl
  rw [List.filter_eq_nil_iff]
  intro w hw z
  have := sub_len z
  have := (wordsOf_ok k n w hw).2
  omega
def lvls (k : Nat) (x : List Nat) (n : Nat) : List (List Nat) := (List.range (n + 1)).flatMap (lvl k x)
theorem lvls_succ (k : Nat) (x : List Nat) (n : Nat) : lvls k x (n + 1) = lvls k x n ++ lvl k x (n + 1) := by
  unfold lvls
  rw [List.range_succ (n := n + 1), List.flatMap_append]
  simp
theorem lvls_min (k : Nat) (x : List Nat) : ∀ n, lvls k x (min n x.length) = lvls k x n
  | 0 => by simp
  | n + 1 => by
    have ih := lvls_min k x n
    by_cases h : n + 1 ≤ x.length
    · rw [Nat.min_eq_left h]
    · have e : min (n + 1) x.length = min n x.length := by omega
      rw [e, ih, lvls_succ, lvl_long (by omega), List.append_nil]
theorem lvl_eqv {k n m : Nat} {x y : List Nat} (h : eqv n x y) (hm : m ≤ n) : lvl k x m = lvl k y m := by
  unfold lvl
  refine List.filter_congr fun w hw => ?_
  have := (wordsOf_ok k m w hw).2
  have := h w (by omega)
  rw [Bool.eq_iff_iff]
  exact this
theorem lvls_eqv {k n : Nat} {x y : List Nat} (h : eqv n x y) : ∀ m, m ≤ n → lvls k x m = lvls k y m
  | 0, _ => by simp [lvls, lvl_zero]
  | m + 1, hm => by rw [lvls_succ, lvls_succ, lvls_eqv h m (by omega), lvl_eqv h hm]
theorem lvl_len (k : Nat) (x : List Nat) (n : Nat) : (lvl k x n).length ≤ k ^ n := by
  have h : (lvl k x n).length ≤ (wordsOf k n).length := List.length_filter_le _ _
  have e : ∀ n, (wordsOf k n).length = k ^ n := by
    intro n
    induction n with
    | zero => rfl
    | succ n ih =>
      have e : wordsOf k (n + 1) = (wordsOf k n).flatMap fun w => (List.range k).map fun c => w ++ [c] := rfl
      rw [e, List.length_flatMap]
      simp only [List.length_map, List.length_range]
      rw [List.map_const', List.sum_replicate_nat, ih, Nat.pow_succ]
  rw [e] at h
  exact h
theorem sub_snoc {u p : List Nat} {c : Nat} : sub u (p ++ [c]) = true ↔ sub u p = true ∨ ∃ v, u = v ++ [c] ∧ sub v p = true := by
  rw [sub_split]
  constructor
  · rintro ⟨a, b, rfl, h1, h2⟩
    cases b with
    | nil => exact .inl (by simpa using h1)
    | cons d b =>
      rw [sub] at h2
      split at h2
      · rename_i e
        cases b with
        | nil => exact .inr ⟨a, by rw [e], h1⟩
        | cons _ _ => cases h2
      · cases h2
  · rintro (h | ⟨v, rfl, h⟩)
    · exact ⟨u, [], by simp, h, rfl⟩
    · exact ⟨v, [c], rfl, h, by simp [sub]⟩
end M79

set_option Elab.async false
set_option linter.all false
set_option maxRecDepth 100000
set_option maxHeartbeats 4000000
namespace LD
open PySem L2 DV M77 M79 LC
theorem sinner {a0 a1 a3 a4 a5 : Option Sl} {x w : List Nat} (hw : w.length + 1 ≤ 16777216) : ∀ (cs : List Nat) (o : Option Sl) (acc : List D), acc.length + cs.length ≤ 16777216 →
    ∃ o', forL (gN 8) L1_law_subwords (cs.map fun c => dW [c]) [a0, a1, some (.shr (dW x)), a3, a4, a5, some (.own (.list acc)), some (.shr (dW w)), o] =
      some (.nx [a0, a1, some (.shr (dW x)), a3, a4, a5, some (.own (.list (acc ++ ((cs.map fun c => w ++ [c]).filter fun w => sub w x).map dW))), some (.shr (dW w)), o'])
  | [], o, acc, _ => ⟨o, by simp [forL_nil]⟩
  | c :: cs, o, acc, h => by
    simp at h
    have c1 := add_wd (l := w) (m := [c]) (by simpa using hw)
    have c3 := law_scattered_eq (w := w ++ [c]) (t := x) (by simpa using hw)
    rw [List.map_cons, forL_cons]
    show ∃ o', turnS (L1_law_subwords [a0, a1, some (.shr (dW x)), a3, a4, a5, some (.own (.list acc)), some (.shr (dW w)), some (.shr (dW [c]))]) _ = _
    cases hs : sub (w ++ [c]) x with
    | true =>
      rw [hs] at c3
      obtain ⟨o', e⟩ := sinner (a0 := a0) (a1 := a1) (a3 := a3) (a4 := a4) (a5 := a5) (x := x) hw cs (some (.shr (dW [c]))) (acc ++ [dW (w ++ [c])]) (by simp; omega)
      refine ⟨o', ?_⟩
      have st : L1_law_subwords [a0, a1, some (.shr (dW x)), a3, a4, a5, some (.own (.list acc)), some (.shr (dW w)), some (.shr (dW [c]))] = some (.nx [a0, a1, some (.shr (dW x)), a3, a4, a5, some (.own (.list (acc ++ [dW (w ++ [c])]))), some (.shr (dW w)), some (.shr (dW [c]))]) := by
        have c2 := appS_s (i := 6) (d := dW (w ++ [c])) (ρ := [a0, a1, some (.shr (dW x)), a3, a4, a5, some (.own (.list acc)), some (.shr (dW w)), some (.shr (dW [c]))]) (ds := acc) (by omega)
        simp [L1_law_subwords, c1, c2, c3]
      rw [st, turnS_nx, e]
      simp [hs]
    | false =>
      rw [hs] at c3
      obtain ⟨o', e⟩ := sinner (a0 := a0) (a1 := a1) (a3 := a3) (a4 := a4) (a5 := a5) (x := x) hw cs (some (.shr (dW [c]))) acc (by omega)
      refine ⟨o', ?_⟩
      have st : L1_law_subwords [a0, a1, some (.shr (dW x)), a3, a4, a5, some (.own (.list acc)), some (.shr (dW w)), some (.shr (dW [c]))] = some (.nx [a0, a1, some (.shr (dW x)), a3, a4, a5, some (.own (.list acc)), some (.shr (dW w)), some (.shr (dW [c]))]) := by
        simp [L1_law_subwords, c1, c3]
      rw [st, turnS_nx, e]
      simp [hs]
theorem smiddle {a0 a3 a4 a5 : Option Sl} {x : List Nat} {k n : Nat} (hk : k ≤ 3) (hn : n ≤ 1000) : ∀ (ws : List (List Nat)) (o6 o7 : Option Sl) (acc : List D), (∀ w ∈ ws, w.length = n) → acc.length + ws.length * k ≤ 16777216 →
    ∃ o6' o7', forL (gN 7) L2_law_subwords (ws.map dW) [a0, some (.shr (dN k)), some (.shr (dW x)), a3, a4, a5, some (.own (.list acc)), o6, o7] =
      some (.nx [a0, some (.shr (dN k)), some (.shr (dW x)), a3, a4, a5, some (.own (.list (acc ++ (ws.flatMap fun w => ((List.range k).map fun c => w ++ [c]).filter fun w => sub w x).map dW))), o6', o7'])
  | [], o6, o7, acc, _, _ => ⟨o6, o7, by simp [forL_nil]⟩
  | w :: ws, o6, o7, acc, hw, h => by
    have hw1 := hw w List.mem_cons_self
    rw [List.length_cons, Nat.succ_mul] at h
    have hfl : (((List.range k).map fun c => w ++ [c]).filter fun w => sub w x).length ≤ k := by
      have := List.length_filter_le (fun w => sub w x) ((List.range k).map fun c => w ++ [c])
      simpa using this
    obtain ⟨o7', e1⟩ := sinner (a0 := a0) (a1 := some (.shr (dN k))) (a3 := a3) (a4 := a4) (a5 := a5) (x := x) (w := w) (by omega) (List.range k) o7 acc (by simp; omega)
    obtain ⟨o6'', o7'', e2⟩ := smiddle (a0 := a0) (a3 := a3) (a4 := a4) (a5 := a5) (x := x) hk hn ws (some (.shr (dW w))) o7' (acc ++ (((List.range k).map fun c => w ++ [c]).filter fun w => sub w x).map dW) (fun x hx => hw x (List.mem_cons_of_mem _ hx)) (by rw [List.length_append, List.length_map]; omega)
    refine ⟨o6'', o7'', ?_⟩
    rw [List.map_cons, forL_cons]
    have st : L2_law_subwords [a0, some (.shr (dN k)), some (.shr (dW x)), a3, a4, a5, some (.own (.list acc)), some (.shr (dW w)), o7] = some (.nx [a0, some (.shr (dN k)), some (.shr (dW x)), a3, a4, a5, some (.own (.list (acc ++ (((List.range k).map fun c => w ++ [c]).filter fun w => sub w x).map dW))), some (.shr (dW w)), o7']) := by
      have c1 := abc_itm hk
      simp only [L2_law_subwords, sFor_e, iAny_e, eSl_e, eC_e, abc_wd, pN_e, pS_e, eV_e, List.getElem?_cons_succ, List.getElem?_cons_zero, getV_s, Option.bind_some, asI_i, Option.map_some, ap3_s, c1, forO_s, e1]
    show turnS (L2_law_subwords [a0, some (.shr (dN k)), some (.shr (dW x)), a3, a4, a5, some (.own (.list acc)), some (.shr (dW w)), o7]) _ = _
    rw [st, turnS_nx, e2]
    simp only [List.flatMap_cons, List.map_append, List.append_assoc]
theorem pow_mono {k : Nat} (hk : 0 < k) (a b : Nat) : k ^ a ≤ k ^ (a + b) := by
  rw [Nat.pow_add]
  exact Nat.le_mul_of_pos_right _ (Nat.pow_pos hk)
theorem lvls_len (k : Nat) (x : List Nat) : ∀ n, (lvls k x n).length ≤ cnt k n
  | 0 => by simp [lvls, lvl_zero, cnt]
  | n + 1 => by
    have h1 := lvls_len k x n
    have h2 := lvl_len k x (n + 1)
    rw [lvls_succ, List.length_append]
    show _ ≤ cnt k n + k ^ (n + 1)
    omega
theorem souter {a0 : Option Sl} {x : List Nat} {k n : Nat} (hk : k ≤ 3) (hn : n ≤ 1000) (hc : cnt k n ≤ 16777216) : ∀ (m i : Nat) (o5 o6 o7 o8 : Option Sl), i + m = n →
    ∃ (o4' o5' o6' o7' o8' : Option Sl), forL (gN 5) L3_law_subwords ((List.range' i m).map dN) [a0, some (.shr (dN k)), some (.shr (dW x)), some (.shr (.list ((lvls k x i).map dW))), some (.shr (.list ((lvl k x i).map dW))), o5, o6, o7, o8] =
      some (.nx [a0, some (.shr (dN k)), some (.shr (dW x)), some (.shr (.list ((lvls k x n).map dW))), o4', o5', o6', o7', o8'])
  | 0, i, o5, o6, o7, o8, h => ⟨_, o5, o6, o7, o8, by
      have : i = n := by omega
      subst this
      simp only [List.range'_zero, List.map_nil, forL_nil]
      rfl⟩
  | m + 1, i, o5, o6, o7, o8, h => by
    have mono : ∀ a b, cnt k a ≤ cnt k (a + b) := fun a b => by
      induction b with
      | zero => exact Nat.le_refl _
      | succ b ih => exact Nat.le_trans ih (Nat.le_add_right _ _)
    have h1 : cnt k (i + 1) ≤ 16777216 := by
      have := mono (i + 1) m
      rw [show i + 1 + m = n by omega] at this
      omega
    have h2 : cnt k (i + 1) = cnt k i + k ^ (i + 1) := rfl
    have hwl : (lvl k x i).length * k ≤ k ^ (i + 1) := by
      rw [Nat.pow_succ]
      exact Nat.mul_le_mul_right _ (lvl_len k x i)
    obtain ⟨o6', o7', e1⟩ := smiddle (a0 := a0) (a3 := some (.shr (.list ((lvls k x i).map dW)))) (a4 := some (.shr (.list ((lvl k x i).map dW)))) (a5 := some (.shr (dN i))) (x := x) (n := i) hk (by omega) (lvl k x i) o7 o8 [] (fun w hw => (wordsOf_ok k i w (List.mem_filter.mp hw).1).2) (by simp; omega)
    obtain ⟨o4', o5', o6'', o7'', o8'', e2⟩ := souter (a0 := a0) (x := x) hk hn hc m (i + 1) (some (.shr (dN i))) (some (.shr (.list ((lvl k x (i + 1)).map dW)))) o6' o7' (by omega)
    refine ⟨o4', o5', o6'', o7'', o8'', ?_⟩
    rw [List.range'_succ, List.map_cons, forL_cons]
    rw [← lvl_succ, List.nil_append] at e1
    have st : L3_law_subwords [a0, some (.shr (dN k)), some (.shr (dW x)), some (.shr (.list ((lvls k x i).map dW))), some (.shr (.list ((lvl k x i).map dW))), some (.shr (dN i)), o6, o7, o8] =
        some (.nx [a0, some (.shr (dN k)), some (.shr (dW x)), some (.shr (.list ((lvls k x (i + 1)).map dW))), some (.shr (.list ((lvl k x (i + 1)).map dW))), some (.shr (dN i)), some (.shr (.list ((lvl k x (i + 1)).map dW))), o6', o7']) := by
      have c1 : addD (.list ((lvls k x i).map dW)) (.list ((lvl k x (i + 1)).map dW)) = some (.list ((lvls k x (i + 1)).map dW)) := by
        simp only [addD]
        have := lvls_len k x i
        have := lvl_len k x (i + 1)
        rw [if_pos (by rw [sizeLine_eq, List.length_map, List.length_map]; omega), lvls_succ, List.map_append]
      simp [L3_law_subwords, itemsD, e1, c1]
    show turnS (L3_law_subwords [a0, some (.shr (dN k)), some (.shr (dW x)), some (.shr (.list ((lvls k x i).map dW))), some (.shr (.list ((lvl k x i).map dW))), some (.shr (dN i)), o6, o7, o8]) _ = _
    rw [st, turnS_nx, e2]
theorem law_subwords_eq {k n : Nat} {x : List Nat} (hk : k ≤ 3) (hx : x.length ≤ 1000) (hn : n ≤ 1000) (hc : cnt k n ≤ 16777216) : F_law_subwords [dN n, dN k, dW x] = some (.tuple ((lvls k x n).map dW)) := by
  have mono : ∀ a b, cnt k a ≤ cnt k (a + b) := fun a b => by
    induction b with
    | zero => exact Nat.le_refl _
    | succ b ih => exact Nat.le_trans ih (Nat.le_add_right _ _)
  have hm : cnt k (min n x.length) ≤ 16777216 := by
    have := mono (min n x.length) (n - min n x.length)
    rw [show min n x.length + (n - min n x.length) = n by omega] at this
    omega
  rw [F_law_subwords, callF_3, b_law_subwords]
  obtain ⟨o4, o5, o6, o7, o8, e⟩ := souter (a0 := some (.shr (dN n))) (x := x) hk (by omega) hm (min n x.length) 0 none none none none (by omega)
  have e0 : lvls k x 0 = [[]] := by simp [lvls, lvl_zero]
  rw [e0, lvl_zero, ← List.range_eq_range', lvls_min] at e
  simp only [List.map_cons, List.map_nil] at e
  have c1 := len_wd (l := x) (by omega)
  have c2 : minF [dN n, dN x.length] = some (dN (min n x.length)) := by
    show some (PyData.int (if (x.length : Int) < (n : Int) then (x.length : Int) else (n : Int))) = _
    congr 2
    split <;> omega
  have c3 := rng1_n (show min n x.length ≤ 16777216 by omega)
  simp only [bind0_e, List.map_cons, List.map_nil, List.length_cons, List.length_nil, List.replicate, List.cons_append, List.nil_append]
  simp only [sSeq_e, sAsg_e, eLst_e, lC_e, eC_e, lN_e, consO_s, Option.bind_some, lstO_1, nil_wd, asgO_s, gN_e, nxO_s, thenS_nx, List.set_cons_succ, List.set_cons_zero, sFor_e, iCall_e, eCall_e, eW_e, List.getElem?_cons_succ, List.getElem?_cons_zero, getW_s, c1, c2, c3, forO_s, e, sRet_e, tupF, rtO_s, endF_rt]
end LD

set_option Elab.async false
set_option linter.all false
set_option maxRecDepth 100000
set_option maxHeartbeats 4000000
noncomputable section
namespace G79
open PySem PySem.Spec L2 DV
def top (i : Nat) : Stmt := PySem.Challenge.pw_viewedwords_k79_words_of_bonds.main.body.getD i (.Pass ⟨0, 0, 0, 0⟩)
abbrev s_short_key : Stmt := top 5
abbrev N_short_key : List Str := ["word"]
abbrev s_scattered_words : Stmt := top 6
abbrev N_scattered_words : List Str := ["k", "word", "found", "letter", "other"]
abbrev s_bond_words : Stmt := top 8
abbrev N_bond_words : List Str := ["steps", "count", "one", "two", "step"]
abbrev s_check_manner : Stmt := top 11
abbrev N_check_manner : List Str := ["manner"]
abbrev s_view : Stmt := top 20
abbrev N_view : List Str := ["manner", "k", "letters", "word"]
abbrev s_alike : Stmt := top 21
abbrev N_alike : List Str := ["manner", "k", "letters", "first", "second"]
abbrev s_law_same : Stmt := top 23
abbrev N_law_same : List Str := ["told", "due", "k"]
abbrev s_law_number : Stmt := top 24
abbrev N_law_number : List Str := ["script", "k", "number"]
abbrev s_law_draws : Stmt := top 25
abbrev N_law_draws : List Str := ["script", "k", "count", "many", "number", "found", "at", "state", "other"]
abbrev s_law_scattered : Stmt := top 26
abbrev N_law_scattered : List Str := ["word", "text", "at", "letter"]
abbrev s_law_subwords : Stmt := top 27
abbrev N_law_subwords : List Str := ["k", "letters", "word", "found", "level", "j", "longer", "begun", "letter"]
abbrev s_law_made : Stmt := top 28
abbrev N_law_made : List Str := ["steps", "side", "count", "word", "step"]
abbrev s_law_drawn_steps : Stmt := top 29
abbrev N_law_drawn_steps : List Str := ["script", "k", "letters", "count", "steps", "j", "picks", "chosen", "words", "side", "spare", "turned", "around", "index", "pick"]
abbrev s_law : Stmt := top 30
abbrev N_law : List Str := ["script", "shape", "letters", "steps", "count", "given", "due"]
structure Txt (K : PySem.W.Frag) (mg : Str → Option Value) : Prop where
  t_short_key : TopF K mg "short_key" s_short_key ["word"]
  t_scattered_words : TopF K mg "scattered_words" s_scattered_words ["k", "word"]
  t_bond_words : TopF K mg "bond_words" s_bond_words ["steps", "count"]
  t_check_manner : TopF K mg "check_manner" s_check_manner ["manner"]
  t_view : TopF K mg "view" s_view ["manner", "k", "letters", "word"]
  t_alike : TopF K mg "alike" s_alike ["manner", "k", "letters", "first", "second"]
  t_law_same : TopF K mg "_law_same" s_law_same ["told", "due"]
  t_law_number : TopF K mg "_law_number" s_law_number ["script", "k"]
  t_law_draws : TopF K mg "_law_draws" s_law_draws ["script", "k", "count", "many"]
  t_law_scattered : TopF K mg "_law_scattered" s_law_scattered ["word", "text"]
  t_law_subwords : TopF K mg "_law_subwords" s_law_subwords ["k", "letters", "word"]
  t_law_made : TopF K mg "_law_made" s_law_made ["steps", "side", "count"]
  t_law_drawn_steps : TopF K mg "_law_drawn_steps" s_law_drawn_steps ["script", "k", "letters", "count"]
  t_law : TopF K mg "law" s_law ["script"]
  n_abs : mg "abs" = none
  n_bool : mg "bool" = none
  n_int : mg "int" = none
  n_isinstance : mg "isinstance" = none
  n_len : mg "len" = none
  n_list : mg "list" = none
  n_min : mg "min" = none
  n_range : mg "range" = none
  n_sorted : mg "sorted" = none
  n_str : mg "str" = none
  n_sum : mg "sum" = none
  n_tuple : mg "tuple" = none
  c_LETTERS : ∃ t, mg "LETTERS" = some (.str "abc" t)
  c_MANNERS : KTup K mg "MANNERS" ["last", "first", "ends", "slit", "scattered", "rising", "falling", "counts"]
section
variable {P : Program} {w : World} {K : PySem.W.Frag} {mg : Str → Option Value} {base : Heap}
theorem sc_short_key : FnScope N_short_key ["word"] (defScope s_short_key) := ⟨rfl, rfl, rfl, by decide +kernel, rfl, by decide +kernel, by decide +kernel⟩
def b_short_key : FS :=
    (sRet (eTup (lC (eCall lenF (lC (eW 0) lN)) (lC (eV 0) lN))))
def F_short_key : List D → Option D := callF 1 1 b_short_key
theorem d_short_key (T : Txt K mg) : DefD P w K mg base 1 "short_key" F_short_key := by
  refine .of (N := N_short_key) (b := b_short_key) T.t_short_key sc_short_key fun f cdv A outer s H E hr => ?_
  have hu64 := hr.units
  have hu := hu_of hr
  have hu65 : _ + 65 < cLine := room65 hr
  exact (ss_one (s_ret (f_tup (a_cons (f_len T.n_len (ab_cons (b_v 0) ab_nil)) (a_cons (f_v 0) a_nil)))))
theorem sc_scattered_words : FnScope N_scattered_words ["k", "word"] (defScope s_scattered_words) := ⟨rfl, rfl, rfl, by decide +kernel, rfl, by decide +kernel, by decide +kernel⟩
def L1_scattered_words : FS :=
    (sIf (toT (o2 ltD (eCall lenF (lC (eW 4) lN)) (eW 0))) (sPut 2 (o2 addD (eW 4) (eW 3)) (eC (.bool true))) sNx)
def L2_scattered_words : FS :=
    (sFor (iAny (eCall lstF (lC (eW 2) lN))) (gN 4) L1_scattered_words)
def b_scattered_words : FS :=
    (sSeq (sOwn 2 (eD1 (eC (.str "")) (eC (.bool true))))
    (sSeq (sFor (iAny (eV 1)) (gN 3) L2_scattered_words)
    (sRet (eCall (sortF F_short_key) (lC (eCall lstF (lC (eW 2) lN)) lN)))))
def F_scattered_words : List D → Option D := callF 5 2 b_scattered_words
theorem d_scattered_words (T : Txt K mg) : DefD P w K mg base 4 "scattered_words" F_scattered_words := by
  refine .of (N := N_scattered_words) (b := b_scattered_words) T.t_scattered_words sc_scattered_words fun f cdv A outer s H E hr => ?_
  have hu64 := hr.units
  have hu := hu_of hr
  have hu65 : _ + 65 < cLine := room65 hr
  exact (ss_cons (s_own 2 (n_d1 f_str f_bl) sc_scattered_words.nd)
      (ss_cons (s_for PassesOwn.never rfl (i_any (f_v 1)) (g_name 3 sc_scattered_words.nd) (ss_one (s_for PassesOwn.never rfl (i_any (f_list rfl T.n_list (ab_cons (b_v 2) ab_nil))) (g_name 4 sc_scattered_words.nd) (ss_one (s_if (t_cm c_lt (f_b (f_len T.n_len (ab_cons (b_v 4) ab_nil))) (b_v 0) (nomark _)) (ss_one (s_put 2 hu f_bl (f_add (b_v 4) (b_v 3)))) ss_nil)))))
      (ss_one (s_ret (f_sortK (d_short_key T) (hr.mono (by decide)) T.n_sorted (ab_cons (f_b (f_list rfl T.n_list (ab_cons (b_v 2) ab_nil))) ab_nil))))))
theorem sc_bond_words : FnScope N_bond_words ["steps", "count"] (defScope s_bond_words) := ⟨rfl, rfl, rfl, by decide +kernel, rfl, by decide +kernel, by decide +kernel⟩
def L1_bond_words : FS :=
    (sIf (toT (o2 eqD (o2 ixD (eW 4) (eC (.int 0))) (eC (.str "letter")))) (sSeq (sAsg (o2 addD (eW 2) (o2 ixD (eC (.str "abc")) (o2 ixD (eW 4) (eC (.int 1))))) (gN 2))
    (sAsg (o2 addD (eW 3) (o2 ixD (eC (.str "abc")) (o2 ixD (eW 4) (eC (.int 1))))) (gN 3))) (sSeq (sAsg (o2 addD (o2 addD (o2 addD (eW 2) (o2 ixD (o2 ixD (eW 4) (eC (.int 1))) (eC (.int 0)))) (o2 mulD (o2 ixD (o2 ixD (eW 4) (eC (.int 1))) (eC (.int 1))) (eW 1))) (o2 ixD (o2 ixD (eW 4) (eC (.int 1))) (eC (.int 2)))) (gN 2))
    (sAsg (o2 addD (o2 addD (o2 addD (eW 3) (o2 ixD (o2 ixD (eW 4) (eC (.int 2))) (eC (.int 0)))) (o2 mulD (o2 ixD (o2 ixD (eW 4) (eC (.int 2))) (eC (.int 1))) (eW 1))) (o2 ixD (o2 ixD (eW 4) (eC (.int 2))) (eC (.int 2)))) (gN 3))))
def b_bond_words : FS :=
    (sSeq (sAsg (eC (.str "")) (gN 2))
    (sSeq (sAsg (eC (.str "")) (gN 3))
    (sSeq (sFor (iAny (eV 0)) (gN 4) L1_bond_words)
    (sRet (eTup (lC (eV 2) (lC (eV 3) lN)))))))
def F_bond_words : List D → Option D := callF 5 2 b_bond_words
theorem d_bond_words (T : Txt K mg) : DefD P w K mg base 1 "bond_words" F_bond_words := by
  refine .of (N := N_bond_words) (b := b_bond_words) T.t_bond_words sc_bond_words fun f cdv A outer s H E hr => ?_
  have hu64 := hr.units
  have hu := hu_of hr
  have hu65 : _ + 65 < cLine := room65 hr
  exact (ss_cons (s_set 2 f_str sc_bond_words.nd)
      (ss_cons (s_set 3 f_str sc_bond_words.nd)
      (ss_cons (s_for PassesOwn.never rfl (i_any (f_v 0)) (g_name 4 sc_bond_words.nd) (ss_one (s_if (t_cm (c_eq hu64) (f_b (f_ix hu (b_v 4) (f_b f_int))) (f_b f_str) (nomark _)) (ss_cons (s_set 2 (f_add (b_v 2) (f_b (f_ix hu (f_b (f_glS rfl T.c_LETTERS.choose_spec)) (f_b (f_ix hu (b_v 4) (f_b f_int)))))) sc_bond_words.nd)
      (ss_one (s_set 3 (f_add (b_v 3) (f_b (f_ix hu (f_b (f_glS rfl T.c_LETTERS.choose_spec)) (f_b (f_ix hu (b_v 4) (f_b f_int)))))) sc_bond_words.nd))) (ss_cons (s_set 2 (f_add (f_b (f_add (f_b (f_add (b_v 2) (f_b (f_ix hu (f_b (f_ix hu (b_v 4) (f_b f_int))) (f_b f_int))))) (f_b (f_mul (f_b (f_ix hu (f_b (f_ix hu (b_v 4) (f_b f_int))) (f_b f_int))) (b_v 1))))) (f_b (f_ix hu (f_b (f_ix hu (b_v 4) (f_b f_int))) (f_b f_int)))) sc_bond_words.nd)
      (ss_one (s_set 3 (f_add (f_b (f_add (f_b (f_add (b_v 3) (f_b (f_ix hu (f_b (f_ix hu (b_v 4) (f_b f_int))) (f_b f_int))))) (f_b (f_mul (f_b (f_ix hu (f_b (f_ix hu (b_v 4) (f_b f_int))) (f_b f_int))) (b_v 1))))) (f_b (f_ix hu (f_b (f_ix hu (b_v 4) (f_b f_int))) (f_b f_int)))) sc_bond_words.nd))))))
      (ss_one (s_ret (f_tup (a_cons (f_v 2) (a_cons (f_v 3) a_nil))))))))
theorem sc_check_manner : FnScope N_check_manner ["manner"] (defScope s_check_manner) := ⟨rfl, rfl, rfl, by decide +kernel, rfl, by decide +kernel, by decide +kernel⟩
def b_check_manner : FS :=
    (sIf (toT (o1 (ninC ["last", "first", "ends", "slit", "scattered", "rising", "falling", "counts"]) (eW 0))) sNever sNx)
def F_check_manner : List D → Option D := callF 1 1 b_check_manner
theorem d_check_manner (T : Txt K mg) : DefD P w K mg base 1 "check_manner" F_check_manner := by
  refine .of (N := N_check_manner) (b := b_check_manner) T.t_check_manner sc_check_manner fun f cdv A outer s H E hr => ?_
  have hu64 := hr.units
  have hu := hu_of hr
  have hu65 : _ + 65 < cLine := room65 hr
  exact (ss_one (s_if (t_ninG (b_v 0) T.c_MANNERS rfl) (ss_one s_never) ss_nil))
theorem sc_view : FnScope N_view ["manner", "k", "letters", "word"] (defScope s_view) := ⟨rfl, rfl, rfl, by decide +kernel, rfl, by decide +kernel, by decide +kernel⟩
def b_view : FS :=
    (sSeq (sEx (eCall F_check_manner (lC (eV 0) lN)))
    (sSeq (sIf (toT (o2 eqD (eW 0) (eC (.str "last")))) sNever sNx)
    (sSeq (sIf (toT (o2 eqD (eW 0) (eC (.str "first")))) sNever sNx)
    (sSeq (sIf (toT (o2 eqD (eW 0) (eC (.str "ends")))) sNever sNx)
    (sSeq (sIf (toT (o2 eqD (eW 0) (eC (.str "slit")))) sNever sNx)
    (sSeq (sIf (toT (o2 eqD (eW 0) (eC (.str "scattered")))) (sRet (eCall tupF (lC (eCall F_scattered_words (lC (eV 1) (lC (eV 3) lN))) lN))) sNx)
    (sSeq (sIf (toT (o2 eqD (eW 0) (eC (.str "rising")))) sNever sNx)
    (sSeq (sIf (toT (o2 eqD (eW 0) (eC (.str "falling")))) sNever sNx)
    sNever))))))))
def F_view : List D → Option D := callF 4 4 b_view
theorem d_view (T : Txt K mg) : DefD P w K mg base 5 "view" F_view := by
  refine .of (N := N_view) (b := b_view) T.t_view sc_view fun f cdv A outer s H E hr => ?_
  have hu64 := hr.units
  have hu := hu_of hr
  have hu65 : _ + 65 < cLine := room65 hr
  exact (ss_cons (s_expr (f_b (f_call (d_check_manner T) (hr.mono (by decide)) (a_cons (f_v 0) a_nil))))
      (ss_cons (s_if (t_cm (c_eq hu64) (b_v 0) (f_b f_str) (nomark _)) (ss_one s_never) ss_nil)
      (ss_cons (s_if (t_cm (c_eq hu64) (b_v 0) (f_b f_str) (nomark _)) (ss_one s_never) ss_nil)
      (ss_cons (s_if (t_cm (c_eq hu64) (b_v 0) (f_b f_str) (nomark _)) (ss_one s_never) ss_nil)
      (ss_cons (s_if (t_cm (c_eq hu64) (b_v 0) (f_b f_str) (nomark _)) (ss_one s_never) ss_nil)
      (ss_cons (s_if (t_cm (c_eq hu64) (b_v 0) (f_b f_str) (nomark _)) (ss_one (s_ret (f_tuple T.n_tuple (ab_cons (f_b (f_call (d_scattered_words T) (hr.mono (by decide)) (a_cons (f_v 1) (a_cons (f_v 3) a_nil)))) ab_nil)))) ss_nil)
      (ss_cons (s_if (t_cm (c_eq hu64) (b_v 0) (f_b f_str) (nomark _)) (ss_one s_never) ss_nil)
      (ss_cons (s_if (t_cm (c_eq hu64) (b_v 0) (f_b f_str) (nomark _)) (ss_one s_never) ss_nil)
      (ss_one s_never)))))))))
theorem sc_alike : FnScope N_alike ["manner", "k", "letters", "first", "second"] (defScope s_alike) := ⟨rfl, rfl, rfl, by decide +kernel, rfl, by decide +kernel, by decide +kernel⟩
def b_alike : FS :=
    (sRet (o2 eqD (eCall F_view (lC (eV 0) (lC (eV 1) (lC (eV 2) (lC (eV 3) lN))))) (eCall F_view (lC (eV 0) (lC (eV 1) (lC (eV 2) (lC (eV 4) lN)))))))
def F_alike : List D → Option D := callF 5 5 b_alike
theorem d_alike (T : Txt K mg) : DefD P w K mg base 6 "alike" F_alike := by
  refine .of (N := N_alike) (b := b_alike) T.t_alike sc_alike fun f cdv A outer s H E hr => ?_
  have hu64 := hr.units
  have hu := hu_of hr
  have hu65 : _ + 65 < cLine := room65 hr
  exact (ss_one (s_ret (f_cm (c_eq hu64) (f_b (f_call (d_view T) (hr.mono (by decide)) (a_cons (f_v 0) (a_cons (f_v 1) (a_cons (f_v 2) (a_cons (f_v 3) a_nil)))))) (f_b (f_call (d_view T) (hr.mono (by decide)) (a_cons (f_v 0) (a_cons (f_v 1) (a_cons (f_v 2) (a_cons (f_v 4) a_nil)))))) (nomark _))))
theorem sc_law_same : FnScope N_law_same ["told", "due"] (defScope s_law_same) := ⟨rfl, rfl, rfl, by decide +kernel, rfl, by decide +kernel, by decide +kernel⟩
theorem d_law_same (T : Txt K mg) : ∀ n, DefD P w K mg base (n + 0) "_law_same" (LC.F_law_same n)
  | 0 => .nil T.t_law_same
  | n + 1 => by
    have hrec : DefD P w K mg base (n + 0) "_law_same" (LC.F_law_same n) := d_law_same T n
    refine .of (N := N_law_same) (b := LC.b_law_same (LC.F_law_same n)) T.t_law_same sc_law_same fun f cdv A outer s H E hr => ?_
    have hu64 := hr.units
    have hu := hu_of hr
    have hu65 : _ + 65 < cLine := room65 hr
    exact (ss_cons (s_if (t_w (w_or (t_val (f_isi "bool" T.n_isinstance T.n_bool (b_v 1))) (w_or1 (t_val (f_isi "bool" T.n_isinstance T.n_bool (b_v 0)))))) (ss_one (s_ret (f_and (f_isi "bool" T.n_isinstance T.n_bool (b_v 1)) (f_and (f_isi "bool" T.n_isinstance T.n_bool (b_v 0)) (f_one (f_cm (c_eq hu64) (b_v 0) (b_v 1) (nomark _))))))) ss_nil)
      (ss_cons (s_if (t_w (w_or (t_cm c_is (b_v 1) (f_b f_non) (nomark _)) (w_or1 (t_val (f_isi "int" T.n_isinstance T.n_int (b_v 1)))))) (ss_one (s_ret (f_and (f_cm (c_eq hu64) (b_v 0) (b_v 1) (nomark _)) (f_one (f_or (f_cm c_is (b_v 1) (f_b f_non) (nomark _)) (f_one (f_isi "int" T.n_isinstance T.n_int (b_v 0)))))))) ss_nil)
      (ss_cons (s_if (t_val (f_isi "str" T.n_isinstance T.n_str (b_v 1))) (ss_one (s_ret (f_and (f_isi "str" T.n_isinstance T.n_str (b_v 0)) (f_one (f_cm (c_eq hu64) (b_v 0) (b_v 1) (nomark _)))))) ss_nil)
      (ss_cons (s_if (t_w (w_or (t_cm (c_ne hu64) (f_b (f_isi "list" T.n_isinstance T.n_list (b_v 1))) (f_b (f_isi "list" T.n_isinstance T.n_list (b_v 0))) (nomark _)) (w_or1 (t_cm (c_ne hu64) (f_b (f_isi "tuple" T.n_isinstance T.n_tuple (b_v 1))) (f_b (f_isi "tuple" T.n_isinstance T.n_tuple (b_v 0))) (nomark _))))) (ss_one (s_ret f_bl)) ss_nil)
      (ss_cons (s_if (t_cm (c_ne hu64) (f_b (f_len T.n_len (ab_cons (b_v 0) ab_nil))) (f_b (f_len T.n_len (ab_cons (b_v 1) ab_nil))) (nomark _)) (ss_one (s_ret f_bl)) ss_nil)
      (ss_cons (s_for PassesOwn.never rfl (i_rng1 T.n_range (a_cons (f_len T.n_len (ab_cons (b_v 1) ab_nil)) a_nil)) (g_name 2 sc_law_same.nd) (ss_one (s_if (t_not (t_val (f_call hrec (hr.mono (by omega)) (a_cons (f_ix hu (b_v 0) (b_v 2)) (a_cons (f_ix hu (b_v 1) (b_v 2)) a_nil))))) (ss_one (s_ret f_bl)) ss_nil)))
      (ss_one (s_ret f_bl))))))))
theorem sc_law_number : FnScope N_law_number ["script", "k"] (defScope s_law_number) := ⟨rfl, rfl, rfl, by decide +kernel, rfl, by decide +kernel, by decide +kernel⟩
theorem d_law_number (T : Txt K mg) : DefD P w K mg base 1 "_law_number" LC.F_law_number := by
  refine .of (N := N_law_number) (b := LC.b_law_number) T.t_law_number sc_law_number fun f cdv A outer s H E hr => ?_
  have hu64 := hr.units
  have hu := hu_of hr
  have hu65 : _ + 65 < cLine := room65 hr
  exact (ss_cons (s_set 2 (f_add (f_b (f_mul (f_b (f_sum rfl T.n_sum (ab_cons (b_v 0) ab_nil))) (f_b f_int))) (f_b (f_mul (f_b f_int) (f_b (f_add (b_v 1) (f_b f_int)))))) sc_law_number.nd)
      (ss_cons (s_if (t_cm c_lt (b_v 1) (f_b (f_len T.n_len (ab_cons (b_v 0) ab_nil))) (nomark _)) (ss_one (s_set 2 (f_ix hu (b_v 0) (b_v 1)) sc_law_number.nd)) ss_nil)
      (ss_one (s_ret (f_abs T.n_abs (ab_cons (b_v 2) ab_nil))))))
theorem sc_law_draws : FnScope N_law_draws ["script", "k", "count", "many"] (defScope s_law_draws) := ⟨rfl, rfl, rfl, by decide +kernel, rfl, by decide +kernel, by decide +kernel⟩
theorem d_law_draws (T : Txt K mg) : DefD P w K mg base 2 "_law_draws" LC.F_law_draws := by
  refine .of (N := N_law_draws) (b := LC.b_law_draws) T.t_law_draws sc_law_draws fun f cdv A outer s H E hr => ?_
  have hu64 := hr.units
  have hu := hu_of hr
  have hu65 : _ + 65 < cLine := room65 hr
  exact (ss_cons (s_set 4 (f_call (d_law_number T) (hr.mono (by decide)) (a_cons (f_v 0) (a_cons (f_v 1) a_nil))) sc_law_draws.nd)
      (ss_cons (s_own 5 (n_lst a_nil) sc_law_draws.nd)
      (ss_cons (s_if (t_cm c_ge (b_v 4) (f_b (f_pow (f_b f_int) (f_b f_int))) (nomark _)) (ss_cons (s_set 4 (f_sub (b_v 4) (f_b (f_pow (f_b f_int) (f_b f_int)))) sc_law_draws.nd)
      (ss_cons (s_for PassesOwn.never rfl (i_rng1 T.n_range (a_cons (f_v 2) a_nil)) (g_name 6 sc_law_draws.nd) (ss_cons (s_app 5 (f_mod (b_v 4) (b_v 3)))
      (ss_one (s_set 4 (f_fdiv (b_v 4) (b_v 3)) sc_law_draws.nd))))
      (ss_one (s_frz 5 (s_ret (f_v 5)))))) ss_nil)
      (ss_cons (s_set 7 (f_add (f_b (f_mod (b_v 4) (f_b f_int))) (f_b f_int)) sc_law_draws.nd)
      (ss_cons (s_for PassesOwn.never rfl (i_rng1 T.n_range (a_cons (f_v 2) a_nil)) (g_name 6 sc_law_draws.nd) (ss_cons (s_set 7 (f_mod (f_b (f_add (f_b (f_add (f_b (f_mul (b_v 7) (f_b f_int))) (f_b (f_mul (f_b f_int) (b_v 6))))) (f_b f_int))) (f_b f_int)) sc_law_draws.nd)
      (ss_cons (s_set 8 (f_mod (f_b (f_add (f_b (f_add (f_b (f_mul (b_v 7) (b_v 7))) (f_b (f_mul (f_b f_int) (b_v 6))))) (f_b f_int))) (f_b f_int)) sc_law_draws.nd)
      (ss_one (s_app 5 (f_mod (f_b (f_fdiv (b_v 8) (f_b f_int))) (b_v 3)))))))
      (ss_one (s_frz 5 (s_ret (f_v 5)))))))))
theorem sc_law_scattered : FnScope N_law_scattered ["word", "text"] (defScope s_law_scattered) := ⟨rfl, rfl, rfl, by decide +kernel, rfl, by decide +kernel, by decide +kernel⟩
theorem d_law_scattered (T : Txt K mg) : DefD P w K mg base 1 "_law_scattered" LC.F_law_scattered := by
  refine .of (N := N_law_scattered) (b := LC.b_law_scattered) T.t_law_scattered sc_law_scattered fun f cdv A outer s H E hr => ?_
  have hu64 := hr.units
  have hu := hu_of hr
  have hu65 : _ + 65 < cLine := room65 hr
  exact (ss_cons (s_set 2 f_int sc_law_scattered.nd)
      (ss_cons (s_for PassesOwn.never rfl (i_any (f_v 1)) (g_name 3 sc_law_scattered.nd) (ss_one (s_if (t_w (w_and (t_cm c_lt (b_v 2) (f_b (f_len T.n_len (ab_cons (b_v 0) ab_nil))) (nomark _)) (w_and1 (t_cm (c_eq hu64) (f_b (f_ix hu (b_v 0) (b_v 2))) (b_v 3) (nomark _))))) (ss_one (s_set 2 (f_add (b_v 2) (f_b f_int)) sc_law_scattered.nd)) ss_nil)))
      (ss_one (s_ret (f_cm (c_eq hu64) (b_v 2) (f_b (f_len T.n_len (ab_cons (b_v 0) ab_nil))) (nomark _))))))
theorem sc_law_subwords : FnScope N_law_subwords ["k", "letters", "word"] (defScope s_law_subwords) := ⟨rfl, rfl, rfl, by decide +kernel, rfl, by decide +kernel, by decide +kernel⟩
theorem d_law_subwords (T : Txt K mg) : DefD P w K mg base 2 "_law_subwords" LD.F_law_subwords := by
  refine .of (N := N_law_subwords) (b := LD.b_law_subwords) T.t_law_subwords sc_law_subwords fun f cdv A outer s H E hr => ?_
  have hu64 := hr.units
  have hu := hu_of hr
  have hu65 : _ + 65 < cLine := room65 hr
  exact (ss_cons (s_set 3 (n_f (n_lst (a_cons f_str a_nil))) sc_law_subwords.nd)
      (ss_cons (s_set 4 (n_f (n_lst (a_cons f_str a_nil))) sc_law_subwords.nd)
      (ss_cons (s_for PassesOwn.never rfl (i_rng1 T.n_range (a_cons (f_min rfl T.n_min (ab_cons (b_v 0) (ab_cons (f_b (f_len T.n_len (ab_cons (b_v 2) ab_nil))) ab_nil))) a_nil)) (g_name 5 sc_law_subwords.nd) (ss_cons (s_own 6 (n_lst a_nil) sc_law_subwords.nd)
      (ss_cons (s_for PassesOwn.never rfl (i_any (f_v 4)) (g_name 7 sc_law_subwords.nd) (ss_one (s_for PassesOwn.never rfl (i_any (f_sl (f_b f_str) p_none (p_some (f_v 1)))) (g_name 8 sc_law_subwords.nd) (ss_one (s_if (t_val (f_call (d_law_scattered T) (hr.mono (by decide)) (a_cons (f_add (b_v 7) (b_v 8)) (a_cons (f_v 2) a_nil)))) (ss_one (s_app 6 (f_add (b_v 7) (b_v 8)))) ss_nil)))))
      (ss_cons (s_set 3 (f_add (b_v 3) (b_v 6)) sc_law_subwords.nd)
      (ss_one (s_frz 6 (s_set 4 (f_v 6) sc_law_subwords.nd)))))))
      (ss_one (s_ret (f_tuple T.n_tuple (ab_cons (b_v 3) ab_nil)))))))
theorem sc_law_made : FnScope N_law_made ["steps", "side", "count"] (defScope s_law_made) := ⟨rfl, rfl, rfl, by decide +kernel, rfl, by decide +kernel, by decide +kernel⟩
def L1_law_made : FS :=
    (sIf (toT (o2 eqD (o2 ixD (eW 4) (eC (.int 0))) (eC (.str "letter")))) (sAsg (o2 addD (eW 3) (o2 ixD (eC (.str "abc")) (o2 ixD (eW 4) (eC (.int 1))))) (gN 3)) (sAsg (o2 addD (o2 addD (o2 addD (eW 3) (o2 ixD (o2 ixD (eW 4) (eW 1)) (eC (.int 0)))) (o2 mulD (o2 ixD (o2 ixD (eW 4) (eW 1)) (eC (.int 1))) (eW 2))) (o2 ixD (o2 ixD (eW 4) (eW 1)) (eC (.int 2)))) (gN 3)))
def b_law_made : FS :=
    (sSeq (sAsg (eC (.str "")) (gN 3))
    (sSeq (sFor (iAny (eV 0)) (gN 4) L1_law_made)
    (sRet (eV 3))))
def F_law_made : List D → Option D := callF 5 3 b_law_made
theorem d_law_made (T : Txt K mg) : DefD P w K mg base 1 "_law_made" F_law_made := by
  refine .of (N := N_law_made) (b := b_law_made) T.t_law_made sc_law_made fun f cdv A outer s H E hr => ?_
  have hu64 := hr.units
  have hu := hu_of hr
  have hu65 : _ + 65 < cLine := room65 hr
  exact (ss_cons (s_set 3 f_str sc_law_made.nd)
      (ss_cons (s_for PassesOwn.never rfl (i_any (f_v 0)) (g_name 4 sc_law_made.nd) (ss_one (s_if (t_cm (c_eq hu64) (f_b (f_ix hu (b_v 4) (f_b f_int))) (f_b f_str) (nomark _)) (ss_one (s_set 3 (f_add (b_v 3) (f_b (f_ix hu (f_b f_str) (f_b (f_ix hu (b_v 4) (f_b f_int)))))) sc_law_made.nd)) (ss_one (s_set 3 (f_add (f_b (f_add (f_b (f_add (b_v 3) (f_b (f_ix hu (f_b (f_ix hu (b_v 4) (b_v 1))) (f_b f_int))))) (f_b (f_mul (f_b (f_ix hu (f_b (f_ix hu (b_v 4) (b_v 1))) (f_b f_int))) (b_v 2))))) (f_b (f_ix hu (f_b (f_ix hu (b_v 4) (b_v 1))) (f_b f_int)))) sc_law_made.nd)))))
      (ss_one (s_ret (f_v 3)))))
theorem sc_law_drawn_steps : FnScope N_law_drawn_steps ["script", "k", "letters", "count"] (defScope s_law_drawn_steps) := ⟨rfl, rfl, rfl, by decide +kernel, rfl, by decide +kernel, by decide +kernel⟩
def L1_law_drawn_steps : FS :=
    (sSeq (thenF 10 (sOwn 10 (eLc [14] (iAny (eSl (eW 6) (pS (o2 addD (eC (.int 2)) (o2 mulD (eC (.int 7)) (eW 9)))) (pS (o2 addD (eC (.int 9)) (o2 mulD (eC (.int 7)) (eW 9)))))) (gN 14) tYs (o2 ixD (eW 7) (o2 modD (eW 14) (eCall lenF (lC (eW 7) lN)))))))
    (sSeq (sAsg (eSlS (eW 7) pN pN (pS (o2 subD (eC (.int 1)) (o2 mulD (eC (.int 2)) (o2 modD (o2 fdivD (o2 ixD (eW 6) (eC (.int 15))) (o2 addD (eC (.int 1)) (eW 9))) (eC (.int 2))))))) (gN 11))
    (sSeq (sAsg (eMeth joinF (eC (.str "")) (lC (eW 10) lN)) (gN 12))
    (sApp 8 (eTup (lC (eSl (eW 12) pN (pS (o2 modD (o2 ixD (eW 6) (eC (.int 15))) (eC (.int 3))))) (lC (o2 addD (eMeth joinF (eC (.str "")) (lC (eW 11) lN)) (eSl (eW 12) (pS (eC (.int 2))) (pS (o2 addD (eC (.int 2)) (o2 modD (o2 ixD (eW 6) (eC (.int 14))) (eC (.int 3))))))) (lC (eSl (eW 12) (pS (eC (.int 5))) (pS (o2 addD (eC (.int 5)) (o2 modD (o2 ixD (eW 6) (eC (.int 13))) (eC (.int 3)))))) lN))))))))
def L2_law_drawn_steps : FS :=
    (sSeq (sAsg (eCall LC.F_law_draws (lC (eV 0) (lC (o2 addD (eW 1) (eW 5)) (lC (eC (.int 16)) (lC (eC (.int 5040)) lN))))) (gN 6))
    (sIf (toT (o2 eqD (o2 modD (o2 ixD (eW 6) (eC (.int 0))) (eC (.int 3))) (eC (.int 0)))) (sApp 4 (eTup (lC (eC (.str "letter")) (lC (o2 modD (o2 ixD (eW 6) (eC (.int 1))) (eW 2)) lN)))) (sSeq (sAsg (eLc [13] (iCall rng1 (lC (eV 2) lN)) (gN 13) (toT (o2 eqD (o2 andD (o2 shrD (o2 addD (eC (.int 1)) (o2 modD (o2 ixD (eW 6) (eC (.int 1))) (o2 subD (o2 shlD (eC (.int 1)) (eW 2)) (eC (.int 1))))) (eW 13)) (eC (.int 1))) (eC (.int 1)))) (o2 ixD (eC (.str "abc")) (eW 13))) (gN 7))
    (sSeq (sOwn 8 (eLst lN))
    (sSeq (sFor (iCall rng1 (lC (eC (.int 2)) lN)) (gN 9) L1_law_drawn_steps)
    (sApp 4 (eTup (lC (eC (.str "set")) (lC (o2 ixD (eW 8) (eC (.int 0))) (lC (o2 ixD (eW 8) (eC (.int 1))) lN))))))))))
def b_law_drawn_steps : FS :=
    (sSeq (sOwn 4 (eLst lN))
    (sSeq (sFor (iCall rng1 (lC (eV 3) lN)) (gN 5) L2_law_drawn_steps)
    (sFrz 4 (sRet (eV 4)))))
def F_law_drawn_steps : List D → Option D := callF 15 4 b_law_drawn_steps
theorem d_law_drawn_steps (T : Txt K mg) : DefD P w K mg base 3 "_law_drawn_steps" F_law_drawn_steps := by
  refine .of (N := N_law_drawn_steps) (b := b_law_drawn_steps) T.t_law_drawn_steps sc_law_drawn_steps fun f cdv A outer s H E hr => ?_
  have hu64 := hr.units
  have hu := hu_of hr
  have hu65 : _ + 65 < cLine := room65 hr
  exact (ss_cons (s_own 4 (n_lst a_nil) sc_law_drawn_steps.nd)
      (ss_cons (s_for PassesOwn.never rfl (i_rng1 T.n_range (a_cons (f_v 3) a_nil)) (g_name 5 sc_law_drawn_steps.nd) (ss_cons (s_set 6 (f_call (d_law_draws T) (hr.mono (by decide)) (a_cons (f_v 0) (a_cons (f_add (b_v 1) (b_v 5)) (a_cons f_int (a_cons f_int a_nil))))) sc_law_drawn_steps.nd)
      (ss_one (s_if (t_cm (c_eq hu64) (f_b (f_mod (f_b (f_ix hu (b_v 6) (f_b f_int))) (f_b f_int))) (f_b f_int) (nomark _)) (ss_one (s_app 4 (f_tup (a_cons f_str (a_cons (f_mod (f_b (f_ix hu (b_v 6) (f_b f_int))) (b_v 2)) a_nil))))) (ss_cons (s_set 7 (n_f (n_lc [("index", 13)] rfl sc_law_drawn_steps.nd (i_rng1 T.n_range (a_cons (f_v 2) a_nil)) (show blkC N_law_drawn_steps (defScope s_law_drawn_steps) _ _ = true by decide +kernel) (fun _ _ _ _ _ => (gc_name 13 sc_law_drawn_steps.nd)) (fun _ _ _ _ _ => (ts_one (t_cm (c_eq hu64) (f_b (f_bitand (f_b (f_shr (f_b (f_add (f_b f_int) (f_b (f_mod (f_b (f_ix hu (b_v 6) (f_b f_int))) (f_b (f_sub (f_b (f_shl (f_b f_int) (b_v 2))) (f_b f_int))))))) (b_v 13))) (f_b f_int))) (f_b f_int) (nomark _)))) (fun _ _ _ _ _ => (f_ix hu (f_b f_str) (b_v 13))))) sc_law_drawn_steps.nd)
      (ss_cons (s_own 8 (n_lst a_nil) sc_law_drawn_steps.nd)
      (ss_cons (s_for PassesOwn.never rfl (i_rng1 T.n_range (a_cons f_int a_nil)) (g_name 9 sc_law_drawn_steps.nd) (ss_cons (s_thenF 10 (s_lc 10 [("pick", 14)] rfl sc_law_drawn_steps.nd (i_any (f_sl (b_v 6) (p_some (f_add (f_b f_int) (f_b (f_mul (f_b f_int) (b_v 9))))) (p_some (f_add (f_b f_int) (f_b (f_mul (f_b f_int) (b_v 9))))))) (show blkC N_law_drawn_steps (defScope s_law_drawn_steps) _ _ = true by decide +kernel) (fun _ _ _ _ _ => (gc_name 14 sc_law_drawn_steps.nd)) (fun _ _ _ _ _ => ts_nil) (fun _ _ _ _ _ => (f_ix hu (b_v 7) (f_b (f_mod (b_v 14) (f_b (f_len T.n_len (ab_cons (b_v 7) ab_nil)))))))))
      (ss_cons (s_set 11 (f_slS (b_v 7) p_none p_none (p_some (f_sub (f_b f_int) (f_b (f_mul (f_b f_int) (f_b (f_mod (f_b (f_fdiv (f_b (f_ix hu (b_v 6) (f_b f_int))) (f_b (f_add (f_b f_int) (b_v 9))))) (f_b f_int)))))))) sc_law_drawn_steps.nd)
      (ss_cons (s_set 12 (f_join (f_b f_str) (ab_cons (b_v 10) ab_nil)) sc_law_drawn_steps.nd)
      (ss_one (s_app 8 (f_tup (a_cons (f_sl (b_v 12) p_none (p_some (f_mod (f_b (f_ix hu (b_v 6) (f_b f_int))) (f_b f_int)))) (a_cons (f_add (f_b (f_join (f_b f_str) (ab_cons (b_v 11) ab_nil))) (f_b (f_sl (b_v 12) (p_some f_int) (p_some (f_add (f_b f_int) (f_b (f_mod (f_b (f_ix hu (b_v 6) (f_b f_int))) (f_b f_int)))))))) (a_cons (f_sl (b_v 12) (p_some f_int) (p_some (f_add (f_b f_int) (f_b (f_mod (f_b (f_ix hu (b_v 6) (f_b f_int))) (f_b f_int)))))) a_nil))))))))))
      (ss_one (s_app 4 (f_tup (a_cons f_str (a_cons (f_ix hu (b_v 8) (f_b f_int)) (a_cons (f_ix hu (b_v 8) (f_b f_int)) a_nil)))))))))))))
      (ss_one (s_frz 4 (s_ret (f_v 4))))))
theorem sc_law : FnScope N_law ["script"] (defScope s_law) := ⟨rfl, rfl, rfl, by decide +kernel, rfl, by decide +kernel, by decide +kernel⟩
def L1_law : FS :=
    (sSeq (sAsg (eCall lstF (lC (eW 3) lN)) (gN 5))
    (sSeq (sAsg (eTup (lC (eCall F_law_made (lC (eV 3) (lC (eC (.int 1)) (lC (eV 4) lN)))) (lC (eCall F_law_made (lC (eV 3) (lC (eC (.int 2)) (lC (eV 4) lN)))) lN))) (gN 6))
    (sSeq (sIf (tOrF (tNotF (toT (eCall (LC.F_law_same 4) (lC (eCall F_bond_words (lC (eV 5) (lC (eV 4) lN))) (lC (eV 6) lN))))) (tNotF (toT (eCall (LC.F_law_same 4) (lC (eV 5) (lC (eV 3) lN)))))) (sRet (eC (.bool false))) sNx)
    (sIf (toT (o2 ltD (eW 4) (eC (.int 4)))) (sSeq (sIf (toT (o2 neD (eCall LD.F_law_subwords (lC (eV 4) (lC (eV 2) (lC (o2 ixD (eW 6) (eC (.int 0))) lN)))) (eCall LD.F_law_subwords (lC (eV 4) (lC (eV 2) (lC (o2 ixD (eW 6) (eC (.int 1))) lN)))))) (sRet (eC (.bool false))) sNx)
    (sIf (toT (o2 isnD (eCall F_alike (lC (eC (.str "scattered")) (lC (eV 4) (lC (eV 2) (lC (o2 ixD (eW 6) (eC (.int 0))) (lC (o2 ixD (eW 6) (eC (.int 1))) lN)))))) (eC (.bool true)))) (sRet (eC (.bool false))) sNx)) sNx))))
def b_law : FS :=
    (sSeq (sAsg (eCall LC.F_law_draws (lC (eV 0) (lC (eC (.int 0)) (lC (eC (.int 3)) (lC (eC (.int 5040)) lN))))) (gN 1))
    (sSeq (sAsg (o2 addD (eC (.int 1)) (o2 modD (o2 ixD (eW 1) (eC (.int 0))) (eC (.int 3)))) (gN 2))
    (sSeq (sAsg (eCall F_law_drawn_steps (lC (eV 0) (lC (eC (.int 1)) (lC (eV 2) (lC (o2 modD (o2 ixD (eW 1) (eC (.int 1))) (eC (.int 5))) lN))))) (gN 3))
    (sSeq (sFor (iCall rng2 (lC (eC (.int 1)) (lC (eC (.int 5)) lN))) (gN 4) L1_law)
    (sRet (eC (.bool true)))))))
def F_law : List D → Option D := callF 7 1 b_law
theorem ok_law {f : Addr} {fd : FuncData} (T : Txt K mg) (F : Fun K "law" "law" s_law f fd) : FnOk P w K mg base CX0 7 f fd ["script"] (spD ⟨P, w, K⟩ 1 F_law) := by
  refine F.okD (N := N_law) (b := b_law) sc_law fun cdv A outer s H E hr => ?_
  have hu64 := hr.units
  have hu := hu_of hr
  have hu65 : _ + 65 < cLine := room65 hr
  exact (ss_cons (s_set 1 (f_call (d_law_draws T) (hr.mono (by decide)) (a_cons (f_v 0) (a_cons f_int (a_cons f_int (a_cons f_int a_nil))))) sc_law.nd)
      (ss_cons (s_set 2 (f_add (f_b f_int) (f_b (f_mod (f_b (f_ix hu (b_v 1) (f_b f_int))) (f_b f_int)))) sc_law.nd)
      (ss_cons (s_set 3 (f_call (d_law_drawn_steps T) (hr.mono (by decide)) (a_cons (f_v 0) (a_cons f_int (a_cons (f_v 2) (a_cons (f_mod (f_b (f_ix hu (b_v 1) (f_b f_int))) (f_b f_int)) a_nil))))) sc_law.nd)
      (ss_cons (s_for PassesOwn.never rfl (i_rng2 T.n_range (a_cons f_int (a_cons f_int a_nil))) (g_name 4 sc_law.nd) (ss_cons (s_set 5 (f_list rfl T.n_list (ab_cons (b_v 3) ab_nil)) sc_law.nd)
      (ss_cons (s_set 6 (f_tup (a_cons (f_call (d_law_made T) (hr.mono (by decide)) (a_cons (f_v 3) (a_cons f_int (a_cons (f_v 4) a_nil)))) (a_cons (f_call (d_law_made T) (hr.mono (by decide)) (a_cons (f_v 3) (a_cons f_int (a_cons (f_v 4) a_nil)))) a_nil))) sc_law.nd)
      (ss_cons (s_if (t_w (w_or (t_not (t_val (f_call (d_law_same T 4) (hr.mono (by decide)) (a_cons (f_call (d_bond_words T) (hr.mono (by decide)) (a_cons (f_v 5) (a_cons (f_v 4) a_nil))) (a_cons (f_v 6) a_nil))))) (w_or1 (t_not (t_val (f_call (d_law_same T 4) (hr.mono (by decide)) (a_cons (f_v 5) (a_cons (f_v 3) a_nil)))))))) (ss_one (s_ret f_bl)) ss_nil)
      (ss_one (s_if (t_cm c_lt (b_v 4) (f_b f_int) (nomark _)) (ss_cons (s_if (t_cm (c_ne hu64) (f_b (f_call (d_law_subwords T) (hr.mono (by decide)) (a_cons (f_v 4) (a_cons (f_v 2) (a_cons (f_ix hu (b_v 6) (f_b f_int)) a_nil))))) (f_b (f_call (d_law_subwords T) (hr.mono (by decide)) (a_cons (f_v 4) (a_cons (f_v 2) (a_cons (f_ix hu (b_v 6) (f_b f_int)) a_nil))))) (nomark _)) (ss_one (s_ret f_bl)) ss_nil)
      (ss_one (s_if (t_cm c_isn (f_b (f_call (d_alike T) (hr.mono (by decide)) (a_cons f_str (a_cons (f_v 4) (a_cons (f_v 2) (a_cons (f_ix hu (b_v 6) (f_b f_int)) (a_cons (f_ix hu (b_v 6) (f_b f_int)) a_nil))))))) (f_b f_bl) (nomark _)) (ss_one (s_ret f_bl)) ss_nil))) ss_nil))))))
      (ss_one (s_ret f_bl))))))
end
/-- what the top has written -/
theorem all_mk {l : PySem.W.OpenLaw} {w : World} {K : PySem.W.Frag} {h : Heap} {mg : Str → Option Value} {fa : Addr} (hT : ∀ ns : List Int, ns.length ≤ 63 → F_law [scrD ns] = some (.bool true)) (X : K.In h) (G : h.Ns mainGlobals mg) (hfa : mg "law" = some (.ref fa))
    {od0 an0 : Option Addr} {sl0 : Array (Option Value)} {oc0 kV0 dc0 pm0 cd0 ct0 : Value} {f0 : Addr}
    {od1 an1 : Option Addr} {sl1 : Array (Option Value)} {oc1 kV1 dc1 pm1 cd1 ct1 : Value} {f1 : Addr}
    {od2 an2 : Option Addr} {sl2 : Array (Option Value)} {oc2 kV2 dc2 pm2 cd2 ct2 : Value} {f2 : Addr}
    {od3 an3 : Option Addr} {sl3 : Array (Option Value)} {oc3 kV3 dc3 pm3 cd3 ct3 : Value} {f3 : Addr}
    {od4 an4 : Option Addr} {sl4 : Array (Option Value)} {oc4 kV4 dc4 pm4 cd4 ct4 : Value} {f4 : Addr}
    {od5 an5 : Option Addr} {sl5 : Array (Option Value)} {oc5 kV5 dc5 pm5 cd5 ct5 : Value} {f5 : Addr}
    {od6 an6 : Option Addr} {sl6 : Array (Option Value)} {oc6 kV6 dc6 pm6 cd6 ct6 : Value} {f6 : Addr}
    {od7 an7 : Option Addr} {sl7 : Array (Option Value)} {oc7 kV7 dc7 pm7 cd7 ct7 : Value} {f7 : Addr}
    {od8 an8 : Option Addr} {sl8 : Array (Option Value)} {oc8 kV8 dc8 pm8 cd8 ct8 : Value} {f8 : Addr}
    {od9 an9 : Option Addr} {sl9 : Array (Option Value)} {oc9 kV9 dc9 pm9 cd9 ct9 : Value} {f9 : Addr}
    {od10 an10 : Option Addr} {sl10 : Array (Option Value)} {oc10 kV10 dc10 pm10 cd10 ct10 : Value} {f10 : Addr}
    {od11 an11 : Option Addr} {sl11 : Array (Option Value)} {oc11 kV11 dc11 pm11 cd11 ct11 : Value} {f11 : Addr}
    {od12 an12 : Option Addr} {sl12 : Array (Option Value)} {oc12 kV12 dc12 pm12 cd12 ct12 : Value} {f12 : Addr}
    {od13 an13 : Option Addr} {sl13 : Array (Option Value)} {oc13 kV13 dc13 pm13 cd13 ct13 : Value} {f13 : Addr}
    {tk_LETTERS : Tok}
    {ad_MANNERS : Addr} {dd_MANNERS : Option Addr} {nn_MANNERS : Nat} {ss_MANNERS : Array (Option Value)} {tk0_MANNERS : Tok} {tk1_MANNERS : Tok} {tk2_MANNERS : Tok} {tk3_MANNERS : Tok} {tk4_MANNERS : Tok} {tk5_MANNERS : Tok} {tk6_MANNERS : Tok} {tk7_MANNERS : Tok}
    (a0 : PySem.W.nsIn K mainGlobals "short_key" = some (some (.ref f0))) (l0 : K.lookup f0 = some ⟨oc0, od0, .func (PySem.W.fnOf "short_key" "short_key" (defArgs s_short_key) (defBody s_short_key) (defScope s_short_key) .none kV0 dc0 pm0 an0 cd0 ct0), sl0⟩) (c0 : PySem.W.codeIn K cd0 "short_key" = true) (k0 : PySem.W.keepIn K (.ref f0) = true)
    (a1 : PySem.W.nsIn K mainGlobals "scattered_words" = some (some (.ref f1))) (l1 : K.lookup f1 = some ⟨oc1, od1, .func (PySem.W.fnOf "scattered_words" "scattered_words" (defArgs s_scattered_words) (defBody s_scattered_words) (defScope s_scattered_words) .none kV1 dc1 pm1 an1 cd1 ct1), sl1⟩) (c1 : PySem.W.codeIn K cd1 "scattered_words" = true) (k1 : PySem.W.keepIn K (.ref f1) = true)
    (a2 : PySem.W.nsIn K mainGlobals "bond_words" = some (some (.ref f2))) (l2 : K.lookup f2 = some ⟨oc2, od2, .func (PySem.W.fnOf "bond_words" "bond_words" (defArgs s_bond_words) (defBody s_bond_words) (defScope s_bond_words) .none kV2 dc2 pm2 an2 cd2 ct2), sl2⟩) (c2 : PySem.W.codeIn K cd2 "bond_words" = true) (k2 : PySem.W.keepIn K (.ref f2) = true)
    (a3 : PySem.W.nsIn K mainGlobals "check_manner" = some (some (.ref f3))) (l3 : K.lookup f3 = some ⟨oc3, od3, .func (PySem.W.fnOf "check_manner" "check_manner" (defArgs s_check_manner) (defBody s_check_manner) (defScope s_check_manner) .none kV3 dc3 pm3 an3 cd3 ct3), sl3⟩) (c3 : PySem.W.codeIn K cd3 "check_manner" = true) (k3 : PySem.W.keepIn K (.ref f3) = true)
    (a4 : PySem.W.nsIn K mainGlobals "view" = some (some (.ref f4))) (l4 : K.lookup f4 = some ⟨oc4, od4, .func (PySem.W.fnOf "view" "view" (defArgs s_view) (defBody s_view) (defScope s_view) .none kV4 dc4 pm4 an4 cd4 ct4), sl4⟩) (c4 : PySem.W.codeIn K cd4 "view" = true) (k4 : PySem.W.keepIn K (.ref f4) = true)
    (a5 : PySem.W.nsIn K mainGlobals "alike" = some (some (.ref f5))) (l5 : K.lookup f5 = some ⟨oc5, od5, .func (PySem.W.fnOf "alike" "alike" (defArgs s_alike) (defBody s_alike) (defScope s_alike) .none kV5 dc5 pm5 an5 cd5 ct5), sl5⟩) (c5 : PySem.W.codeIn K cd5 "alike" = true) (k5 : PySem.W.keepIn K (.ref f5) = true)
    (a6 : PySem.W.nsIn K mainGlobals "_law_same" = some (some (.ref f6))) (l6 : K.lookup f6 = some ⟨oc6, od6, .func (PySem.W.fnOf "_law_same" "_law_same" (defArgs s_law_same) (defBody s_law_same) (defScope s_law_same) .none kV6 dc6 pm6 an6 cd6 ct6), sl6⟩) (c6 : PySem.W.codeIn K cd6 "_law_same" = true) (k6 : PySem.W.keepIn K (.ref f6) = true)
    (a7 : PySem.W.nsIn K mainGlobals "_law_number" = some (some (.ref f7))) (l7 : K.lookup f7 = some ⟨oc7, od7, .func (PySem.W.fnOf "_law_number" "_law_number" (defArgs s_law_number) (defBody s_law_number) (defScope s_law_number) .none kV7 dc7 pm7 an7 cd7 ct7), sl7⟩) (c7 : PySem.W.codeIn K cd7 "_law_number" = true) (k7 : PySem.W.keepIn K (.ref f7) = true)
    (a8 : PySem.W.nsIn K mainGlobals "_law_draws" = some (some (.ref f8))) (l8 : K.lookup f8 = some ⟨oc8, od8, .func (PySem.W.fnOf "_law_draws" "_law_draws" (defArgs s_law_draws) (defBody s_law_draws) (defScope s_law_draws) .none kV8 dc8 pm8 an8 cd8 ct8), sl8⟩) (c8 : PySem.W.codeIn K cd8 "_law_draws" = true) (k8 : PySem.W.keepIn K (.ref f8) = true)
    (a9 : PySem.W.nsIn K mainGlobals "_law_scattered" = some (some (.ref f9))) (l9 : K.lookup f9 = some ⟨oc9, od9, .func (PySem.W.fnOf "_law_scattered" "_law_scattered" (defArgs s_law_scattered) (defBody s_law_scattered) (defScope s_law_scattered) .none kV9 dc9 pm9 an9 cd9 ct9), sl9⟩) (c9 : PySem.W.codeIn K cd9 "_law_scattered" = true) (k9 : PySem.W.keepIn K (.ref f9) = true)
    (a10 : PySem.W.nsIn K mainGlobals "_law_subwords" = some (some (.ref f10))) (l10 : K.lookup f10 = some ⟨oc10, od10, .func (PySem.W.fnOf "_law_subwords" "_law_subwords" (defArgs s_law_subwords) (defBody s_law_subwords) (defScope s_law_subwords) .none kV10 dc10 pm10 an10 cd10 ct10), sl10⟩) (c10 : PySem.W.codeIn K cd10 "_law_subwords" = true) (k10 : PySem.W.keepIn K (.ref f10) = true)
    (a11 : PySem.W.nsIn K mainGlobals "_law_made" = some (some (.ref f11))) (l11 : K.lookup f11 = some ⟨oc11, od11, .func (PySem.W.fnOf "_law_made" "_law_made" (defArgs s_law_made) (defBody s_law_made) (defScope s_law_made) .none kV11 dc11 pm11 an11 cd11 ct11), sl11⟩) (c11 : PySem.W.codeIn K cd11 "_law_made" = true) (k11 : PySem.W.keepIn K (.ref f11) = true)
    (a12 : PySem.W.nsIn K mainGlobals "_law_drawn_steps" = some (some (.ref f12))) (l12 : K.lookup f12 = some ⟨oc12, od12, .func (PySem.W.fnOf "_law_drawn_steps" "_law_drawn_steps" (defArgs s_law_drawn_steps) (defBody s_law_drawn_steps) (defScope s_law_drawn_steps) .none kV12 dc12 pm12 an12 cd12 ct12), sl12⟩) (c12 : PySem.W.codeIn K cd12 "_law_drawn_steps" = true) (k12 : PySem.W.keepIn K (.ref f12) = true)
    (a13 : PySem.W.nsIn K mainGlobals "law" = some (some (.ref f13))) (l13 : K.lookup f13 = some ⟨oc13, od13, .func (PySem.W.fnOf "law" "law" (defArgs s_law) (defBody s_law) (defScope s_law) .none kV13 dc13 pm13 an13 cd13 ct13), sl13⟩) (c13 : PySem.W.codeIn K cd13 "law" = true) (k13 : PySem.W.keepIn K (.ref f13) = true)
    (z_abs : PySem.W.nsIn K mainGlobals "abs" = some none)
    (z_bool : PySem.W.nsIn K mainGlobals "bool" = some none)
    (z_int : PySem.W.nsIn K mainGlobals "int" = some none)
    (z_isinstance : PySem.W.nsIn K mainGlobals "isinstance" = some none)
    (z_len : PySem.W.nsIn K mainGlobals "len" = some none)
    (z_list : PySem.W.nsIn K mainGlobals "list" = some none)
    (z_min : PySem.W.nsIn K mainGlobals "min" = some none)
    (z_range : PySem.W.nsIn K mainGlobals "range" = some none)
    (z_sorted : PySem.W.nsIn K mainGlobals "sorted" = some none)
    (z_str : PySem.W.nsIn K mainGlobals "str" = some none)
    (z_sum : PySem.W.nsIn K mainGlobals "sum" = some none)
    (z_tuple : PySem.W.nsIn K mainGlobals "tuple" = some none)
    (y_LETTERS : PySem.W.nsIn K mainGlobals "LETTERS" = some (some (.str "abc" tk_LETTERS)))
    (y_MANNERS : PySem.W.nsIn K mainGlobals "MANNERS" = some (some (.ref ad_MANNERS)))
    (w_MANNERS : K.lookup ad_MANNERS = some ⟨.type "tuple", dd_MANNERS, .seq #[.str "last" tk0_MANNERS, .str "first" tk1_MANNERS, .str "ends" tk2_MANNERS, .str "slit" tk3_MANNERS, .str "scattered" tk4_MANNERS, .str "rising" tk5_MANNERS, .str "falling" tk6_MANNERS, .str "counts" tk7_MANNERS] nn_MANNERS, ss_MANNERS⟩)
    : ∃ fd : FuncData, (∀ (s : Shared) (v : Value), BindsTo s fd ⟨[v], []⟩ [("script", v)]) ∧ ∀ base : Heap, K.In base → base.Ns mainGlobals mg → FnOk l.prog w K mg base CX0 7 fa fd ["script"] (spLaw K) := by
  have e := hfa.symm.trans (PySem.W.mg_of X G a13)
  cases e
  have T : Txt K mg := ⟨.mk' X G a0 l0 c0 k0 (fun _ _ _ _ _ _ us hl => match us, hl with | [_], _ => rfl),
    .mk' X G a1 l1 c1 k1 (fun _ _ _ _ _ _ us hl => match us, hl with | [_, _], _ => rfl),
    .mk' X G a2 l2 c2 k2 (fun _ _ _ _ _ _ us hl => match us, hl with | [_, _], _ => rfl),
    .mk' X G a3 l3 c3 k3 (fun _ _ _ _ _ _ us hl => match us, hl with | [_], _ => rfl),
    .mk' X G a4 l4 c4 k4 (fun _ _ _ _ _ _ us hl => match us, hl with | [_, _, _, _], _ => rfl),
    .mk' X G a5 l5 c5 k5 (fun _ _ _ _ _ _ us hl => match us, hl with | [_, _, _, _, _], _ => rfl),
    .mk' X G a6 l6 c6 k6 (fun _ _ _ _ _ _ us hl => match us, hl with | [_, _], _ => rfl),
    .mk' X G a7 l7 c7 k7 (fun _ _ _ _ _ _ us hl => match us, hl with | [_, _], _ => rfl),
    .mk' X G a8 l8 c8 k8 (fun _ _ _ _ _ _ us hl => match us, hl with | [_, _, _, _], _ => rfl),
    .mk' X G a9 l9 c9 k9 (fun _ _ _ _ _ _ us hl => match us, hl with | [_, _], _ => rfl),
    .mk' X G a10 l10 c10 k10 (fun _ _ _ _ _ _ us hl => match us, hl with | [_, _, _], _ => rfl),
    .mk' X G a11 l11 c11 k11 (fun _ _ _ _ _ _ us hl => match us, hl with | [_, _, _], _ => rfl),
    .mk' X G a12 l12 c12 k12 (fun _ _ _ _ _ _ us hl => match us, hl with | [_, _, _, _], _ => rfl),
    .mk' X G a13 l13 c13 k13 (fun _ _ _ _ _ _ us hl => match us, hl with | [_], _ => rfl),
    PySem.W.mg_none_of X G z_abs,
    PySem.W.mg_none_of X G z_bool,
    PySem.W.mg_none_of X G z_int,
    PySem.W.mg_none_of X G z_isinstance,
    PySem.W.mg_none_of X G z_len,
    PySem.W.mg_none_of X G z_list,
    PySem.W.mg_none_of X G z_min,
    PySem.W.mg_none_of X G z_range,
    PySem.W.mg_none_of X G z_sorted,
    PySem.W.mg_none_of X G z_str,
    PySem.W.mg_none_of X G z_sum,
    PySem.W.mg_none_of X G z_tuple,
    ⟨_, PySem.W.mg_of X G y_LETTERS⟩,
    ⟨_, _, _, _, PySem.W.mg_of X G y_MANNERS, w_MANNERS, rfl, rfl, by rw [sizeLine_eq]; show 8 ≤ _; decide, (.cons ⟨_, rfl⟩ (.cons ⟨_, rfl⟩ (.cons ⟨_, rfl⟩ (.cons ⟨_, rfl⟩ (.cons ⟨_, rfl⟩ (.cons ⟨_, rfl⟩ (.cons ⟨_, rfl⟩ (.cons ⟨_, rfl⟩ .nil))))))))⟩⟩
  exact ⟨_, fun s v => .of_eq rfl, fun base _ _ => law_imp (ok_law T (fun_mk (st := s_law) l13 c13 k13)) hT⟩
theorem walk {l : PySem.W.OpenLaw} {q : Program} {loose : List Str} {XP : (Str → Option Value) → Heap → Prop} {YP : World → Heap → Prop} {d : DefRec} {K : Params → PySem.W.Frag} (hn : l.most = some 63) (hdf : d.params.defaults = [])
    (hY : ∀ (w : World) (h : Heap), YP w h → (K w.params).In h)
    (F : ∀ (w : World) (mg : Str → Option Value) (fa : Addr) (h : Heap), (K w.params).In h → h.Ns mainGlobals mg → mg d.name = some (.ref fa) →
      ∃ fd : FuncData, (∀ (s : Shared) (u : Value), BindsTo s fd ⟨[u], []⟩ [("script", u)]) ∧ ∀ base : Heap, (K w.params).In base → base.Ns mainGlobals mg → FnOk l.prog w (K w.params) mg base CX0 7 fa fd ["script"] (spLaw (K w.params))) :
    PySem.W.WalkO q loose XP YP l.row.toRowW d [] (fun f vs => PySem.call f vs) :=
  L2.walk_of (n := 63) (k := 7) (x := "script") (CX := fun _ => CX0) (sp := fun w => spLaw (K w.params)) hn (by decide) hdf ⟨rfl, by decide, by decide⟩ hY F (fun _ _ a ns hl _ hS => ⟨a, ns, rfl, hS, hl, fun _ => rfl⟩) fun _ _ _ _ _ z => z
end G79
end

set_option Elab.async false
set_option linter.all false
set_option maxRecDepth 100000
set_option maxHeartbeats 4000000
namespace G79
open PySem L2 DV M77 M79 LC LD
/-! ### short_key -/
theorem short_key_eq {w : List Nat} (h : w.length ≤ 16777216) : F_short_key [dW w] = some (kD ((w.length : Int), wd w)) := by
  have c1 := len_wd h
  rw [F_short_key, callF_1, b_short_key]
  simp only [bind0_e, List.map_cons, List.map_nil, List.length_cons, List.length_nil, List.replicate, List.cons_append, List.nil_append]
  simp only [sRet_e, eTup_e, lC_e, lN_e, eCall_e, eW_e, eV_e, List.getElem?_cons_zero, getW_s, getV_s, consO_s, Option.bind_some, c1, tupO_2, rtO_s, endF_rt]
  rfl
theorem keyO_eq {w : List Nat} (h : w.length ≤ 16777216) : keyO F_short_key (dW w) = ((w.length : Int), wd w) := by
  unfold keyO
  rw [short_key_eq h]
  rfl
/-! ### the loop -/
def stepK (k c : Nat) (ks : List (List Nat)) (o : List Nat) : List (List Nat) := if o.length < k then addK ks (o ++ [c]) else ks
theorem stepK_len (k c : Nat) (ks : List (List Nat)) (o : List Nat) : (stepK k c ks o).length ≤ ks.length + 1 := by
  unfold stepK
  split
  · exact addK_len _ _
  · omega
theorem fold_nodup {k c : Nat} : ∀ (os ks : List (List Nat)), ks.Nodup → (os.foldl (stepK k c) ks).Nodup
  | [], ks, h => h
  | o :: os, ks, h => by
    rw [List.foldl_cons]
    refine fold_nodup os _ ?_
    unfold stepK
    split
    · exact addK_nodup h
    · exact h
theorem fold_mem {k c : Nat} {u : List Nat} : ∀ (os ks : List (List Nat)), u ∈ os.foldl (stepK k c) ks ↔ u ∈ ks ∨ ∃ o ∈ os, o.length < k ∧ u = o ++ [c]
  | [], ks => by simp
  | o :: os, ks => by
    rw [List.foldl_cons, fold_mem os]
    unfold stepK
    split
    · rename_i h
      rw [addK_mem]
      constructor
      · rintro ((z | z) | ⟨x, hx, z⟩)
        · exact .inl z
        · exact .inr ⟨o, List.mem_cons_self, h, z⟩
        · exact .inr ⟨x, List.mem_cons_of_mem _ hx, z⟩
      · rintro (z | ⟨x, hx, z⟩)
        · exact .inl (.inl z)
        · rcases List.mem_cons.mp hx with rfl | hx
          · exact .inl (.inr z.2)
          · exact .inr ⟨x, hx, z⟩
    · rename_i h
      constructor
      · rintro (z | ⟨x, hx, z⟩)
        · exact .inl z
        · exact .inr ⟨x, List.mem_cons_of_mem _ hx, z⟩
      · rintro (z | ⟨x, hx, z⟩)
        · exact .inl z
        · rcases List.mem_cons.mp hx with rfl | hx
          · exact absurd z.1 h
          · exact .inr ⟨x, hx, z⟩
theorem sc_inner {k c : Nat} {a1 : Option Sl} : ∀ (os ks : List (List Nat)) (o4 : Option Sl), ks.length + os.length ≤ 1000000 → (∀ o ∈ os, o.length ≤ 1000) →
    ∃ o4', forL (gN 4) L1_scattered_words (os.map dW) [some (.shr (dN k)), a1, some (.own (dS ks)), some (.shr (dW [c])), o4] =
      some (.nx [some (.shr (dN k)), a1, some (.own (dS (os.foldl (stepK k c) ks))), some (.shr (dW [c])), o4'])
  | [], ks, o4, _, _ => ⟨o4, rfl⟩
  | o :: os, ks, o4, hl, ho => by
    simp at hl
    have hsl := stepK_len k c ks o
    obtain ⟨o4', e⟩ := sc_inner (k := k) (c := c) (a1 := a1) os (stepK k c ks o) (some (.shr (dW o))) (by omega) (fun x hx => ho x (List.mem_cons_of_mem _ hx))
    refine ⟨o4', ?_⟩
    have h1 := ho o List.mem_cons_self
    have c1 := len_wd (l := o) (by omega)
    have c2 := add_wd (l := o) (m := [c]) (by simp; omega)
    have c3 := put_dS (ks := ks) (w := o ++ [c]) (by omega)
    rw [List.map_cons, forL_cons, List.foldl_cons]
    show turnS (L1_scattered_words [some (.shr (dN k)), a1, some (.own (dS ks)), some (.shr (dW [c])), some (.shr (dW o))]) _ = _
    have st : L1_scattered_words [some (.shr (dN k)), a1, some (.own (dS ks)), some (.shr (dW [c])), some (.shr (dW o))] = some (.nx [some (.shr (dN k)), a1, some (.own (dS (stepK k c ks o))), some (.shr (dW [c])), some (.shr (dW o))]) := by
      unfold stepK
      by_cases h : o.length < k
      · have hd : decide ((o.length : Int) < (k : Int)) = true := decide_eq_true (by omega)
        rw [if_pos h, L1_scattered_words]
        simp only [sIf_e, toT_e, o2_e, eCall_e, lC_e, lN_e, eW_e, eC_e, List.getElem?_cons_succ, List.getElem?_cons_zero, getW_s, consO_s, Option.bind_some, c1, ap2_s, lt_ii, asB_b, hd, iteS_t, sPut_e, c2, putSO_s, putS_o, c3, Option.map_some, List.set_cons_succ, List.set_cons_zero]
      · have hd : decide ((o.length : Int) < (k : Int)) = false := decide_eq_false (by omega)
        rw [if_neg h, L1_scattered_words]
        simp only [sIf_e, toT_e, o2_e, eCall_e, lC_e, lN_e, eW_e, eC_e, List.getElem?_cons_succ, List.getElem?_cons_zero, getW_s, consO_s, Option.bind_some, c1, ap2_s, lt_ii, asB_b, hd, iteS_f, sNx_e]
    rw [st, turnS_nx, e]
def IvK (k : Nat) (p : List Nat) (ks : List (List Nat)) : Prop := ks.Nodup ∧ ∀ u, u ∈ ks ↔ sub u p = true ∧ u.length ≤ k
theorem mem_wordsOf {k : Nat} : ∀ (w : List Nat), ok k w → w ∈ M77.wordsOf k w.length
  | [], _ => by simp [M77.wordsOf]
  | c :: w, h => by
    rw [List.length_cons, wordsOf_pre]
    refine List.mem_flatMap.mpr ⟨c, List.mem_range.mpr (h c List.mem_cons_self), List.mem_map.mpr ⟨w, mem_wordsOf w fun x hx => h x (List.mem_cons_of_mem _ hx), rfl⟩⟩
theorem mem_upTo {k n : Nat} {w : List Nat} (h : ok k w) (hn : w.length ≤ n) : w ∈ upTo k n := List.mem_flatMap.mpr ⟨w.length, List.mem_range.mpr (by omega), mem_wordsOf w h⟩
theorem IvK.len {k : Nat} {p : List Nat} {ks : List (List Nat)} (h : IvK k p ks) (hk : k ≤ 3) (ho : ok 3 p) : ks.length ≤ 40 := by
  have h1 := nodup_len_le h.1 (m := upTo 3 k) fun u hu => mem_upTo (fun c hc => ho c (sub_mem ((h.2 u).mp hu).1 c hc)) ((h.2 u).mp hu).2
  rw [upTo_len] at h1
  have : cnt 3 k ≤ 40 := by
    rcases (show k = 0 ∨ k = 1 ∨ k = 2 ∨ k = 3 by omega) with z | z | z | z <;> subst z <;> decide
  omega
theorem sc_outer {k : Nat} {a1 : Option Sl} (hk : k ≤ 3) : ∀ (s p : List Nat) (ks : List (List Nat)) (o3 o4 : Option Sl), IvK k p ks → ok 3 (p ++ s) →
    ∃ ks' o3' o4', forL (gN 3) L2_scattered_words (s.map fun c => dW [c]) [some (.shr (dN k)), a1, some (.own (dS ks)), o3, o4] =
      some (.nx [some (.shr (dN k)), a1, some (.own (dS ks')), o3', o4']) ∧ IvK k (p ++ s) ks'
  | [], p, ks, o3, o4, h, _ => ⟨ks, o3, o4, rfl, by simpa using h⟩
  | c :: s, p, ks, o3, o4, h, ho => by
    have hl := h.len hk fun x hx => ho x (List.mem_append_left _ hx)
    have hiv : IvK k (p ++ [c]) (ks.foldl (stepK k c) ks) := by
      refine ⟨fold_nodup ks ks h.1, fun u => ?_⟩
      rw [fold_mem, sub_snoc, h.2 u]
      constructor
      · rintro (z | ⟨o, ho, z, rfl⟩)
        · exact ⟨.inl z.1, z.2⟩
        · exact ⟨.inr ⟨o, rfl, ((h.2 o).mp ho).1⟩, by simp; omega⟩
      · rintro ⟨z | ⟨v, rfl, z⟩, y⟩
        · exact .inl ⟨z, y⟩
        · simp at y
          exact .inr ⟨v, (h.2 v).mpr ⟨z, by omega⟩, by omega, rfl⟩
    obtain ⟨o4', e1⟩ := sc_inner (k := k) (c := c) (a1 := a1) ks ks o4 (by omega) (fun o ho => by have := ((h.2 o).mp ho).2; omega)
    obtain ⟨ks', o3', o4'', e2, h2⟩ := sc_outer (a1 := a1) hk s (p ++ [c]) _ (some (.shr (dW [c]))) o4' hiv (by simpa using ho)
    refine ⟨ks', o3', o4'', ?_, by simpa using h2⟩
    have c1 := keys_dS ks
    rw [List.map_cons, forL_cons]
    show turnS (L2_scattered_words [some (.shr (dN k)), a1, some (.own (dS ks)), some (.shr (dW [c])), o4]) _ = _
    have st : L2_scattered_words [some (.shr (dN k)), a1, some (.own (dS ks)), some (.shr (dW [c])), o4] = some (.nx [some (.shr (dN k)), a1, some (.own (dS (ks.foldl (stepK k c) ks))), some (.shr (dW [c])), o4']) := by
      rw [L2_scattered_words]
      simp only [sFor_e, iAny_e, eCall_e, lC_e, lN_e, eW_e, List.getElem?_cons_succ, List.getElem?_cons_zero, getW_o, consO_s, Option.bind_some, c1, itemsD, forO_s, e1]
    rw [st, turnS_nx, e2]
noncomputable def srtW (ks : List (List Nat)) : List D := (ks.map dW).mergeSort fun a b => !kLt (keyO F_short_key b) (keyO F_short_key a)
theorem key_inj {ks : List (List Nat)} (h : ∀ u ∈ ks, u.length ≤ 1000) : ∀ a ∈ ks.map dW, ∀ b ∈ ks.map dW, keyO F_short_key a = keyO F_short_key b → a = b := by
  intro a ha b hb e
  obtain ⟨u, hu, rfl⟩ := List.mem_map.mp ha
  obtain ⟨v, hv, rfl⟩ := List.mem_map.mp hb
  have h1 := h u hu
  have h2 := h v hv
  rw [keyO_eq (by omega), keyO_eq (by omega)] at e
  exact congrArg PyData.str (Prod.mk.inj e).2
theorem srtW_perm {ks ks' : List (List Nat)} (h : ∀ u ∈ ks, u.length ≤ 1000) (p : ks.Perm ks') : srtW ks = srtW ks' := by
  have O := kLt_swo (keyO F_short_key)
  have h1 := List.pairwise_mergeSort (le := fun a b => !kLt (keyO F_short_key b) (keyO F_short_key a)) (fun a b c x y => by
    simp only [Bool.not_eq_true'] at x y ⊢
    exact O.tr a b c x y) (fun a b => by
    cases e : kLt (keyO F_short_key b) (keyO F_short_key a) with
    | false => simp
    | true =>
      have e' : kLt (keyO F_short_key a) (keyO F_short_key b) = false := O.asym b a e
      simp [e']) (ks'.map dW)
  have h2 := List.mergeSort_perm (ks'.map dW) (fun a b => !kLt (keyO F_short_key b) (keyO F_short_key a))
  exact sortK_spec (key_inj h) (h2.trans (p.map dW).symm) (h1.imp fun z => by simpa using z)
theorem srtW_words (ks : List (List Nat)) : ∃ ls : List (List Nat), ls.Perm ks ∧ ls.map dW = srtW ks := perm_lift dW (List.mergeSort_perm _ _) ks rfl
theorem scattered_eq {k : Nat} {w : List Nat} (hk : k ≤ 3) (ho : ok 3 w) : ∃ ks, IvK k w ks ∧ F_scattered_words [dN k, dW w] = some (.list (srtW ks)) := by
  rw [F_scattered_words, callF_2, b_scattered_words]
  obtain ⟨ks, o3, o4, e, h⟩ := sc_outer (a1 := some (.shr (dW w))) hk w [] [[]] none none ⟨by simp, fun u => by
    simp only [List.mem_singleton]
    constructor
    · rintro rfl
      exact ⟨rfl, by simp⟩
    · rintro ⟨z, _⟩
      cases u with
      | nil => rfl
      | cons a u => cases z⟩ (by simpa using ho)
  rw [List.nil_append] at h
  refine ⟨ks, h, ?_⟩
  have hk1 : ∀ u ∈ ks, u.length ≤ 1000 := fun u hu => by have := ((h.2 u).mp hu).2; omega
  have c1 := keys_dS ks
  have c2 : sortF F_short_key [.list (ks.map dW)] = some (.list (srtW ks)) := by
    show sortKF F_short_key (.list (ks.map dW)) = _
    simp only [sortKF]
    rw [if_pos ⟨fun d hd => by
      obtain ⟨u, hu, rfl⟩ := List.mem_map.mp hd
      have := hk1 u hu
      rw [short_key_eq (by omega), keyO_eq (by omega)], key_inj hk1⟩]
    rfl
  have e0 : (PyData.dict [(.none, .int 0), (dW [], .bool true)]) = dS [[]] := rfl
  simp only [bind0_e, List.map_cons, List.map_nil, List.length_cons, List.length_nil, List.replicate, List.cons_append, List.nil_append]
  simp only [sSeq_e, sOwn_e, eD1_e, eC_e, nil_wd, d1O_s, keyOf_wd, Option.map_some, ownO_s, thenS_nx, List.set_cons_succ, List.set_cons_zero, e0, sFor_e, iAny_e, eV_e, List.getElem?_cons_succ, List.getElem?_cons_zero, getV_s, Option.bind_some, items_wd, forO_s, e, sRet_e, eCall_e, lC_e, lN_e, eW_e, getW_o, consO_s, c1, c2, rtO_s, endF_rt]
theorem view_eq {k : Nat} {w : List Nat} {l : D} (hk : k ≤ 3) (ho : ok 3 w) : ∃ ks, IvK k w ks ∧ F_view [.str "scattered", dN k, l, dW w] = some (.tuple (srtW ks)) := by
  obtain ⟨ks, h, e⟩ := scattered_eq hk ho
  refine ⟨ks, h, ?_⟩
  have c0 : F_check_manner [.str "scattered"] = some .none := by
    rw [F_check_manner, callF_1, b_check_manner]
    have : ninC ["last", "first", "ends", "slit", "scattered", "rising", "falling", "counts"] (.str "scattered") = some (.bool false) := by
      show some (PyData.bool (!decide _)) = _
      rw [decide_eq_true (by simp)]
      rfl
    simp only [bind0_e, List.map_cons, List.map_nil, List.length_cons, List.length_nil, List.replicate, List.cons_append, List.nil_append]
    simp only [sIf_e, toT_e, o1_e, eW_e, List.getElem?_cons_zero, getW_s, Option.bind_some, this, asB_b, iteS_f, sNx_e, endF_nx]
  have e1 : eqD (.str "scattered") (.str "last") = some (.bool false) := by
    show some (PyData.bool (decide _)) = _
    rw [decide_eq_false (by decide +kernel)]
  have e2 : eqD (.str "scattered") (.str "first") = some (.bool false) := by
    show some (PyData.bool (decide _)) = _
    rw [decide_eq_false (by decide +kernel)]
  have e3 : eqD (.str "scattered") (.str "ends") = some (.bool false) := by
    show some (PyData.bool (decide _)) = _
    rw [decide_eq_false (by decide +kernel)]
  have e4 : eqD (.str "scattered") (.str "slit") = some (.bool false) := by
    show some (PyData.bool (decide _)) = _
    rw [decide_eq_false (by decide +kernel)]
  have e5 : eqD (.str "scattered") (.str "scattered") = some (.bool true) := by
    show some (PyData.bool (decide _)) = _
    rw [decide_eq_true rfl]
  rw [F_view, callF_4, b_view]
  simp only [bind0_e, List.map_cons, List.map_nil, List.length_cons, List.length_nil, List.replicate, List.cons_append, List.nil_append]
  simp only [sSeq_e, sEx_e, eCall_e, lC_e, lN_e, eV_e, eW_e, eC_e, List.getElem?_cons_succ, List.getElem?_cons_zero, getV_s, getW_s, consO_s, Option.bind_some, c0, exO_s, thenS_nx, sIf_e, toT_e, o2_e, ap2_s, e1, e2, e3, e4, e5, asB_b, iteS_f, iteS_t, sNx_e, sRet_e, e, tupF, rtO_s, thenS_rt, endF_rt]
theorem alike_eq {k : Nat} {x y : List Nat} {l : D} (hk : k ≤ 3) (hx : ok 3 x) (hy : ok 3 y) (h : eqv k x y) : F_alike [.str "scattered", dN k, l, dW x, dW y] = some (.bool true) := by
  obtain ⟨ks, h1, e1⟩ := view_eq (l := l) hk hx
  obtain ⟨ks', h2, e2⟩ := view_eq (l := l) hk hy
  have p : ks.Perm ks' := perm_of_mem h1.1 h2.1 fun u => by
    rw [h1.2 u, h2.2 u]
    constructor
    · rintro ⟨a, b⟩
      exact ⟨(h u b).mp a, b⟩
    · rintro ⟨a, b⟩
      exact ⟨(h u b).mpr a, b⟩
  have es := srtW_perm (fun u hu => by have := ((h1.2 u).mp hu).2; omega) p
  rw [← es] at e2
  obtain ⟨ls, p1, p2⟩ := srtW_words ks
  have hs : SeqAt.shaped (.tuple (srtW ks)) = true := by
    rw [← p2]
    refine shaped_words fun u hu c hc => ?_
    have := hx c (sub_mem ((h1.2 u).mp (p1.mem_iff.mp hu)).1 c hc)
    omega
  have ce := eq_tt hs
  rw [F_alike, callF_5, b_alike]
  simp only [bind0_e, List.map_cons, List.map_nil, List.length_cons, List.length_nil, List.replicate, List.cons_append, List.nil_append]
  simp only [sRet_e, o2_e, eCall_e, lC_e, lN_e, eV_e, List.getElem?_cons_succ, List.getElem?_cons_zero, getV_s, consO_s, Option.bind_some, e1, e2, ap2_s, ce, rtO_s, endF_rt]
end G79

set_option Elab.async false
set_option linter.all false
set_option maxRecDepth 100000
set_option maxHeartbeats 4000000
namespace G79
open PySem L2 DV M77 M79 LC LD
/-! ### steps -/
inductive Stp
  | lt (i : Nat)
  | st (a b c a' b' c' : List Nat)
abbrev encT (a b c : List Nat) : D := .tuple [dW a, dW b, dW c]
def Stp.enc : Stp → D
  | .lt i => .tuple [.str "letter", dN i]
  | .st a b c a' b' c' => .tuple [.str "set", encT a b c, encT a' b' c']
def pc (a b c : List Nat) (n : Nat) : List Nat := a ++ (List.replicate n b).flatten ++ c
def Stp.p1 (n : Nat) : Stp → List Nat
  | .lt i => [i]
  | .st a b c _ _ _ => pc a b c n
def Stp.p2 (n : Nat) : Stp → List Nat
  | .lt i => [i]
  | .st _ _ _ a b c => pc a b c n
structure GT (A a b c : List Nat) : Prop where
  ha : ∀ x ∈ a, x ∈ A
  hb : ∀ x ∈ b, x ∈ A
  hc : ∀ x ∈ c, x ∈ A
  hA : ∀ x ∈ A, x ∈ b
  la : a.length ≤ 10
  lb : b.length ≤ 10
  lc : c.length ≤ 10
def good (L : Nat) : Stp → Prop
  | .lt i => i < L
  | .st a b c a' b' c' => ∃ A, ok L A ∧ GT A a b c ∧ GT A a' b' c'
theorem flat_len (n : Nat) (b : List Nat) : (List.replicate n b).flatten.length = n * b.length := by simp
theorem pc_len {A a b c : List Nat} {n : Nat} (g : GT A a b c) (hn : n ≤ 4) : (pc a b c n).length ≤ 60 := by
  unfold pc
  have h1 := g.la
  have h2 := g.lb
  have h3 := g.lc
  have h4 : n * b.length ≤ 4 * 10 := Nat.mul_le_mul hn h2
  simp
  omega
theorem pc_ok {A a b c : List Nat} {n L : Nat} (g : GT A a b c) (hA : ok L A) : ok L (pc a b c n) := fun x hx => by
  unfold pc at hx
  rcases List.mem_append.mp hx with z | z
  · rcases List.mem_append.mp z with z | z
    · exact hA x (g.ha x z)
    · obtain ⟨l, hl, hx⟩ := List.mem_flatten.mp z
      rw [List.eq_of_mem_replicate hl] at hx
      exact hA x (g.hb x hx)
  · exact hA x (g.hc x z)
theorem p1_len {s : Stp} {n L : Nat} (g : good L s) (hn : n ≤ 4) : (s.p1 n).length ≤ 60 := by
  cases s with
  | lt i => simp [Stp.p1]
  | st a b c a' b' c' => obtain ⟨A, _, g1, _⟩ := g; exact pc_len g1 hn
theorem p2_len {s : Stp} {n L : Nat} (g : good L s) (hn : n ≤ 4) : (s.p2 n).length ≤ 60 := by
  cases s with
  | lt i => simp [Stp.p2]
  | st a b c a' b' c' => obtain ⟨A, _, _, g2⟩ := g; exact pc_len g2 hn
theorem p1_ok {s : Stp} {n L : Nat} (g : good L s) : ok L (s.p1 n) := by
  cases s with
  | lt i => exact fun x hx => by simp [Stp.p1] at hx; rw [hx]; exact g
  | st a b c a' b' c' => obtain ⟨A, hA, g1, _⟩ := g; exact pc_ok g1 hA
theorem p2_ok {s : Stp} {n L : Nat} (g : good L s) : ok L (s.p2 n) := by
  cases s with
  | lt i => exact fun x hx => by simp [Stp.p2] at hx; rw [hx]; exact g
  | st a b c a' b' c' => obtain ⟨A, hA, _, g2⟩ := g; exact pc_ok g2 hA
theorem p_eqv {s : Stp} {n L : Nat} (g : good L s) : eqv n (s.p1 n) (s.p2 n) := by
  cases s with
  | lt i => exact eqv.refl n _
  | st a b c a' b' c' =>
    obtain ⟨A, _, g1, g2⟩ := g
    intro w hw
    show sub w (pc a b c n) = true ↔ sub w (pc a' b' c' n) = true
    unfold pc
    rw [sub_set g1.ha g1.hb g1.hc g1.hA hw, sub_set g2.ha g2.hb g2.hc g2.hA hw]
theorem made_eqv {L n : Nat} : ∀ (ss : List Stp), (∀ s ∈ ss, good L s) → eqv n (ss.flatMap (Stp.p1 n)) (ss.flatMap (Stp.p2 n))
  | [], _ => eqv.refl n _
  | s :: ss, h => by
    rw [List.flatMap_cons, List.flatMap_cons]
    exact (p_eqv (h s List.mem_cons_self)).app (made_eqv ss fun x hx => h x (List.mem_cons_of_mem _ hx))
theorem made_len {f : Stp → List Nat} {m : Nat} : ∀ (ss : List Stp), (∀ s ∈ ss, (f s).length ≤ m) → (ss.flatMap f).length ≤ ss.length * m
  | [], _ => by simp
  | s :: ss, h => by
    have h1 := h s List.mem_cons_self
    have h2 := made_len ss fun x hx => h x (List.mem_cons_of_mem _ hx)
    rw [List.flatMap_cons, List.length_append, List.length_cons, Nat.succ_mul]
    omega
theorem mulw {b : List Nat} {n : Nat} (h : b.length * n ≤ 16777216) (hn : n ≤ 1000) : mulD (dW b) (dN n) = some (dW (List.replicate n b).flatten) := by
  simp only [mulD]
  rw [if_pos ⟨by omega, by omega, by rw [wd_len, sizeLine_eq]; simpa using h⟩]
  have : mulS (wd b) (n : Int) = wd (List.replicate n b).flatten := by
    simp [mulS, wd, List.map_flatten]
  rw [this]
theorem set_ne : eqD (.str "set") (.str "letter") = some (.bool false) := by
  show some (PyData.bool (decide _)) = _
  rw [decide_eq_false (by decide +kernel)]
theorem let_eq : eqD (.str "letter") (.str "letter") = some (.bool true) := by
  show some (PyData.bool (decide _)) = _
  rw [decide_eq_true rfl]
theorem abc_ix {i : Nat} (h : i < 3) : ixD (dW [0, 1, 2]) (dN i) = some (dW [i]) := by
  have c2 := ix_wd (l := [0, 1, 2]) (i := i) (by simp; omega) (by decide)
  rw [c2]
  have : i = 0 ∨ i = 1 ∨ i = 2 := by omega
  rcases this with z | z | z <;> subst z <;> rfl
/-- acc + a + b * n + c -/
theorem adds {A a b c acc : List Nat} {n : Nat} (g : GT A a b c) (hn : n ≤ 4) (hacc : acc.length ≤ 10000) : addD (dW acc) (dW a) = some (dW (acc ++ a)) ∧ mulD (dW b) (dN n) = some (dW (List.replicate n b).flatten) ∧
    addD (dW (acc ++ a)) (dW (List.replicate n b).flatten) = some (dW (acc ++ a ++ (List.replicate n b).flatten)) ∧ addD (dW (acc ++ a ++ (List.replicate n b).flatten)) (dW c) = some (dW (acc ++ pc a b c n)) := by
  have h1 := g.la
  have h2 := g.lb
  have h3 := g.lc
  have h4 : n * b.length ≤ 4 * 10 := Nat.mul_le_mul hn h2
  refine ⟨add_wd (by omega), mulw (by rw [Nat.mul_comm]; omega) (by omega), add_wd (by simp; omega), ?_⟩
  rw [add_wd (by simp; omega)]
  unfold pc
  simp only [List.append_assoc]
theorem made1 {L n : Nat} {a0 : Option Sl} (hL : L ≤ 3) (hn : n ≤ 4) : ∀ (ss : List Stp) (acc : List Nat) (o : Option Sl), (∀ s ∈ ss, good L s) → acc.length + ss.length * 60 ≤ 1000 →
    ∃ o', forL (gN 4) L1_law_made (ss.map Stp.enc) [a0, some (.shr (.int 1)), some (.shr (dN n)), some (.shr (dW acc)), o] = some (.nx [a0, some (.shr (.int 1)), some (.shr (dN n)), some (.shr (dW (acc ++ ss.flatMap (Stp.p1 n)))), o'])
  | [], acc, o, _, _ => ⟨o, by rw [List.flatMap_nil, List.append_nil]; rfl⟩
  | s :: ss, acc, o, hg, hl => by
    have g := hg s List.mem_cons_self
    have gl := p1_len g hn
    rw [List.length_cons, Nat.succ_mul] at hl
    obtain ⟨o', e⟩ := made1 (a0 := a0) hL hn ss (acc ++ s.p1 n) (some (.shr s.enc)) (fun x hx => hg x (List.mem_cons_of_mem _ hx)) (by simp; omega)
    refine ⟨o', ?_⟩
    rw [List.map_cons, forL_cons]
    show turnS (L1_law_made [a0, some (.shr (.int 1)), some (.shr (dN n)), some (.shr (dW acc)), some (.shr s.enc)]) _ = _
    have st : L1_law_made [a0, some (.shr (.int 1)), some (.shr (dN n)), some (.shr (dW acc)), some (.shr s.enc)] = some (.nx [a0, some (.shr (.int 1)), some (.shr (dN n)), some (.shr (dW (acc ++ s.p1 n))), some (.shr s.enc)]) := by
      rw [L1_law_made]
      cases s with
      | lt i =>
        have c1 := abc_ix (i := i) (by have : i < L := g; omega)
        have c2 := add_wd (l := acc) (m := [i]) (by simp; omega)
        simp only [Stp.enc, Stp.p1, sIf_e, toT_e, o2_e, eW_e, eC_e, abc_wd, List.getElem?_cons_succ, List.getElem?_cons_zero, getW_s, ap2_s, ix_t0, ix_t1, let_eq, Option.bind_some, asB_b, iteS_t, sAsg_e, c1, c2, asgO_s, gN_e, nxO_s, List.set_cons_succ, List.set_cons_zero]
      | st a b c a' b' c' =>
        obtain ⟨A, _, g1, _⟩ := g
        obtain ⟨c1, c2, c3, c4⟩ := adds (acc := acc) g1 hn (by omega)
        simp only [Stp.enc, Stp.p1, sIf_e, toT_e, o2_e, eW_e, eC_e, List.getElem?_cons_succ, List.getElem?_cons_zero, getW_s, ap2_s, ix_t0, ix_t1, ix_t2, set_ne, Option.bind_some, asB_b, iteS_f, sAsg_e, c1, c2, c3, c4, asgO_s, gN_e, nxO_s, List.set_cons_succ, List.set_cons_zero]
    rw [st, turnS_nx, e, List.append_assoc, List.flatMap_cons]
theorem made2 {L n : Nat} {a0 : Option Sl} (hL : L ≤ 3) (hn : n ≤ 4) : ∀ (ss : List Stp) (acc : List Nat) (o : Option Sl), (∀ s ∈ ss, good L s) → acc.length + ss.length * 60 ≤ 1000 →
    ∃ o', forL (gN 4) L1_law_made (ss.map Stp.enc) [a0, some (.shr (.int 2)), some (.shr (dN n)), some (.shr (dW acc)), o] = some (.nx [a0, some (.shr (.int 2)), some (.shr (dN n)), some (.shr (dW (acc ++ ss.flatMap (Stp.p2 n)))), o'])
  | [], acc, o, _, _ => ⟨o, by rw [List.flatMap_nil, List.append_nil]; rfl⟩
  | s :: ss, acc, o, hg, hl => by
    have g := hg s List.mem_cons_self
    have gl := p2_len g hn
    rw [List.length_cons, Nat.succ_mul] at hl
    obtain ⟨o', e⟩ := made2 (a0 := a0) hL hn ss (acc ++ s.p2 n) (some (.shr s.enc)) (fun x hx => hg x (List.mem_cons_of_mem _ hx)) (by simp; omega)
    refine ⟨o', ?_⟩
    rw [List.map_cons, forL_cons]
    show turnS (L1_law_made [a0, some (.shr (.int 2)), some (.shr (dN n)), some (.shr (dW acc)), some (.shr s.enc)]) _ = _
    have st : L1_law_made [a0, some (.shr (.int 2)), some (.shr (dN n)), some (.shr (dW acc)), some (.shr s.enc)] = some (.nx [a0, some (.shr (.int 2)), some (.shr (dN n)), some (.shr (dW (acc ++ s.p2 n))), some (.shr s.enc)]) := by
      rw [L1_law_made]
      cases s with
      | lt i =>
        have c1 := abc_ix (i := i) (by have : i < L := g; omega)
        have c2 := add_wd (l := acc) (m := [i]) (by simp; omega)
        simp only [Stp.enc, Stp.p2, sIf_e, toT_e, o2_e, eW_e, eC_e, abc_wd, List.getElem?_cons_succ, List.getElem?_cons_zero, getW_s, ap2_s, ix_t0, ix_t1, let_eq, Option.bind_some, asB_b, iteS_t, sAsg_e, c1, c2, asgO_s, gN_e, nxO_s, List.set_cons_succ, List.set_cons_zero]
      | st a b c a' b' c' =>
        obtain ⟨A, _, _, g1⟩ := g
        obtain ⟨c1, c2, c3, c4⟩ := adds (acc := acc) g1 hn (by omega)
        simp only [Stp.enc, Stp.p2, sIf_e, toT_e, o2_e, eW_e, eC_e, List.getElem?_cons_succ, List.getElem?_cons_zero, getW_s, ap2_s, ix_t0, ix_t1, ix_t2, set_ne, Option.bind_some, asB_b, iteS_f, sAsg_e, c1, c2, c3, c4, asgO_s, gN_e, nxO_s, List.set_cons_succ, List.set_cons_zero]
    rw [st, turnS_nx, e, List.append_assoc, List.flatMap_cons]
theorem law_made1 {L n : Nat} {ss : List Stp} (hL : L ≤ 3) (hn : n ≤ 4) (hg : ∀ s ∈ ss, good L s) (hl : ss.length ≤ 10) : F_law_made [.list (ss.map Stp.enc), .int 1, dN n] = some (dW (ss.flatMap (Stp.p1 n))) := by
  rw [F_law_made, callF_3, b_law_made]
  obtain ⟨o', e⟩ := made1 (a0 := some (.shr (.list (ss.map Stp.enc)))) hL hn ss [] none hg (by simp; omega)
  rw [List.nil_append] at e
  simp only [bind0_e, List.map_cons, List.map_nil, List.length_cons, List.length_nil, List.replicate, List.cons_append, List.nil_append]
  simp only [sSeq_e, sAsg_e, eC_e, nil_wd, asgO_s, gN_e, nxO_s, thenS_nx, List.set_cons_succ, List.set_cons_zero, sFor_e, iAny_e, eV_e, List.getElem?_cons_succ, List.getElem?_cons_zero, getV_s, Option.bind_some, itemsD, forO_s, e, sRet_e, rtO_s, endF_rt]
theorem law_made2 {L n : Nat} {ss : List Stp} (hL : L ≤ 3) (hn : n ≤ 4) (hg : ∀ s ∈ ss, good L s) (hl : ss.length ≤ 10) : F_law_made [.list (ss.map Stp.enc), .int 2, dN n] = some (dW (ss.flatMap (Stp.p2 n))) := by
  rw [F_law_made, callF_3, b_law_made]
  obtain ⟨o', e⟩ := made2 (a0 := some (.shr (.list (ss.map Stp.enc)))) hL hn ss [] none hg (by simp; omega)
  rw [List.nil_append] at e
  simp only [bind0_e, List.map_cons, List.map_nil, List.length_cons, List.length_nil, List.replicate, List.cons_append, List.nil_append]
  simp only [sSeq_e, sAsg_e, eC_e, nil_wd, asgO_s, gN_e, nxO_s, thenS_nx, List.set_cons_succ, List.set_cons_zero, sFor_e, iAny_e, eV_e, List.getElem?_cons_succ, List.getElem?_cons_zero, getV_s, Option.bind_some, itemsD, forO_s, e, sRet_e, rtO_s, endF_rt]
/-! ### bond_words -/
theorem bond_loop {L n : Nat} {a0 : Option Sl} (hL : L ≤ 3) (hn : n ≤ 4) : ∀ (ss : List Stp) (x y : List Nat) (o : Option Sl), (∀ s ∈ ss, good L s) → x.length + ss.length * 60 ≤ 1000 → y.length + ss.length * 60 ≤ 1000 →
    ∃ o', forL (gN 4) L1_bond_words (ss.map Stp.enc) [a0, some (.shr (dN n)), some (.shr (dW x)), some (.shr (dW y)), o] = some (.nx [a0, some (.shr (dN n)), some (.shr (dW (x ++ ss.flatMap (Stp.p1 n)))), some (.shr (dW (y ++ ss.flatMap (Stp.p2 n)))), o'])
  | [], x, y, o, _, _, _ => ⟨o, by rw [List.flatMap_nil, List.flatMap_nil, List.append_nil, List.append_nil]; rfl⟩
  | s :: ss, x, y, o, hg, hx, hy => by
    have g := hg s List.mem_cons_self
    have gl1 := p1_len g hn
    have gl2 := p2_len g hn
    rw [List.length_cons, Nat.succ_mul] at hx hy
    obtain ⟨o', e⟩ := bond_loop (a0 := a0) hL hn ss (x ++ s.p1 n) (y ++ s.p2 n) (some (.shr s.enc)) (fun x hx => hg x (List.mem_cons_of_mem _ hx)) (by simp; omega) (by simp; omega)
    refine ⟨o', ?_⟩
    rw [List.map_cons, forL_cons]
    show turnS (L1_bond_words [a0, some (.shr (dN n)), some (.shr (dW x)), some (.shr (dW y)), some (.shr s.enc)]) _ = _
    have st : L1_bond_words [a0, some (.shr (dN n)), some (.shr (dW x)), some (.shr (dW y)), some (.shr s.enc)] = some (.nx [a0, some (.shr (dN n)), some (.shr (dW (x ++ s.p1 n))), some (.shr (dW (y ++ s.p2 n))), some (.shr s.enc)]) := by
      rw [L1_bond_words]
      cases s with
      | lt i =>
        have c1 := abc_ix (i := i) (by have : i < L := g; omega)
        have c2 := add_wd (l := x) (m := [i]) (by simp; omega)
        have c3 := add_wd (l := y) (m := [i]) (by simp; omega)
        simp only [Stp.enc, Stp.p1, Stp.p2, sIf_e, sSeq_e, toT_e, o2_e, eW_e, eC_e, abc_wd, List.getElem?_cons_succ, List.getElem?_cons_zero, getW_s, ap2_s, ix_t0, ix_t1, let_eq, Option.bind_some, asB_b, iteS_t, sAsg_e, c1, c2, c3, asgO_s, gN_e, nxO_s, thenS_nx, List.set_cons_succ, List.set_cons_zero]
      | st a b c a' b' c' =>
        obtain ⟨A, _, g1, g2⟩ := g
        obtain ⟨c1, c2, c3, c4⟩ := adds (acc := x) g1 hn (by omega)
        obtain ⟨d1, d2, d3, d4⟩ := adds (acc := y) g2 hn (by omega)
        simp only [Stp.enc, Stp.p1, Stp.p2, sIf_e, sSeq_e, toT_e, o2_e, eW_e, eC_e, List.getElem?_cons_succ, List.getElem?_cons_zero, getW_s, ap2_s, ix_t0, ix_t1, ix_t2, set_ne, Option.bind_some, asB_b, iteS_f, sAsg_e, c1, c2, c3, c4, d1, d2, d3, d4, asgO_s, gN_e, nxO_s, thenS_nx, List.set_cons_succ, List.set_cons_zero]
    rw [st, turnS_nx, e, List.append_assoc, List.append_assoc, List.flatMap_cons, List.flatMap_cons]
theorem bond_words_eq {L n : Nat} {ss : List Stp} (hL : L ≤ 3) (hn : n ≤ 4) (hg : ∀ s ∈ ss, good L s) (hl : ss.length ≤ 10) : F_bond_words [.list (ss.map Stp.enc), dN n] = some (.tuple [dW (ss.flatMap (Stp.p1 n)), dW (ss.flatMap (Stp.p2 n))]) := by
  rw [F_bond_words, callF_2, b_bond_words]
  obtain ⟨o', e⟩ := bond_loop (a0 := some (.shr (.list (ss.map Stp.enc)))) hL hn ss [] [] none hg (by simp; omega) (by simp; omega)
  rw [List.nil_append, List.nil_append] at e
  simp only [bind0_e, List.map_cons, List.map_nil, List.length_cons, List.length_nil, List.replicate, List.cons_append, List.nil_append]
  simp only [sSeq_e, sAsg_e, eC_e, nil_wd, asgO_s, gN_e, nxO_s, thenS_nx, List.set_cons_succ, List.set_cons_zero, sFor_e, iAny_e, eV_e, List.getElem?_cons_succ, List.getElem?_cons_zero, getV_s, Option.bind_some, itemsD, forO_s, e, sRet_e, eTup_e, lC_e, lN_e, consO_s, tupO_2, rtO_s, endF_rt]
end G79

set_option Elab.async false
set_option linter.all false
set_option maxRecDepth 100000
set_option maxHeartbeats 4000000
namespace G79
open PySem L2 DV M77 M79 LC LD
/-! ### slices -/
theorem range_pick {α : Type} : ∀ ys : List α, (List.range ys.length).filterMap (ys[·]?) = ys
  | [] => rfl
  | y :: ys => by
    rw [List.length_cons, List.range_succ_eq_map, List.filterMap_cons_some (f := fun x => (y :: ys)[x]?) (a := 0) (b := y) rfl, List.filterMap_map]
    have e : ((fun k => (y :: ys)[k]?) ∘ Nat.succ) = fun k => ys[k]? := by
      funext k
      simp
    rw [e, range_pick ys]
theorem pick_one {α : Type} (xs : List α) : pickD xs none none (some 1) = xs := by
  unfold pickD
  have e1 : sliceBounds none none (some 1) xs.length = (0, (xs.length : Int), 1) := by simp [sliceBounds]
  rw [e1]
  have e2 : sliceRange 0 (xs.length : Int) 1 = List.range xs.length := by
    unfold sliceRange
    by_cases h : (0 : Int) < (xs.length : Int)
    · simp only [h, if_true]
      have : ((xs.length : Int) - 0 + 1 - 1) / 1 = (xs.length : Int) := by omega
      simp only [show (1 : Int) > 0 by decide, if_true, this, Int.toNat_natCast]
      have : (fun (k : Nat) => (0 + 1 * (k : Int)).toNat) = id := by
        funext k
        simp
      rw [this, List.map_id]
    · have : xs.length = 0 := by omega
      rw [this]
      rfl
  show (sliceRange 0 (xs.length : Int) 1).filterMap (xs[·]?) = xs
  rw [e2, range_pick]
theorem fm_congr {α β : Type} {f g : α → Option β} : ∀ {l : List α}, (∀ x ∈ l, f x = g x) → l.filterMap f = l.filterMap g
  | [], _ => rfl
  | x :: l, h => by
    rw [List.filterMap_cons, List.filterMap_cons, h x List.mem_cons_self, fm_congr fun y hy => h y (List.mem_cons_of_mem _ hy)]
theorem pick_rev {α : Type} (xs : List α) : pickD xs none none (some (-1)) = xs.reverse := by
  unfold pickD
  rw [PySem.W.krv_bounds]
  show (sliceRange ((xs.length : Int) - 1) (-1) (-1)).filterMap (xs[·]?) = xs.reverse
  rw [PySem.W.krv_sliceRange, List.filterMap_map]
  have e : (List.range xs.length).filterMap ((xs[·]?) ∘ fun k => xs.length - 1 - k) = (List.range xs.reverse.length).filterMap (xs.reverse[·]?) := by
    rw [List.length_reverse]
    refine fm_congr fun k hk => ?_
    have hk := List.mem_range.mp hk
    simp only [Function.comp_def]
    rw [List.getElem?_reverse hk]
  rw [e, range_pick]
theorem sl_sub {l : List Nat} (lo hi : Option Int) (h : l.length ≤ 1000) : ∃ m : List Nat, slD (dW l) lo hi = some (dW m) ∧ (∀ x ∈ m, x ∈ l) ∧ m.length ≤ l.length := by
  refine ⟨_, sl_wd lo hi (by omega), fun x hx => List.mem_of_mem_drop (List.mem_of_mem_take hx), ?_⟩
  rw [List.length_take, List.length_drop]
  omega
theorem sl_list {l : List Nat} {a b : Nat} (hb : b ≤ l.length) (hab : a ≤ b) : ∃ m : List Nat, slD (.list (l.map dN)) (some (a : Int)) (some (b : Int)) = some (.list (m.map dN)) ∧ m.length = b - a := by
  refine ⟨(l.drop a).take (b - a), ?_, by rw [List.length_take, List.length_drop]; omega⟩
  simp only [slD]
  unfold cutD
  rw [HT.sIx_nat, HT.sIx_nat, List.length_map, List.map_take, List.map_drop]
  rw [Nat.min_eq_left (by omega), Nat.min_eq_left (by omega)]
theorem bit_and : ∀ x : Nat, x < 8 → Builtin.bitAnd (x : Int) 1 = ((x % 2 : Nat) : Int) := by decide +kernel
theorem bit_some : ∀ L, L < 4 → 0 < L → ∀ r, r < 2 ^ L - 1 → ∃ i, i < L ∧ ((1 + r) / 2 ^ i) % 2 = 1 := by decide +kernel
def chosen (L m : Nat) : List Nat := (List.range L).filter fun i => decide ((m / 2 ^ i) % 2 = 1)
theorem pow2 : ∀ L < 4, 0 < L → 2 ^ L - 1 < 8 ∧ 0 < 2 ^ L - 1 := by decide
/-- the letters chosen -/
theorem chosen_eq {L p : Nat} {ρ : DV.Env} (hL : L ≤ 3) (hL0 : 0 < L) {l : List Nat} (h6 : ρ[6]? = some (some (.shr (.list (l.map dN))))) (h2 : ρ[2]? = some (some (.shr (dN L)))) (hp : l[1]? = some p) (hlen : 13 < ρ.length) (ha : ρ.length = 15) :
    lcL (gN 13) (toT (o2 eqD (o2 andD (o2 shrD (o2 addD (eC (.int 1)) (o2 modD (o2 ixD (eW 6) (eC (.int 1))) (o2 subD (o2 shlD (eC (.int 1)) (eW 2)) (eC (.int 1))))) (eW 13)) (eC (.int 1))) (eC (.int 1)))) (o2 ixD (eC (dW [0, 1, 2])) (eW 13)) ρ ((List.range L).map dN) =
      some ((chosen L (1 + p % (2 ^ L - 1))).map fun c => dW [c]) := by
  obtain ⟨q1, q2⟩ := pow2 L (by omega) hL0
  have hm := Nat.mod_lt p q2
  refine lcL_filter dN (fun i => decide (((1 + p % (2 ^ L - 1)) / 2 ^ i) % 2 = 1)) (fun c => dW [c]) (List.range L) (fun i hi => ?_) (fun i hi _ => ?_)
  · have hi := List.mem_range.mp hi
    have g6 : (ρ.set 13 (some (.shr (dN i))))[6]? = some (some (.shr (.list (l.map dN)))) := by rw [List.getElem?_set_ne (by omega), h6]
    have g2 : (ρ.set 13 (some (.shr (dN i))))[2]? = some (some (.shr (dN L))) := by rw [List.getElem?_set_ne (by omega), h2]
    have g13 : (ρ.set 13 (some (.shr (dN i))))[13]? = some (some (.shr (dN i))) := by rw [List.getElem?_set_self hlen]
    have c1 : ixD (.list (l.map dN)) (.int 1) = some (dN p) := ix_l (i := 1) (by rw [List.getElem?_map, hp]; rfl)
    have c2 : shlD (.int 1) (dN L) = some (.int ((2 ^ L : Nat) : Int)) := by
      simp only [shlD]
      rw [if_pos ⟨by omega, by omega, by decide⟩]
      simp
    have e3 : ((2 ^ L : Nat) : Int) - 1 = ((2 ^ L - 1 : Nat) : Int) := by omega
    have c4 : modD (dN p) (dN (2 ^ L - 1)) = some (dN (p % (2 ^ L - 1))) := mod_ii (by omega)
    have e5 : (1 : Int) + ((p % (2 ^ L - 1) : Nat) : Int) = ((1 + p % (2 ^ L - 1) : Nat) : Int) := by omega
    have c6 : shrD (dN (1 + p % (2 ^ L - 1))) (dN i) = some (dN ((1 + p % (2 ^ L - 1)) / 2 ^ i)) := by
      simp only [shrD]
      rw [if_pos (by omega), Int.toNat_natCast]
      congr 2
    have h8 : (1 + p % (2 ^ L - 1)) / 2 ^ i < 8 := Nat.lt_of_le_of_lt (Nat.div_le_self _ _) (by omega)
    have c7 : andD (dN ((1 + p % (2 ^ L - 1)) / 2 ^ i)) (.int 1) = some (dN ((1 + p % (2 ^ L - 1)) / 2 ^ i % 2)) := by
      show some (PyData.int (Builtin.bitAnd _ _)) = _
      rw [bit_and _ h8]
    have c8 : eqD (dN ((1 + p % (2 ^ L - 1)) / 2 ^ i % 2)) (.int 1) = some (.bool (decide ((1 + p % (2 ^ L - 1)) / 2 ^ i % 2 = 1))) := by
      rw [eq_ii]
      congr 2
      refine decide_eq_decide.mpr ?_
      omega
    have c4' : modD (dN p) (.int ((2 ^ L - 1 : Nat) : Int)) = some (dN (p % (2 ^ L - 1))) := c4
    simp only [toT_e, o2_e, eW_e, eC_e, g6, g2, g13, getW_s, ap2_s, c1, c2, sub_ii, e3, c4', add_ii, e5, c6, c7, c8, Option.bind_some, asB_b]
  · have hi := List.mem_range.mp hi
    have g13 : (ρ.set 13 (some (.shr (dN i))))[13]? = some (some (.shr (dN i))) := by rw [List.getElem?_set_self hlen]
    have c1 := abc_ix (i := i) (by omega)
    simp only [o2_e, eC_e, eW_e, g13, getW_s, ap2_s, c1]
theorem chosen_ok (L m : Nat) : ok L (chosen L m) := fun x hx => List.mem_range.mp (List.mem_filter.mp hx).1
theorem chosen_len (L m : Nat) : (chosen L m).length ≤ L := by
  have := List.length_filter_le (fun i => decide ((m / 2 ^ i) % 2 = 1)) (List.range L)
  simpa [chosen] using this
theorem chosen_ne {L p : Nat} (hL : L ≤ 3) (hL0 : 0 < L) : 0 < (chosen L (1 + p % (2 ^ L - 1))).length := by
  obtain ⟨q1, q2⟩ := pow2 L (by omega) hL0
  obtain ⟨i, hi, e⟩ := bit_some L (by omega) hL0 _ (Nat.mod_lt p q2)
  exact List.length_pos_of_mem (List.mem_filter.mpr ⟨List.mem_range.mpr hi, decide_eq_true e⟩)
theorem flat_ones (l : List Nat) : (l.map fun x => [x]).flatten = l := by
  induction l with
  | nil => rfl
  | cons a l ih => simp [ih]
theorem join_ones {l : List Nat} (h : l.length ≤ 1000) : joinF (dW []) [.list (l.map fun x => dW [x])] = some (dW l) := by
  have := join_wd (l.map fun x => [x]) (by
    rw [List.map_map]
    show (l.map fun _ => 1).sum ≤ _
    rw [List.map_const', List.sum_replicate_nat]
    omega)
  rw [flat_ones, List.map_map] at this
  exact this
/-- one side of a set -/
theorem side_step {a0 a1 a2 a3 a4 a5 a10 a11 a12 a13 a14 : Option Sl} {l cs : List Nat} {ws : List D} {sd : Nat} (hl : l.length = 16) (hc0 : 0 < cs.length) (hc : cs.length ≤ 3) (hsd : sd < 2) (hws : ws.length ≤ 100) :
    ∃ (a b c : List Nat) (b10 b11 b12 : Option Sl), GT cs a b c ∧ L1_law_drawn_steps [a0, a1, a2, a3, a4, a5, some (.shr (.list (l.map dN))), some (.shr (.list (cs.map fun c => dW [c]))), some (.own (.list ws)), some (.shr (dN sd)), a10, a11, a12, a13, a14] =
      some (.nx [a0, a1, a2, a3, a4, a5, some (.shr (.list (l.map dN))), some (.shr (.list (cs.map fun c => dW [c]))), some (.own (.list (ws ++ [encT a b c]))), some (.shr (dN sd)), b10, b11, b12, a13, a14]) := by
  obtain ⟨seg, s1, s2⟩ := sl_list (l := l) (a := 2 + 7 * sd) (b := 9 + 7 * sd) (by omega) (by omega)
  have e1 : (7 : Int) * (sd : Int) = ((7 * sd : Nat) : Int) := by omega
  have e2 : (2 : Int) + ((7 * sd : Nat) : Int) = ((2 + 7 * sd : Nat) : Int) := by omega
  have e3 : (9 : Int) + ((7 * sd : Nat) : Int) = ((9 + 7 * sd : Nat) : Int) := by omega
  have m1 : mulD (.int 7) (dN sd) = some (.int ((7 * sd : Nat) : Int)) := by rw [mul_ii (.inl ⟨by decide, by decide⟩), e1]
  have clen : lenF [.list (cs.map fun c => dW [c])] = some (dN cs.length) := by rw [len_l, List.length_map]
  -- the spare letters
  let sp : List Nat := seg.map fun p => cs.getD (p % cs.length) 0
  have hspm : ∀ x ∈ sp, x ∈ cs := fun x hx => by
    obtain ⟨p, _, rfl⟩ := List.mem_map.mp hx
    have := Nat.mod_lt p hc0
    rw [List.getD_eq_getElem?_getD, List.getElem?_eq_getElem this]
    exact List.getElem_mem _
  have hspl : sp.length = 7 := by
    show (seg.map _).length = 7
    rw [List.length_map, s2]
    omega
  have lsp : lcL (gN 14) tYs (o2 ixD (eW 7) (o2 modD (eW 14) (eCall lenF (lC (eW 7) lN)))) [a0, a1, a2, a3, a4, a5, some (.shr (.list (l.map dN))), some (.shr (.list (cs.map fun c => dW [c]))), some (.own (.list ws)), some (.shr (dN sd)), a10, a11, a12, a13, none] (seg.map dN) = some (sp.map fun x => dW [x]) := by
    have := lcL_map (i := 14) (a := o2 ixD (eW 7) (o2 modD (eW 14) (eCall lenF (lC (eW 7) lN)))) (ρ := [a0, a1, a2, a3, a4, a5, some (.shr (.list (l.map dN))), some (.shr (.list (cs.map fun c => dW [c]))), some (.own (.list ws)), some (.shr (dN sd)), a10, a11, a12, a13, none]) dN (fun p => dW [cs.getD (p % cs.length) 0]) seg fun p _ => by
      have hp := Nat.mod_lt p hc0
      have c1 : modD (dN p) (dN cs.length) = some (dN (p % cs.length)) := mod_ii (by omega)
      have c2 : ixD (.list (cs.map fun c => dW [c])) (dN (p % cs.length)) = some (dW [cs.getD (p % cs.length) 0]) := ix_l (by
        rw [List.getElem?_map, List.getD_eq_getElem?_getD, List.getElem?_eq_getElem hp]
        rfl)
      simp only [o2_e, eW_e, eCall_e, lC_e, lN_e, List.set_cons_succ, List.set_cons_zero, List.getElem?_cons_succ, List.getElem?_cons_zero, getW_s, consO_s, Option.bind_some, clen, ap2_s, c1, c2]
    rw [this]
    show _ = some ((seg.map _).map _)
    rw [List.map_map]
    rfl
  -- numbers drawn
  have ixn : ∀ i : Nat, i < 16 → ixD (.list (l.map dN)) (dN i) = some (dN (l.getD i 0)) := fun i hi => ix_l (by
    rw [List.getElem?_map, List.getD_eq_getElem?_getD, List.getElem?_eq_getElem (by omega)]
    rfl)
  have i15 : ixD (.list (l.map dN)) (.int 15) = some (dN (l.getD 15 0)) := ixn 15 (by decide)
  have i14 : ixD (.list (l.map dN)) (.int 14) = some (dN (l.getD 14 0)) := ixn 14 (by decide)
  have i13 : ixD (.list (l.map dN)) (.int 13) = some (dN (l.getD 13 0)) := ixn 13 (by decide)
  have e4 : (1 : Int) + (sd : Int) = ((1 + sd : Nat) : Int) := by omega
  have d1 : fdivD (dN (l.getD 15 0)) (.int ((1 + sd : Nat) : Int)) = some (dN (l.getD 15 0 / (1 + sd))) := fdiv_ii (by omega) (by omega)
  have d2 : modD (dN (l.getD 15 0 / (1 + sd))) (.int 2) = some (dN (l.getD 15 0 / (1 + sd) % 2)) := mod_ii (by decide)
  have d3 : mulD (.int 2) (dN (l.getD 15 0 / (1 + sd) % 2)) = some (.int (2 * ((l.getD 15 0 / (1 + sd) % 2 : Nat) : Int))) := mul_ii (.inl ⟨by decide, by decide⟩)
  obtain ⟨t, ht, hm, htl⟩ : ∃ t : List Nat, slsD (.list (cs.map fun c => dW [c])) none none (some (1 - 2 * ((l.getD 15 0 / (1 + sd) % 2 : Nat) : Int))) = some (.list (t.map fun c => dW [c])) ∧ (∀ x, x ∈ t ↔ x ∈ cs) ∧ t.length = cs.length := by
    have h2 := Nat.mod_lt (l.getD 15 0 / (1 + sd)) (show 0 < 2 by decide)
    rcases (show l.getD 15 0 / (1 + sd) % 2 = 0 ∨ l.getD 15 0 / (1 + sd) % 2 = 1 by omega) with z | z
    · refine ⟨cs, ?_, fun x => Iff.rfl, rfl⟩
      rw [z]
      simp only [slsD]
      rw [if_neg (by decide)]
      show some (PyData.list (pickD _ none none (some 1))) = _
      rw [pick_one]
    · refine ⟨cs.reverse, ?_, fun x => List.mem_reverse, List.length_reverse⟩
      rw [z]
      simp only [slsD]
      rw [if_neg (by decide)]
      show some (PyData.list (pickD _ none none (some (-1)))) = _
      rw [pick_rev, List.map_reverse]
  have j1 := join_ones (l := sp) (by omega)
  have j2 := join_ones (l := t) (by omega)
  have n1 : modD (dN (l.getD 15 0)) (.int 3) = some (dN (l.getD 15 0 % 3)) := mod_ii (by decide)
  have n2 : modD (dN (l.getD 14 0)) (.int 3) = some (dN (l.getD 14 0 % 3)) := mod_ii (by decide)
  have n3 : modD (dN (l.getD 13 0)) (.int 3) = some (dN (l.getD 13 0 % 3)) := mod_ii (by decide)
  obtain ⟨a, ea, ha, hal⟩ := sl_sub (l := sp) none (some ((l.getD 15 0 % 3 : Nat) : Int)) (by omega)
  obtain ⟨b, eb, hb, hbl⟩ := sl_sub (l := sp) (some 2) (some (2 + ((l.getD 14 0 % 3 : Nat) : Int))) (by omega)
  obtain ⟨c, ec, hcm, hcl⟩ := sl_sub (l := sp) (some 5) (some (5 + ((l.getD 13 0 % 3 : Nat) : Int))) (by omega)
  have ad := add_wd (l := t) (m := b) (by omega)
  refine ⟨a, t ++ b, c, some (.shr (.list (sp.map fun x => dW [x]))), some (.shr (.list (t.map fun c => dW [c]))), some (.shr (dW sp)), ⟨fun x hx => hspm x (ha x hx), fun x hx => ?_, fun x hx => hspm x (hcm x hx), fun x hx => List.mem_append_left _ ((hm x).mpr hx), by omega, by simp; omega, by omega⟩, ?_⟩
  · rcases List.mem_append.mp hx with z | z
    · exact (hm x).mp z
    · exact hspm x (hb x z)
  have ap := appS_s (i := 8) (d := encT a (t ++ b) c) (ρ := [a0, a1, a2, a3, a4, a5, some (.shr (.list (l.map dN))), some (.shr (.list (cs.map fun c => dW [c]))), some (.own (.list ws)), some (.shr (dN sd)), some (.shr (.list (sp.map fun x => dW [x]))), some (.shr (.list (t.map fun c => dW [c]))), some (.shr (dW sp)), a13, a14]) (ds := ws) (by omega)
  have lc0 : lcO (some (seg.map dN)) (gN 14) tYs (o2 ixD (eW 7) (o2 modD (eW 14) (eCall lenF (lC (eW 7) lN)))) [a0, a1, a2, a3, a4, a5, some (.shr (.list (l.map dN))), some (.shr (.list (cs.map fun c => dW [c]))), some (.own (.list ws)), some (.shr (dN sd)), a10, a11, a12, a13, none] = some (.list (sp.map fun x => dW [x])) := by
    rw [lcO_s (by simp; omega), lsp]
    rfl
  rw [L1_law_drawn_steps]
  simp only [sSeq_e, thenF_e, sOwn_e, eLc_e, iAny_e, eSl_e, eW_e, pS_e, pN_e, o2_e, eC_e, List.getElem?_cons_succ, List.getElem?_cons_zero, getW_s, getW_o, ap2_s, m1, add_ii, e2, e3, Option.bind_some, asI_i, Option.map_some, ap3_s, s1, itemsD, wipeE_cons, wipeE_nil, List.set_cons_succ, List.set_cons_zero, lc0, ownO_s, thenFO_nx, frzE_e, frzS_o, thenS_nx, sAsg_e, eSlS, e4, i15, d1, d2, d3, sub_ii, ht, asgO_s, gN_e, nxO_s, eMeth_e, lC_e, lN_e, consO_s, apM_s, nil_wd, j1, j2, sApp_e, eTup_e, n1, n2, n3, i14, i13, ea, eb, ec, ad, tupO_3, appO_s, ap]
end G79

set_option Elab.async false
set_option linter.all false
set_option maxRecDepth 100000
set_option maxHeartbeats 4000000
namespace G79
open PySem L2 DV M77 M79 LC LD
theorem drawn_step (ns : List Int) {k L j : Nat} {a3 a5 a6 a7 a8 a9 a10 a11 a12 a13 a14 : Option Sl} {ds : List D} (hL : L ≤ 3) (hL0 : 0 < L) (hds : ds.length ≤ 100) :
    ∃ (s : Stp) (b6 b7 b8 b9 b10 b11 b12 b13 b14 : Option Sl), good L s ∧ L2_law_drawn_steps [some (.shr (scrD ns)), some (.shr (dN k)), some (.shr (dN L)), a3, some (.own (.list ds)), some (.shr (dN j)), a6, a7, a8, a9, a10, a11, a12, a13, a14] =
      some (.nx [some (.shr (scrD ns)), some (.shr (dN k)), some (.shr (dN L)), a3, some (.own (.list (ds ++ [s.enc]))), some (.shr (dN j)), b6, b7, b8, b9, b10, b11, b12, b13, b14]) := by
  obtain ⟨l, d1, d2, _⟩ := draws_eq ns (k + j) 16 5040 (by decide) (by decide) (by decide)
  rw [show dN 16 = PyData.int 16 from rfl, show dN 5040 = PyData.int 5040 from rfl] at d1
  have e1 : (k : Int) + (j : Int) = ((k + j : Nat) : Int) := by omega
  have i0 : ixD (.list (l.map dN)) (.int 0) = some (dN (l.getD 0 0)) := ix_l (i := 0) (by
    rw [List.getElem?_map, List.getD_eq_getElem?_getD, List.getElem?_eq_getElem (by omega)]
    rfl)
  have i1 : ixD (.list (l.map dN)) (.int 1) = some (dN (l.getD 1 0)) := ix_l (i := 1) (by
    rw [List.getElem?_map, List.getD_eq_getElem?_getD, List.getElem?_eq_getElem (by omega)]
    rfl)
  have hp : l[1]? = some (l.getD 1 0) := by
    rw [List.getD_eq_getElem?_getD, List.getElem?_eq_getElem (by omega)]
    rfl
  have m0 : modD (dN (l.getD 0 0)) (.int 3) = some (dN (l.getD 0 0 % 3)) := mod_ii (by decide)
  have q0 : eqD (dN (l.getD 0 0 % 3)) (.int 0) = some (.bool (decide (l.getD 0 0 % 3 = 0))) := by
    rw [eq_ii]
    congr 2
    refine decide_eq_decide.mpr ?_
    omega
  by_cases h : l.getD 0 0 % 3 = 0
  · have hd : decide (l.getD 0 0 % 3 = 0) = true := decide_eq_true h
    have m1 : modD (dN (l.getD 1 0)) (dN L) = some (dN (l.getD 1 0 % L)) := mod_ii (by omega)
    have ap := appS_s (i := 4) (d := (Stp.lt (l.getD 1 0 % L)).enc) (ρ := [some (.shr (scrD ns)), some (.shr (dN k)), some (.shr (dN L)), a3, some (.own (.list ds)), some (.shr (dN j)), some (.shr (.list (l.map dN))), a7, a8, a9, a10, a11, a12, a13, a14]) (ds := ds) (by omega)
    refine ⟨.lt (l.getD 1 0 % L), some (.shr (.list (l.map dN))), a7, a8, a9, a10, a11, a12, a13, a14, Nat.mod_lt _ hL0, ?_⟩
    rw [L2_law_drawn_steps]
    simp only [sSeq_e, sAsg_e, eCall_e, lC_e, lN_e, eV_e, eW_e, eC_e, o2_e, List.getElem?_cons_succ, List.getElem?_cons_zero, getV_s, getW_s, ap2_s, add_ii, e1, consO_s, Option.bind_some, d1, asgO_s, gN_e, nxO_s, thenS_nx, List.set_cons_succ, List.set_cons_zero, sIf_e, toT_e, i0, i1, m0, m1, q0, asB_b, hd, iteS_t, sApp_e, eTup_e, tupO_2, appO_s]
    exact ap
  · have hd : decide (l.getD 0 0 % 3 = 0) = false := decide_eq_false h
    let cs := chosen L (1 + l.getD 1 0 % (2 ^ L - 1))
    have c0 : 0 < cs.length := chosen_ne hL hL0
    have cl : cs.length ≤ 3 := Nat.le_trans (chosen_len _ _) hL
    have cok : ok L cs := chosen_ok _ _
    have ce := chosen_eq (L := L) (p := l.getD 1 0) (ρ := [some (.shr (scrD ns)), some (.shr (dN k)), some (.shr (dN L)), a3, some (.own (.list ds)), some (.shr (dN j)), some (.shr (.list (l.map dN))), a7, a8, a9, a10, a11, a12, none, a14]) hL hL0 rfl rfl hp (by simp) rfl
    have r1 := rng1_n (show L ≤ 16777216 by omega)
    have r2 : rng1 [.int 2] = some [dN 0, dN 1] := by
      have := rng1_n (count := 2) (by decide)
      exact this
    obtain ⟨a, b, c, b10, b11, b12, g1, s1⟩ := side_step (a0 := some (.shr (scrD ns))) (a1 := some (.shr (dN k))) (a2 := some (.shr (dN L))) (a3 := a3) (a4 := some (.own (.list ds))) (a5 := some (.shr (dN j))) (a10 := a10) (a11 := a11) (a12 := a12) (a13 := a13) (a14 := a14) (l := l) (cs := cs) (ws := []) (sd := 0) d2 c0 cl (by decide) (by simp)
    obtain ⟨a', b', c', b10', b11', b12', g2, s2⟩ := side_step (a0 := some (.shr (scrD ns))) (a1 := some (.shr (dN k))) (a2 := some (.shr (dN L))) (a3 := a3) (a4 := some (.own (.list ds))) (a5 := some (.shr (dN j))) (a10 := b10) (a11 := b11) (a12 := b12) (a13 := a13) (a14 := a14) (l := l) (cs := cs) (ws := [encT a b c]) (sd := 1) d2 c0 cl (by decide) (by simp)
    have fl : forL (gN 9) L1_law_drawn_steps [dN 0, dN 1] [some (.shr (scrD ns)), some (.shr (dN k)), some (.shr (dN L)), a3, some (.own (.list ds)), some (.shr (dN j)), some (.shr (.list (l.map dN))), some (.shr (.list (cs.map fun c => dW [c]))), some (.own (.list [])), a9, a10, a11, a12, a13, a14] =
        some (.nx [some (.shr (scrD ns)), some (.shr (dN k)), some (.shr (dN L)), a3, some (.own (.list ds)), some (.shr (dN j)), some (.shr (.list (l.map dN))), some (.shr (.list (cs.map fun c => dW [c]))), some (.own (.list [encT a b c, encT a' b' c'])), some (.shr (dN 1)), b10', b11', b12', a13, a14]) := by
      rw [forL_cons]
      show turnS (L1_law_drawn_steps [some (.shr (scrD ns)), some (.shr (dN k)), some (.shr (dN L)), a3, some (.own (.list ds)), some (.shr (dN j)), some (.shr (.list (l.map dN))), some (.shr (.list (cs.map fun c => dW [c]))), some (.own (.list [])), some (.shr (dN 0)), a10, a11, a12, a13, a14]) _ = _
      rw [s1, turnS_nx, forL_cons]
      show turnS (L1_law_drawn_steps [some (.shr (scrD ns)), some (.shr (dN k)), some (.shr (dN L)), a3, some (.own (.list ds)), some (.shr (dN j)), some (.shr (.list (l.map dN))), some (.shr (.list (cs.map fun c => dW [c]))), some (.own (.list [encT a b c])), some (.shr (dN 1)), b10, b11, b12, a13, a14]) _ = _
      rw [s2, turnS_nx]
      rfl
    have x0 : ixD (.list [encT a b c, encT a' b' c']) (.int 0) = some (encT a b c) := ix_l (i := 0) rfl
    have x1 : ixD (.list [encT a b c, encT a' b' c']) (.int 1) = some (encT a' b' c') := ix_l (i := 1) rfl
    have lc0 : lcO (some ((List.range L).map dN)) (gN 13) (toT (o2 eqD (o2 andD (o2 shrD (o2 addD (eC (.int 1)) (o2 modD (o2 ixD (eW 6) (eC (.int 1))) (o2 subD (o2 shlD (eC (.int 1)) (eW 2)) (eC (.int 1))))) (eW 13)) (eC (.int 1))) (eC (.int 1)))) (o2 ixD (eC (dW [0, 1, 2])) (eW 13))
        [some (.shr (scrD ns)), some (.shr (dN k)), some (.shr (dN L)), a3, some (.own (.list ds)), some (.shr (dN j)), some (.shr (.list (l.map dN))), a7, a8, a9, a10, a11, a12, none, a14] = some (.list (cs.map fun c => dW [c])) := by
      rw [lcO_s (by simp; omega), ce]
      rfl
    have ap := appS_s (i := 4) (d := (Stp.st a b c a' b' c').enc) (ρ := [some (.shr (scrD ns)), some (.shr (dN k)), some (.shr (dN L)), a3, some (.own (.list ds)), some (.shr (dN j)), some (.shr (.list (l.map dN))), some (.shr (.list (cs.map fun c => dW [c]))), some (.own (.list [encT a b c, encT a' b' c'])), some (.shr (dN 1)), b10', b11', b12', a13, a14]) (ds := ds) (by omega)
    refine ⟨.st a b c a' b' c', some (.shr (.list (l.map dN))), some (.shr (.list (cs.map fun c => dW [c]))), some (.own (.list [encT a b c, encT a' b' c'])), some (.shr (dN 1)), b10', b11', b12', a13, a14, ⟨cs, cok, g1, g2⟩, ?_⟩
    rw [L2_law_drawn_steps]
    simp only [sSeq_e, sAsg_e, eCall_e, lC_e, lN_e, eV_e, eW_e, eC_e, o2_e, List.getElem?_cons_succ, List.getElem?_cons_zero, getV_s, getW_s, ap2_s, add_ii, e1, consO_s, Option.bind_some, d1, asgO_s, gN_e, nxO_s, thenS_nx, List.set_cons_succ, List.set_cons_zero, sIf_e, toT_e, i0, m0, q0, asB_b, hd, iteS_f]
    simp only [sSeq_e, sAsg_e, eLc_e, iCall_e, lC_e, lN_e, eV_e, List.getElem?_cons_succ, List.getElem?_cons_zero, getV_s, consO_s, Option.bind_some, r1, wipeE_cons, wipeE_nil, List.set_cons_succ, List.set_cons_zero, abc_wd, lc0, asgO_s, gN_e, nxO_s, thenS_nx, sOwn_e, eLst_e, lstO_0, ownO_s, sFor_e, eC_e, r2, forO_s, fl, sApp_e, eTup_e, o2_e, eW_e, getW_o, ap2_s, x0, x1, tupO_3, appO_s]
    exact ap
theorem drawn_loop (ns : List Int) {k L : Nat} {a3 : Option Sl} (hL : L ≤ 3) (hL0 : 0 < L) : ∀ (js : List Nat) (ss : List Stp) (a5 a6 a7 a8 a9 a10 a11 a12 a13 a14 : Option Sl), (∀ s ∈ ss, good L s) → ss.length + js.length ≤ 10 →
    ∃ (ss' : List Stp) (b5 b6 b7 b8 b9 b10 b11 b12 b13 b14 : Option Sl), forL (gN 5) L2_law_drawn_steps (js.map dN) [some (.shr (scrD ns)), some (.shr (dN k)), some (.shr (dN L)), a3, some (.own (.list (ss.map Stp.enc))), a5, a6, a7, a8, a9, a10, a11, a12, a13, a14] =
      some (.nx [some (.shr (scrD ns)), some (.shr (dN k)), some (.shr (dN L)), a3, some (.own (.list (ss'.map Stp.enc))), b5, b6, b7, b8, b9, b10, b11, b12, b13, b14]) ∧ (∀ s ∈ ss', good L s) ∧ ss'.length = ss.length + js.length
  | [], ss, a5, a6, a7, a8, a9, a10, a11, a12, a13, a14, hg, _ => ⟨ss, a5, a6, a7, a8, a9, a10, a11, a12, a13, a14, rfl, hg, rfl⟩
  | j :: js, ss, a5, a6, a7, a8, a9, a10, a11, a12, a13, a14, hg, hl => by
    simp at hl
    obtain ⟨s, b6, b7, b8, b9, b10, b11, b12, b13, b14, g, st⟩ := drawn_step ns (k := k) (j := j) (a3 := a3) (a5 := a5) (a6 := a6) (a7 := a7) (a8 := a8) (a9 := a9) (a10 := a10) (a11 := a11) (a12 := a12) (a13 := a13) (a14 := a14) (ds := ss.map Stp.enc) hL hL0 (by simp; omega)
    obtain ⟨ss', c5, c6, c7, c8, c9, c10, c11, c12, c13, c14, e, hg', hl'⟩ := drawn_loop ns (a3 := a3) hL hL0 js (ss ++ [s]) (some (.shr (dN j))) b6 b7 b8 b9 b10 b11 b12 b13 b14 (fun x hx => by
      rcases List.mem_append.mp hx with z | z
      · exact hg x z
      · rw [List.mem_singleton.mp z]; exact g) (by simp; omega)
    refine ⟨ss', c5, c6, c7, c8, c9, c10, c11, c12, c13, c14, ?_, hg', by rw [hl']; simp; omega⟩
    rw [List.map_cons, forL_cons]
    show turnS (L2_law_drawn_steps [some (.shr (scrD ns)), some (.shr (dN k)), some (.shr (dN L)), a3, some (.own (.list (ss.map Stp.enc))), some (.shr (dN j)), a6, a7, a8, a9, a10, a11, a12, a13, a14]) _ = _
    rw [st, turnS_nx]
    rw [List.map_append] at e
    exact e
theorem drawn_steps_eq (ns : List Int) {k L cnt : Nat} (hL : L ≤ 3) (hL0 : 0 < L) (hc : cnt ≤ 10) : ∃ ss : List Stp, F_law_drawn_steps [scrD ns, dN k, dN L, dN cnt] = some (.list (ss.map Stp.enc)) ∧ (∀ s ∈ ss, good L s) ∧ ss.length = cnt := by
  obtain ⟨ss, b5, b6, b7, b8, b9, b10, b11, b12, b13, b14, e, hg, hl⟩ := drawn_loop ns (k := k) (a3 := some (.shr (dN cnt))) hL hL0 (List.range cnt) [] none none none none none none none none none none (fun s hs => by cases hs) (by simpa using hc)
  refine ⟨ss, ?_, hg, by simpa using hl⟩
  have r1 := rng1_n (show cnt ≤ 16777216 by omega)
  rw [List.map_nil] at e
  rw [F_law_drawn_steps, callF_4, b_law_drawn_steps]
  simp only [bind0_e, List.map_cons, List.map_nil, List.length_cons, List.length_nil, List.replicate, List.cons_append, List.nil_append]
  simp only [sSeq_e, sOwn_e, eLst_e, lN_e, Option.bind_some, lstO_0, ownO_s, thenS_nx, List.set_cons_succ, List.set_cons_zero, sFor_e, iCall_e, lC_e, eV_e, List.getElem?_cons_succ, List.getElem?_cons_zero, getV_s, consO_s, r1, forO_s, e, sFrz_e, frzE_e, frzS_o, sRet_e, rtO_s, endF_rt]
/-! ### the law -/
theorem plain_T (a b c : List Nat) (n : Nat) : plain (n + 2) (encT a b c) := plain_tuple.mpr ⟨by simp, fun x hx => by
  simp at hx
  rcases hx with rfl | rfl | rfl <;> exact trivial⟩
theorem plain_S (s : Stp) : plain 3 s.enc := by
  cases s with
  | lt i => exact plain_tuple.mpr ⟨by simp, fun x hx => by
      simp at hx
      rcases hx with rfl | rfl <;> exact trivial⟩
  | st a b c a' b' c' => exact plain_tuple.mpr ⟨by simp, fun x hx => by
      simp at hx
      rcases hx with rfl | rfl | rfl
      · exact trivial
      · exact plain_T a b c 0
      · exact plain_T a' b' c' 0⟩
theorem law_step {L n : Nat} {ss : List Stp} {a0 a1 a5 a6 : Option Sl} (hL : L ≤ 3) (hn : n ≤ 4) (hg : ∀ s ∈ ss, good L s) (hl : ss.length ≤ 10) :
    ∃ b5 b6, L1_law [a0, a1, some (.shr (dN L)), some (.shr (.list (ss.map Stp.enc))), some (.shr (dN n)), a5, a6] = some (.nx [a0, a1, some (.shr (dN L)), some (.shr (.list (ss.map Stp.enc))), some (.shr (dN n)), b5, b6]) := by
  have m1 := law_made1 hL hn hg hl
  have m2 := law_made2 hL hn hg hl
  have bw := bond_words_eq hL hn hg hl
  have ev := made_eqv (n := n) ss hg
  have l1 := made_len (f := Stp.p1 n) (m := 60) ss fun s hs => p1_len (hg s hs) hn
  have l2 := made_len (f := Stp.p2 n) (m := 60) ss fun s hs => p2_len (hg s hs) hn
  have o1 : ok L (ss.flatMap (Stp.p1 n)) := fun x hx => by
    obtain ⟨s, hs, hx⟩ := List.mem_flatMap.mp hx
    exact p1_ok (hg s hs) x hx
  have o2 : ok L (ss.flatMap (Stp.p2 n)) := fun x hx => by
    obtain ⟨s, hs, hx⟩ := List.mem_flatMap.mp hx
    exact p2_ok (hg s hs) x hx
  generalize ss.flatMap (Stp.p1 n) = x at m1 bw ev l1 o1
  generalize ss.flatMap (Stp.p2 n) = y at m2 bw ev l2 o2
  have s1 : F_law_same 4 [.tuple [dW x, dW y], .tuple [dW x, dW y]] = some (.bool true) := law_same_eq 4 _ (plain_tuple.mpr ⟨by simp, fun z hz => by
    simp at hz
    rcases hz with rfl | rfl <;> exact trivial⟩)
  have s2 : F_law_same 4 [.list (ss.map Stp.enc), .list (ss.map Stp.enc)] = some (.bool true) := law_same_eq 4 _ (plain_list.mpr ⟨by simp; omega, fun z hz => by
    obtain ⟨s, _, rfl⟩ := List.mem_map.mp hz
    exact plain_S s⟩)
  have lf : lstF [.list (ss.map Stp.enc)] = some (.list (ss.map Stp.enc)) := rfl
  by_cases h4 : n < 4
  · have hd : decide ((n : Int) < 4) = true := decide_eq_true (by omega)
    have hc : cnt L n ≤ 16777216 := by
      have : ∀ a < 4, ∀ b < 4, cnt a b ≤ 16777216 := by decide
      exact this L (by omega) n h4
    have w1 := law_subwords_eq (k := L) (n := n) (x := x) hL (by omega) (by omega) hc
    have w2 := law_subwords_eq (k := L) (n := n) (x := y) hL (by omega) (by omega) hc
    rw [← lvls_eqv ev n (Nat.le_refl _)] at w2
    have ne := ne_tt (ds := (lvls L x n).map dW) (shaped_words fun u hu c hc => by
      obtain ⟨i, _, hu⟩ := List.mem_flatMap.mp hu
      have := (wordsOf_ok L i u (List.mem_filter.mp hu).1).1 c hc
      omega)
    have al := alike_eq (k := n) (l := dN L) (by omega) (fun c hc => by have := o1 c hc; omega) (fun c hc => by have := o2 c hc; omega) ev
    have isn : isnD (.bool true) (.bool true) = some (.bool false) := rfl
    refine ⟨some (.shr (.list (ss.map Stp.enc))), some (.shr (.tuple [dW x, dW y])), ?_⟩
    rw [L1_law]
    simp only [sSeq_e, sAsg_e, eCall_e, lC_e, lN_e, eV_e, eW_e, eC_e, List.getElem?_cons_succ, List.getElem?_cons_zero, getV_s, getW_s, consO_s, Option.bind_some, lf, asgO_s, gN_e, nxO_s, thenS_nx, List.set_cons_succ, List.set_cons_zero, eTup_e, m1, m2, tupO_2, sIf_e, tOrF_e, tNotF_e, toT_e, bw, s1, s2, asB_b, Option.map_some, Bool.not_true, orO_f, iteS_f, iteS_t, sNx_e, o2_e, ap2_s, lt_ii, hd, ix_t0, ix_t1, w1, w2, ne, al, isn]
  · have hd : decide ((n : Int) < 4) = false := decide_eq_false (by omega)
    refine ⟨some (.shr (.list (ss.map Stp.enc))), some (.shr (.tuple [dW x, dW y])), ?_⟩
    rw [L1_law]
    simp only [sSeq_e, sAsg_e, eCall_e, lC_e, lN_e, eV_e, eW_e, eC_e, List.getElem?_cons_succ, List.getElem?_cons_zero, getV_s, getW_s, consO_s, Option.bind_some, lf, asgO_s, gN_e, nxO_s, thenS_nx, List.set_cons_succ, List.set_cons_zero, eTup_e, m1, m2, tupO_2, sIf_e, tOrF_e, tNotF_e, toT_e, bw, s1, s2, asB_b, Option.map_some, Bool.not_true, orO_f, iteS_f, iteS_t, sNx_e, o2_e, ap2_s, lt_ii, hd]
theorem law_loop {L : Nat} {ss : List Stp} {a0 a1 : Option Sl} (hL : L ≤ 3) (hg : ∀ s ∈ ss, good L s) (hl : ss.length ≤ 10) : ∀ (nsl : List Nat) (a4 a5 a6 : Option Sl), (∀ n ∈ nsl, n ≤ 4) →
    ∃ b4 b5 b6, forL (gN 4) L1_law (nsl.map dN) [a0, a1, some (.shr (dN L)), some (.shr (.list (ss.map Stp.enc))), a4, a5, a6] = some (.nx [a0, a1, some (.shr (dN L)), some (.shr (.list (ss.map Stp.enc))), b4, b5, b6])
  | [], a4, a5, a6, _ => ⟨a4, a5, a6, rfl⟩
  | n :: nsl, a4, a5, a6, h => by
    obtain ⟨b5, b6, st⟩ := law_step (a0 := a0) (a1 := a1) (a5 := a5) (a6 := a6) hL (h n List.mem_cons_self) hg hl
    obtain ⟨c4, c5, c6, e⟩ := law_loop (a0 := a0) (a1 := a1) hL hg hl nsl (some (.shr (dN n))) b5 b6 fun m hm => h m (List.mem_cons_of_mem _ hm)
    refine ⟨c4, c5, c6, ?_⟩
    rw [List.map_cons, forL_cons]
    show turnS (L1_law [a0, a1, some (.shr (dN L)), some (.shr (.list (ss.map Stp.enc))), some (.shr (dN n)), a5, a6]) _ = _
    rw [st, turnS_nx, e]
theorem three {l : List Nat} (h : l.length = 3) : ∃ a b c, l = [a, b, c] := by
  match l, h with
  | [a, b, c], _ => exact ⟨a, b, c, rfl⟩
theorem law_true (ns : List Int) (hns : ns.length ≤ 63) : F_law [scrD ns] = some (.bool true) := by
  rw [F_law, callF_1, b_law]
  obtain ⟨l, d1, d2, _⟩ := draws_eq ns 0 3 5040 (by decide) (by decide) (by decide)
  obtain ⟨a, b, c, rfl⟩ := three d2
  rw [show dN 0 = PyData.int 0 from rfl, show dN 3 = PyData.int 3 from rfl, show dN 5040 = PyData.int 5040 from rfl] at d1
  simp only [List.map_cons, List.map_nil] at d1
  have hb := Nat.mod_lt b (show 0 < 5 by decide)
  have ha := Nat.mod_lt a (show 0 < 3 by decide)
  have m1 := mod_ii (i := (a : Int)) (j := 3) (by decide)
  have m2 := mod_ii (i := (b : Int)) (j := 5) (by decide)
  rw [show ((b : Int) % 5) = ((b % 5 : Nat) : Int) by omega] at m2
  have m3 : (1 : Int) + (a : Int) % 3 = ((1 + a % 3 : Nat) : Int) := by omega
  generalize hkk : 1 + a % 3 = L at m3
  obtain ⟨ss, e1, hg, hl⟩ := drawn_steps_eq ns (k := 1) (L := L) (cnt := b % 5) (by omega) (by omega) (by omega)
  rw [show dN 1 = PyData.int 1 from rfl] at e1
  obtain ⟨b4, b5, b6, e2⟩ := law_loop (L := L) (ss := ss) (a0 := some (.shr (scrD ns))) (a1 := some (.shr (.list [dN a, dN b, dN c]))) (by omega) hg (by omega) [1, 2, 3, 4] none none none (by decide)
  have r : rng2 [.int 1, .int 5] = some ([1, 2, 3, 4].map dN) := by
    rw [rng2_i (by decide) (by decide) (by decide) (by decide)]
    rfl
  have ix1 : ixD (.list [dN a, dN b, dN c]) (.int 1) = some (dN b) := ix_l (i := 1) rfl
  simp only [bind0_e, List.map_cons, List.map_nil, List.length_cons, List.length_nil, List.replicate, List.cons_append, List.nil_append]
  simp only [List.map_cons, List.map_nil] at r e2
  simp only [sSeq_e, sAsg_e, eCall_e, lC_e, lN_e, eV_e, eW_e, eC_e, o2_e, List.getElem?_cons_succ, List.getElem?_cons_zero, getV_s, getW_s, consO_s, Option.bind_some, d1, asgO_s, gN_e, nxO_s, thenS_nx, List.set_cons_succ, List.set_cons_zero, ap2_s, ix_l0, m1, add_ii, m3, ix1, m2, e1, sFor_e, iCall_e, r, forO_s, e2, sRet_e, rtO_s, endF_rt]
end G79

open PySem PySem.W PyProof.Rows
set_option maxRecDepth 100000 in
set_option maxHeartbeats 0 in
theorem PySem.Challenge.cw_viewedwords_k79_words_of_bonds_holds : PySem.Challenge.rw_viewedwords_k79_words_of_bonds.Holds := by
  w_on; o_law; k_head; (case hw => w_witness2)
  k_fill
  refine G79.walk (l := PySem.Challenge.rw_viewedwords_k79_words_of_bonds) rfl rfl (fun w h Y => PySem.W.kIn_of Y) ?F
  case F =>
    intro w mg fa h KX G hmg
    refine' G79.all_mk G79.law_true KX G hmg ?a0 ?l0 ?c0 ?k0 ?a1 ?l1 ?c1 ?k1 ?a2 ?l2 ?c2 ?k2 ?a3 ?l3 ?c3 ?k3 ?a4 ?l4 ?c4 ?k4 ?a5 ?l5 ?c5 ?k5 ?a6 ?l6 ?c6 ?k6 ?a7 ?l7 ?c7 ?k7 ?a8 ?l8 ?c8 ?k8 ?a9 ?l9 ?c9 ?k9 ?a10 ?l10 ?c10 ?k10 ?a11 ?l11 ?c11 ?k11 ?a12 ?l12 ?c12 ?k12 ?a13 ?l13 ?c13 ?k13 ?z_abs ?z_bool ?z_int ?z_isinstance ?z_len ?z_list ?z_min ?z_range ?z_sorted ?z_str ?z_sum ?z_tuple ?y_LETTERS ?y_MANNERS ?w_MANNERS
    (case a0 => k_is); (case l0 => k_is); (case c0 => k_is); (case k0 => k_is)
    (case a1 => k_is); (case l1 => k_is); (case c1 => k_is); (case k1 => k_is)
    (case a2 => k_is); (case l2 => k_is); (case c2 => k_is); (case k2 => k_is)
    (case a3 => k_is); (case l3 => k_is); (case c3 => k_is); (case k3 => k_is)
    (case a4 => k_is); (case l4 => k_is); (case c4 => k_is); (case k4 => k_is)
    (case a5 => k_is); (case l5 => k_is); (case c5 => k_is); (case k5 => k_is)
    (case a6 => k_is); (case l6 => k_is); (case c6 => k_is); (case k6 => k_is)
    (case a7 => k_is); (case l7 => k_is); (case c7 => k_is); (case k7 => k_is)
    (case a8 => k_is); (case l8 => k_is); (case c8 => k_is); (case k8 => k_is)
    (case a9 => k_is); (case l9 => k_is); (case c9 => k_is); (case k9 => k_is)
    (case a10 => k_is); (case l10 => k_is); (case c10 => k_is); (case k10 => k_is)
    (case a11 => k_is); (case l11 => k_is); (case c11 => k_is); (case k11 => k_is)
    (case a12 => k_is); (case l12 => k_is); (case c12 => k_is); (case k12 => k_is)
    (case a13 => k_is); (case l13 => k_is); (case c13 => k_is); (case k13 => k_is)
    (case z_abs => k_is); (case z_bool => k_is); (case z_int => k_is); (case z_isinstance => k_is)
    (case z_len => k_is); (case z_list => k_is); (case z_min => k_is); (case z_range => k_is)
    (case z_sorted => k_is); (case z_str => k_is); (case z_sum => k_is); (case z_tuple => k_is)
    (case y_LETTERS => k_is); (case y_MANNERS => k_is); (case w_MANNERS => k_is)

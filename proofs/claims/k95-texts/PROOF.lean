import PyProof.Rows.All
import Wide.All
import OpenK.AllK
import Wide.FinOn
import KE.KStateDown
import Lean
import HandS.Codes
import HandS.Comp
import HandS.Conv
import HandS.Deep
import HandS.Defaults
import HandS.Evl
import HandS.Exc
import HandS.ExcIs
import HandS.ExcOwn
import HandS.ForMost
import HandS.Head0
import HandS.Head1
import HandS.Head2
import HandS.HeadEnd
import HandS.HeadHook1
import HandS.HeadHook2
import HandS.HeadHook4
import HandS.IsInst
import HandS.More
import HandS.SortKw
import HandS.Star
import HandS.Style
import HandS.TupAny
import HandS.Walk
import HandS.Wide
import HandS.Zip
import KE.GoesRaise
import KE.IntTextLaws
import PyProof.StrOps2
import PySem.Challenge.RW_tessera_k95_texts_of_expressions
set_option Elab.async false
set_option linter.all false
set_option maxRecDepth 100000
set_option maxHeartbeats 1000000
/-! KitA: data in frames: what stands in a def's slots, told by plain data. -/
namespace T9
open PySem L2
abbrev Dat := PyData
theorem lt_rfl {i n : Nat} (h : Nat.ble (i + 1) n = true) : i < n := Nat.le_of_ble_eq_true h
abbrev Ex := Evl.Ex
mutual
def imm : PyData → Bool
  | .list _ => false
  | .dict _ => false
  | .tuple ds => immAll ds
  | _ => true
def immAll : List PyData → Bool
  | [] => true
  | d :: ds => imm d && immAll ds
end
theorem immAll_iff : ∀ {ds : List PyData}, immAll ds = true ↔ ∀ d ∈ ds, imm d = true
  | [] => by simp [immAll]
  | d :: ds => by
    have ih := immAll_iff (ds := ds)
    simp only [immAll, Bool.and_eq_true, List.mem_cons, forall_eq_or_imp, ih]
section
variable {K : PySem.W.Frag} {H H' H0 H1 : Hp}
/-- tuples stay -/
def Ei (H H' : Hp) : Prop := ∀ a xs, H a = some (.tup xs) → H' a = some (.tup xs)
theorem Ei.ex (e : Ex H H') : Ei H H' := fun a _ h => e a _ h
theorem Ei.upd {a : Addr} {o u : HO} (h : H a = some o) (ht : ∀ xs, o ≠ .tup xs) : Ei H (upd H a u) := fun b xs hb => by
  by_cases e : b = a
  · subst e
    rw [h] at hb
    exact absurd (Option.some.inj hb) (ht xs)
  · rw [upd_ne e]
    exact hb
mutual
theorem dp_ex (e : Ex H H') : ∀ (d : PyData) (v : V), Dp K H v d → Dp K H' v d
  | .none, _, h => by cases h; exact .non
  | .bool b, _, h => by cases h; exact .bl b
  | .int i, _, h => by cases h; exact .int i
  | .str x, _, h => by cases h; exact .str x
  | .list ds, _, h => by
    cases h with
    | lst hs ha => exact .lst (Evl.ex_l e hs) (dpAll_ex e ds _ ha)
  | .tuple ds, _, h => by
    cases h with
    | tup hs ha => exact .tup (Evl.ex_t e hs) (dpAll_ex e ds _ ha)
  | .dict _, _, h => by cases h
theorem dpAll_ex (e : Ex H H') : ∀ (ds : List PyData) (vs : List V), DpAll K H vs ds → DpAll K H' vs ds
  | [], _, h => by cases h; exact .nil
  | d :: ds, _, h => by
    cases h with
    | cons h1 h2 => exact .cons (dp_ex e d _ h1) (dpAll_ex e ds _ h2)
end
theorem sqt_ei {a : Addr} {xs : List V} (e : Ei H H') (hf : ∀ a o u, H a = some (.frz o u) → H' a = some (.frz o u)) (h : SqT K H a xs) : SqT K H' a xs := by
  rcases h with (h | ⟨o, h⟩) | h
  · exact .inl (.inl (e _ _ h))
  · exact .inl (.inr ⟨o, hf _ _ _ h⟩)
  · exact .inr h
/-- tuples and locked things stay -/
def Ej (H H' : Hp) : Prop := Ei H H' ∧ ∀ a o u, H a = some (.frz o u) → H' a = some (.frz o u)
theorem Ej.ex (e : Ex H H') : Ej H H' := ⟨Ei.ex e, fun a _ _ h => e a _ h⟩
theorem Ej.refl (H : Hp) : Ej H H := ⟨fun _ _ h => h, fun _ _ _ h => h⟩
theorem Ej.trans {H2 : Hp} (a : Ej H H1) (b : Ej H1 H2) : Ej H H2 := ⟨fun x xs h => b.1 x xs (a.1 x xs h), fun x o u h => b.2 x o u (a.2 x o u h)⟩
theorem Ej.upd {a : Addr} {o u : HO} (h : H a = some o) (ht : ∀ xs, o ≠ .tup xs) (hf : ∀ p q, o ≠ .frz p q) : Ej H (upd H a u) :=
  ⟨Ei.upd h ht, fun b p q hb => by
    by_cases e : b = a
    · subst e
      rw [h] at hb
      exact absurd (Option.some.inj hb) (hf p q)
    · rw [upd_ne e]
      exact hb⟩
mutual
theorem dp_ej (e : Ej H H') : ∀ (d : PyData) (v : V), imm d = true → Dp K H v d → Dp K H' v d
  | .none, _, _, h => by cases h; exact .non
  | .bool b, _, _, h => by cases h; exact .bl b
  | .int i, _, _, h => by cases h; exact .int i
  | .str x, _, _, h => by cases h; exact .str x
  | .list ds, _, hi, h => by cases hi
  | .tuple ds, _, hi, h => by
    cases h with
    | tup hs ha => exact .tup (sqt_ei e.1 e.2 hs) (dpAll_ej e ds _ hi ha)
  | .dict _, _, _, h => by cases h
theorem dpAll_ej (e : Ej H H') : ∀ (ds : List PyData) (vs : List V), immAll ds = true → DpAll K H vs ds → DpAll K H' vs ds
  | [], _, _, h => by cases h; exact .nil
  | d :: ds, _, hi, h => by
    obtain ⟨h1, h2⟩ := Bool.and_eq_true_iff.mp hi
    cases h with
    | cons a b => exact .cons (dp_ej e d _ h1 a) (dpAll_ej e ds _ h2 b)
end
theorem dpAll_len : ∀ {vs : List V} {ds : List PyData}, DpAll K H vs ds → vs.length = ds.length
  | _, _, .nil => rfl
  | _, _, .cons _ t => congrArg (· + 1) (dpAll_len t)
theorem dpAll_get : ∀ {vs : List V} {ds : List PyData} {i : Nat} {v : V}, DpAll K H vs ds → vs[i]? = some v → ∃ d, ds[i]? = some d ∧ Dp K H v d
  | _, _, _, _, .nil, e => by simp at e
  | _, _, 0, _, .cons r _, e => by simp at e; subst e; exact ⟨_, rfl, r⟩
  | _, _, i + 1, _, .cons _ t, e => by
    obtain ⟨u, h1, h2⟩ := dpAll_get (i := i) t (by simpa using e)
    exact ⟨u, by simpa using h1, h2⟩
theorem dpAll_at : ∀ {vs : List V} {ds : List PyData} {i : Nat} {d : PyData}, DpAll K H vs ds → ds[i]? = some d → ∃ v, vs[i]? = some v ∧ Dp K H v d
  | _, _, _, _, .nil, e => by simp at e
  | _, _, 0, _, .cons r _, e => by simp at e; subst e; exact ⟨_, rfl, r⟩
  | _, _, i + 1, _, .cons _ t, e => by
    obtain ⟨u, h1, h2⟩ := dpAll_at (i := i) t (by simpa using e)
    exact ⟨u, by simpa using h1, h2⟩
theorem dpAll_app : ∀ {vs ws : List V} {ds es : List PyData}, DpAll K H vs ds → DpAll K H ws es → DpAll K H (vs ++ ws) (ds ++ es)
  | _, _, _, _, .nil, s => s
  | _, _, _, _, .cons r t, s => .cons r (dpAll_app t s)
theorem dpAll_one {v : V} {d : PyData} (h : Dp K H v d) : DpAll K H [v] [d] := .cons h .nil
theorem dpAll_set {v : V} {d : PyData} (h : Dp K H v d) : ∀ {vs : List V} {ds : List PyData} (i : Nat), DpAll K H vs ds → DpAll K H (vs.set i v) (ds.set i d)
  | _, _, _, .nil => .nil
  | _, _, 0, .cons _ t => .cons h t
  | _, _, i + 1, .cons r t => .cons r (dpAll_set h i t)
theorem dpAll_take : ∀ {vs : List V} {ds : List PyData} (n : Nat), DpAll K H vs ds → DpAll K H (vs.take n) (ds.take n)
  | _, _, 0, _ => .nil
  | _, _, _ + 1, .nil => .nil
  | _, _, n + 1, .cons r t => .cons r (dpAll_take n t)
theorem dpAll_drop : ∀ {vs : List V} {ds : List PyData} (n : Nat), DpAll K H vs ds → DpAll K H (vs.drop n) (ds.drop n)
  | _, _, 0, r => r
  | _, _, _ + 1, .nil => .nil
  | _, _, n + 1, .cons _ t => dpAll_drop n t
theorem dpAll_rev : ∀ {vs : List V} {ds : List PyData}, DpAll K H vs ds → DpAll K H vs.reverse ds.reverse
  | _, _, .nil => .nil
  | _, _, .cons r t => by
    rw [List.reverse_cons, List.reverse_cons]
    exact dpAll_app (dpAll_rev t) (dpAll_one r)
theorem dpAll_ints : ∀ (ns : List Int), DpAll K H (ns.map V.int) (ns.map PyData.int)
  | [] => .nil
  | n :: ns => .cons (.int n) (dpAll_ints ns)
theorem ints_of : ∀ {ns : List Int} {vs : List V}, DpAll K H vs (ns.map PyData.int) → vs = ns.map V.int
  | [], _, h => by cases h; rfl
  | n :: ns, _, h => by
    cases h with
    | cons h1 h2 =>
      cases h1
      rw [ints_of h2]
      rfl
theorem dpAll_strs : ∀ (ns : List Str), DpAll K H (ns.map V.str) (ns.map PyData.str)
  | [] => .nil
  | n :: ns => .cons (.str n) (dpAll_strs ns)
theorem strs_of : ∀ {ns : List Str} {vs : List V}, DpAll K H vs (ns.map PyData.str) → vs = ns.map V.str
  | [], _, h => by cases h; rfl
  | n :: ns, _, h => by
    cases h with
    | cons h1 h2 =>
      cases h1
      rw [strs_of h2]
      rfl
theorem bools_of : ∀ {ns : List Bool} {vs : List V}, DpAll K H vs (ns.map PyData.bool) → vs = ns.map V.bl
  | [], _, h => by cases h; rfl
  | n :: ns, _, h => by
    cases h with
    | cons h1 h2 =>
      cases h1
      rw [bools_of h2]
      rfl
theorem dp_int {v : V} {i : Int} (h : Dp K H v (.int i)) : v = .int i := by cases h; rfl
theorem dp_str {v : V} {i : Str} (h : Dp K H v (.str i)) : v = .str i := by cases h; rfl
theorem dp_bl {v : V} {i : Bool} (h : Dp K H v (.bool i)) : v = .bl i := by cases h; rfl
theorem dp_non {v : V} (h : Dp K H v .none) : v = .non := by cases h; rfl
theorem dp_tup {v : V} {ds : List PyData} (h : Dp K H v (.tuple ds)) : ∃ a xs, v = .ref a ∧ SqT K H a xs ∧ DpAll K H xs ds := by
  cases h with
  | tup h1 h2 => exact ⟨_, _, rfl, h1, h2⟩
theorem dp_lst {v : V} {ds : List PyData} (h : Dp K H v (.list ds)) : ∃ a xs, v = .ref a ∧ SqL K H a xs ∧ DpAll K H xs ds := by
  cases h with
  | lst h1 h2 => exact ⟨_, _, rfl, h1, h2⟩
end

/-! ### frames -/
/-- an object of one's own -/
inductive Ob where
  | lst (ds : List PyData) | dk (kvs : List (Key × PyData))
/-- what a slot holds: data that stays; an object of one's own, where; a value as it is -/
inductive Sl where
  | im (d : PyData) | ob (a : Addr) (o : Ob) | raw (v : V)
abbrev Fm := List (Option Sl)
/-- data that no store of ours touches: no list in it, or from before (B) -/
def Stab (K : PySem.W.Frag) (B H : Hp) (v : V) (d : PyData) : Prop := Dp K H v d ∧ (imm d = true ∨ Dp K B v d)
inductive StabAll (K : PySem.W.Frag) (B H : Hp) : List V → List PyData → Prop
  | nil : StabAll K B H [] []
  | cons {v : V} {vs : List V} {d : PyData} {ds : List PyData} : Stab K B H v d → StabAll K B H vs ds → StabAll K B H (v :: vs) (d :: ds)
/-- a dict's pairs -/
inductive KvAll (K : PySem.W.Frag) (B H : Hp) : List (Key × V) → List (Key × PyData) → Prop
  | nil : KvAll K B H [] []
  | cons {k : Key} {v : V} {vs : List (Key × V)} {d : PyData} {ds : List (Key × PyData)} : Stab K B H v d → KvAll K B H vs ds → KvAll K B H ((k, v) :: vs) ((k, d) :: ds)
/-- what is owned: its object -/
def OwnOk (K : PySem.W.Frag) (B H : Hp) (a : Addr) : Ob → Prop
  | .lst ds => ∃ vs, H a = some (.lst vs) ∧ StabAll K B H vs ds
  | .dk kvs => ∃ vs, H a = some (.dK vs) ∧ KvAll K B H vs kvs
def SlOk (K : PySem.W.Frag) (B H0 H : Hp) (v : V) (s : Sl) : Prop := match s with
  | .im d => Stab K B H v d
  | .raw w => v = w
  | .ob a o => v = .ref a ∧ H0 a = none ∧ OwnOk K B H a o
structure Fr (K : PySem.W.Frag) (B H0 H : Hp) (σ : St) (fs : Fm) : Prop where
  exB : Ex B H0
  ex : Ex H0 H
  len : σ.length = fs.length
  at_ : ∀ (i : Nat) (s : Sl), fs[i]? = some (some s) → ∃ v, σ[i]? = some (some v) ∧ SlOk K B H0 H v s
  apart : ∀ (i j : Nat) (a : Addr) (o u : Ob), i ≠ j → fs[i]? = some (some (.ob a o)) → fs[j]? = some (some (.ob a u)) → False
section
variable {K : PySem.W.Frag} {B H0 H H' : Hp} {σ : St} {fs : Fm}
theorem Stab.mono {v : V} {d : PyData} (h : Stab K B H v d) (e : Ej H H') (e0 : Ex B H') : Stab K B H' v d := by
  rcases h with ⟨h, i | i⟩
  · exact ⟨dp_ej e d v i h, .inl i⟩
  · exact ⟨dp_ex e0 d v i, .inr i⟩
theorem StabAll.mono (e : Ej H H') (e0 : Ex B H') : ∀ {vs : List V} {ds : List PyData}, StabAll K B H vs ds → StabAll K B H' vs ds
  | _, _, .nil => .nil
  | _, _, .cons h t => .cons (h.mono e e0) (t.mono e e0)
theorem KvAll.mono (e : Ej H H') (e0 : Ex B H') : ∀ {vs : List (Key × V)} {ds : List (Key × PyData)}, KvAll K B H vs ds → KvAll K B H' vs ds
  | _, _, .nil => .nil
  | _, _, .cons h t => .cons (h.mono e e0) (t.mono e e0)
theorem StabAll.now : ∀ {vs : List V} {ds : List PyData}, StabAll K B H vs ds → DpAll K H vs ds
  | _, _, .nil => .nil
  | _, _, .cons h t => .cons h.1 t.now
theorem StabAll.of : ∀ {vs : List V} {ds : List PyData}, DpAll K H vs ds → immAll ds = true → StabAll K B H vs ds
  | _, _, .nil, _ => .nil
  | _, _, .cons h t, i => by
    obtain ⟨h1, h2⟩ := Bool.and_eq_true_iff.mp i
    exact .cons ⟨h, .inl h1⟩ (StabAll.of t h2)
theorem StabAll.base (e : Ex B H) : ∀ {vs : List V} {ds : List PyData}, DpAll K B vs ds → StabAll K B H vs ds
  | _, _, .nil => .nil
  | _, _, .cons h t => .cons ⟨dp_ex e _ _ h, .inr h⟩ (StabAll.base e t)
theorem StabAll.app : ∀ {vs ws : List V} {ds es : List PyData}, StabAll K B H vs ds → StabAll K B H ws es → StabAll K B H (vs ++ ws) (ds ++ es)
  | _, _, _, _, .nil, s => s
  | _, _, _, _, .cons r t, s => .cons r (t.app s)
theorem StabAll.len : ∀ {vs : List V} {ds : List PyData}, StabAll K B H vs ds → vs.length = ds.length
  | _, _, .nil => rfl
  | _, _, .cons _ t => congrArg (· + 1) t.len
theorem StabAll.set {v : V} {d : PyData} (h : Stab K B H v d) : ∀ {vs : List V} {ds : List PyData} (i : Nat), StabAll K B H vs ds → StabAll K B H (vs.set i v) (ds.set i d)
  | _, _, _, .nil => .nil
  | _, _, 0, .cons _ t => .cons h t
  | _, _, i + 1, .cons r t => .cons r (StabAll.set h i t)
theorem StabAll.get : ∀ {vs : List V} {ds : List PyData} {i : Nat} {v : V}, StabAll K B H vs ds → vs[i]? = some v → ∃ d, ds[i]? = some d ∧ Stab K B H v d
  | _, _, _, _, .nil, e => by simp at e
  | _, _, 0, _, .cons r _, e => by simp at e; subst e; exact ⟨_, rfl, r⟩
  | _, _, i + 1, _, .cons _ t, e => by
    obtain ⟨u, h1, h2⟩ := StabAll.get (i := i) t (by simpa using e)
    exact ⟨u, by simpa using h1, h2⟩
theorem KvAll.keys : ∀ {vs : List (Key × V)} {ds : List (Key × PyData)}, KvAll K B H vs ds → vs.map (·.1) = ds.map (·.1)
  | _, _, .nil => rfl
  | _, _, .cons _ t => congrArg (List.cons _) t.keys
theorem OwnOk.mono {a : Addr} {o : Ob} (h : OwnOk K B H a o) (e : Ej H H') (e0 : Ex B H') (ha : H' a = H a) : OwnOk K B H' a o := by
  cases o with
  | lst ds =>
    obtain ⟨vs, h1, h2⟩ := h
    exact ⟨vs, ha.trans h1, h2.mono e e0⟩
  | dk ds =>
    obtain ⟨vs, h1, h2⟩ := h
    exact ⟨vs, ha.trans h1, h2.mono e e0⟩
theorem OwnOk.some {a : Addr} {o : Ob} (h : OwnOk K B H a o) : ∃ u, H a = some u ∧ (∀ xs, u ≠ .tup xs) ∧ ∀ p q, u ≠ .frz p q := by
  cases o with
  | lst ds => exact let ⟨vs, h1, _⟩ := h; ⟨_, h1, (fun _ e => nomatch e), fun _ _ e => nomatch e⟩
  | dk ds => exact let ⟨vs, h1, _⟩ := h; ⟨_, h1, (fun _ e => nomatch e), fun _ _ e => nomatch e⟩
theorem ex_at {a : Addr} {o : HO} (e : Ex H H') (h : H a = some o) : H' a = H a := (e a o h).trans h.symm
theorem OwnOk.ex {a : Addr} {o : Ob} (h : OwnOk K B H a o) (eb : Ex B H) (e : Ex H H') : OwnOk K B H' a o := by
  obtain ⟨u, h1, _⟩ := h.some
  exact h.mono (.ex e) (eb.trans e) (ex_at e h1)
theorem SlOk.mono {v : V} {s : Sl} (h : SlOk K B H0 H v s) (e : Ej H H') (e0 : Ex B H') (ha : ∀ a o, s = .ob a o → H' a = H a) : SlOk K B H0 H' v s := by
  cases s with
  | im d => exact Stab.mono h e e0
  | ob a o => exact ⟨h.1, h.2.1, h.2.2.mono e e0 (ha a o rfl)⟩
  | raw w => exact h
theorem Fr.exH (F : Fr K B H0 H σ fs) : Ex B H := F.exB.trans F.ex
theorem Fr.mono (F : Fr K B H0 H σ fs) (e : Ex H H') : Fr K B H0 H' σ fs where
  exB := F.exB
  ex := F.ex.trans e
  len := F.len
  at_ := fun i s h => let ⟨v, h1, h2⟩ := F.at_ i s h; ⟨v, h1, h2.mono (.ex e) (F.exH.trans e) fun a o hs => by
    subst hs
    obtain ⟨u, h4, _⟩ := OwnOk.some h2.2.2
    exact ex_at e h4⟩
  apart := F.apart
/-- a slot of one's own -/
theorem Fr.own (F : Fr K B H0 H σ fs) {i : Nat} {a : Addr} {o : Ob} (h : fs[i]? = some (some (.ob a o))) : σ[i]? = some (some (.ref a)) ∧ H0 a = none ∧ OwnOk K B H a o := by
  obtain ⟨v, h1, h2⟩ := F.at_ i _ h
  obtain ⟨rfl, h3, h4⟩ := h2
  exact ⟨h1, h3, h4⟩
/-- the object of one slot is changed -/
theorem Fr.put (F : Fr K B H0 H σ fs) {i : Nat} {o o' : Ob} {a : Addr} (h : fs[i]? = some (some (.ob a o))) {u : HO} (new : OwnOk K B (upd H a u) a o') : Fr K B H0 (upd H a u) σ (fs.set i (some (.ob a o'))) := by
  obtain ⟨h1, h2, h3⟩ := F.own h
  obtain ⟨o0, h4, h5, h6⟩ := h3.some
  have e0 : Ex H0 (upd H a u) := fun b o hb => by
    rw [upd_ne (ne_of_none hb h2)]
    exact F.ex b o hb
  have hl : i < fs.length := (List.getElem?_eq_some_iff.mp h).1
  refine ⟨F.exB, e0, by rw [List.length_set]; exact F.len, fun j t hj => ?_, fun j k b p q hjk hj hk => ?_⟩
  · by_cases hij : i = j
    · subst hij
      rw [List.getElem?_set_self hl] at hj
      cases hj
      exact ⟨_, h1, rfl, h2, new⟩
    · rw [List.getElem?_set_ne hij] at hj
      obtain ⟨v, v1, v2⟩ := F.at_ j t hj
      refine ⟨v, v1, v2.mono (Ej.upd h4 h5 h6) (F.exB.trans e0) fun b p hb => ?_⟩
      subst hb
      refine upd_ne fun e => ?_
      subst e
      exact F.apart i j _ _ _ hij h hj
  · have back : ∀ (m : Nat) (r : Ob), (fs.set i (some (.ob a o')))[m]? = some (some (.ob b r)) → ∃ r', fs[m]? = some (some (.ob b r')) := fun m r hr => by
      by_cases him : i = m
      · subst him
        rw [List.getElem?_set_self hl] at hr
        cases hr
        exact ⟨_, h⟩
      · rw [List.getElem?_set_ne him] at hr
        exact ⟨_, hr⟩
    obtain ⟨r1, q1⟩ := back j p hj
    obtain ⟨r2, q2⟩ := back k q hk
    exact F.apart j k b r1 r2 hjk q1 q2
theorem fresh_ex {a : Addr} (e : Ex H H') (h : H' a = none) : H a = none := Evl.fresh_back e h
/-- a name is stored: data -/
theorem Fr.set (F : Fr K B H0 H σ fs) (e : Ex H H') {i : Nat} {v : V} {s : Sl} (hi : i < fs.length) (h : SlOk K B H0 H' v s) (hn : ∀ a o, s = .ob a o → H a = none) : Fr K B H0 H' (σ.set i (some v)) (fs.set i (some s)) := by
  have F' := F.mono e
  have hiσ : i < σ.length := by rw [F.len]; exact hi
  refine ⟨F.exB, F'.ex, by rw [List.length_set, List.length_set]; exact F.len, fun j t hj => ?_, fun j k b p q hjk hj hk => ?_⟩
  · by_cases hij : i = j
    · subst hij
      rw [List.getElem?_set_self hi] at hj
      cases hj
      exact ⟨v, by rw [List.getElem?_set_self hiσ], h⟩
    · rw [List.getElem?_set_ne hij] at hj
      obtain ⟨w, w1, w2⟩ := F'.at_ j t hj
      exact ⟨w, by rw [List.getElem?_set_ne hij]; exact w1, w2⟩
  · have one : ∀ (m : Nat) (r : Ob), m ≠ i → (fs.set i (some s))[m]? = some (some (.ob b r)) → H b = none → False := fun m r hm hr hb => by
      rw [List.getElem?_set_ne (Ne.symm hm)] at hr
      obtain ⟨_, _, f3⟩ := F.own hr
      obtain ⟨o, f4, _⟩ := f3.some
      rw [hb] at f4
      cases f4
    by_cases hij : i = j
    · subst hij
      rw [List.getElem?_set_self hi] at hj
      exact one k q (Ne.symm hjk) hk (hn b p (Option.some.inj (Option.some.inj hj)))
    · by_cases hik : i = k
      · subst hik
        rw [List.getElem?_set_self hi] at hk
        exact one j p (Ne.symm hij) hj (hn b q (Option.some.inj (Option.some.inj hk)))
      · rw [List.getElem?_set_ne hij] at hj
        rw [List.getElem?_set_ne hik] at hk
        exact F.apart j k b p q hjk hj hk
theorem Fr.setD (F : Fr K B H0 H σ fs) (e : Ex H H') {i : Nat} {v : V} {d : PyData} (hi : i < fs.length) (h : Stab K B H' v d) : Fr K B H0 H' (σ.set i (some v)) (fs.set i (some (.im d))) :=
  F.set e hi h fun _ _ q => nomatch q
theorem Fr.setN (F : Fr K B H0 H σ fs) (e : Ex H H') {i : Nat} {a : Addr} {o : Ob} (hi : i < fs.length) (ha : H a = none) (h : OwnOk K B H' a o) : Fr K B H0 H' (σ.set i (some (.ref a))) (fs.set i (some (.ob a o))) :=
  F.set e hi ⟨rfl, fresh_ex F.ex ha, h⟩ fun _ _ q => by
    cases q
    exact ha
/-- less is known -/
def Le (fs gs : Fm) : Prop := fs.length = gs.length ∧ ∀ (i : Nat) (s : Sl), gs[i]? = some (some s) → fs[i]? = some (some s)
theorem Le.refl (fs : Fm) : Le fs fs := ⟨rfl, fun _ _ h => h⟩
theorem Fr.le {gs : Fm} (F : Fr K B H0 H σ fs) (h : Le fs gs) : Fr K B H0 H σ gs :=
  ⟨F.exB, F.ex, F.len.trans h.1, fun i s q => F.at_ i s (h.2 i s q), fun i j a o u hij p q => F.apart i j a o u hij (h.2 i _ p) (h.2 j _ q)⟩
def OwnAt (fs : Fm) (a : Addr) : Prop := ∃ (i : Nat) (o : Ob), fs[i]? = some (some (.ob a o))
/-- the slots of a comprehension's names forgotten -/
def wipeF (fs : Fm) : List Nat → Fm
  | [] => fs
  | v :: vs => (wipeF fs vs).set v none
theorem Fr.forget (F : Fr K B H0 H σ fs) (j : Nat) : Fr K B H0 H (σ.set j none) (fs.set j none) :=
  ⟨F.exB, F.ex, by rw [List.length_set, List.length_set]; exact F.len, fun i s h => by
    by_cases hij : j = i
    · subst hij
      by_cases hl : j < fs.length
      · rw [List.getElem?_set_self hl] at h
        cases h
      · rw [List.getElem?_eq_none (by rw [List.length_set]; omega)] at h
        cases h
    · rw [List.getElem?_set_ne hij] at h ⊢
      exact F.at_ i s h, fun i k a o u hik hi hk => by
    have back : ∀ (m : Nat) (r : Ob), (fs.set j none)[m]? = some (some (.ob a r)) → fs[m]? = some (some (.ob a r)) := fun m r hr => by
      by_cases hjm : j = m
      · subst hjm
        by_cases hl : j < fs.length
        · rw [List.getElem?_set_self hl] at hr
          cases hr
        · rw [List.getElem?_eq_none (by rw [List.length_set]; omega)] at hr
          cases hr
      · rw [List.getElem?_set_ne hjm] at hr
        exact hr
    exact F.apart i k a o u hik (back i o hi) (back k u hk)⟩
theorem Fr.wipe (F : Fr K B H0 H σ fs) : ∀ vs : List Nat, Fr K B H0 H (wipe σ vs) (wipeF fs vs)
  | [] => F
  | v :: vs => (F.wipe vs).forget v
/-- another base for what is fresh: all but one's own -/
theorem Fr.rebase (F : Fr K B H0 H σ fs) : ∃ H2, Fr K B H2 H σ fs ∧ Ex H0 H2 ∧ Ex H2 H ∧ ∀ a o, H a = some o → ¬ OwnAt fs a → H2 a = some o := by
  have dec : ∀ a, Decidable (OwnAt fs a) := fun a => Classical.propDecidable _
  let H2 : Hp := fun a => @ite _ (OwnAt fs a) (dec a) none (H a)
  have out : ∀ a, ¬ OwnAt fs a → H2 a = H a := fun a h => @if_neg (OwnAt fs a) (dec a) h _ _ _
  have in_ : ∀ a, OwnAt fs a → H2 a = none := fun a h => @if_pos (OwnAt fs a) (dec a) h _ _ _
  have e2 : Ex H2 H := fun a o h => by
    by_cases q : OwnAt fs a
    · rw [in_ a q] at h; cases h
    · rw [out a q] at h; exact h
  have e0 : Ex H0 H2 := fun a o h => by
    have q : ¬ OwnAt fs a := fun ⟨i, s, q1⟩ => by
      obtain ⟨_, f2, _⟩ := F.own q1
      rw [f2] at h
      cases h
    rw [out a q]
    exact F.ex a o h
  refine ⟨H2, ⟨F.exB.trans e0, e2, F.len, fun i s h => ?_, F.apart⟩, e0, e2, fun a o h hn => ?_⟩
  · obtain ⟨v, h1, h2⟩ := F.at_ i s h
    refine ⟨v, h1, ?_⟩
    cases s with
    | ob a o => exact ⟨h2.1, in_ a ⟨i, o, h⟩, h2.2.2⟩
    | im d => exact h2
    | raw d => exact h2
  · rw [out a hn]
    exact h
theorem SlOk.base {v : V} {s : Sl} {H2 : Hp} (h : SlOk K B H2 H v s) (e : Ex H0 H2) : SlOk K B H0 H v s := by
  cases s with
  | ob a o => exact ⟨h.1, fresh_ex e h.2.1, h.2.2⟩
  | im d => exact h
  | raw d => exact h
theorem Fr.base {H2 : Hp} (F : Fr K B H2 H σ fs) (eb : Ex B H0) (e : Ex H0 H2) : Fr K B H0 H σ fs :=
  ⟨eb, e.trans F.ex, F.len, fun i s h => let ⟨v, h1, h2⟩ := F.at_ i s h; ⟨v, h1, h2.base e⟩, F.apart⟩
end
end T9

set_option maxHeartbeats 1000000
/-! KitB: what evaluates to which data; statements over frames. -/
namespace T9
open PySem L2
section
variable {K : PySem.W.Frag}
/-- a value that is data now -/
def EvC (K : PySem.W.Frag) (fs : Fm) (te : TE) (d : PyData) : Prop := ∀ (B H0 H : Hp) (σ : St), Fr K B H0 H σ fs → ∀ Q : VK, (∀ v H1, Ex H H1 → Dp K H1 v d → Q v H1) → te σ H Q
/-- data that may be stored -/
def EvS (K : PySem.W.Frag) (fs : Fm) (te : TE) (d : PyData) : Prop := ∀ (B H0 H : Hp) (σ : St), Fr K B H0 H σ fs → ∀ Q : VK, (∀ v H1, Ex H H1 → Stab K B H1 v d → Q v H1) → te σ H Q
/-- a new object -/
def EvN (K : PySem.W.Frag) (fs : Fm) (te : TE) (o : Ob) : Prop := ∀ (B H0 H : Hp) (σ : St), Fr K B H0 H σ fs → ∀ Q : VK, (∀ a H1, Ex H H1 → H a = none → OwnOk K B H1 a o → Q (.ref a) H1) → te σ H Q
/-- a list that is tracked now (no locked one, none of the text) -/
def EvL (K : PySem.W.Frag) (fs : Fm) (te : TE) (ds : List PyData) : Prop := ∀ (B H0 H : Hp) (σ : St), Fr K B H0 H σ fs → ∀ Q : VK, (∀ a vs H1, Ex H H1 → H1 a = some (.lst vs) → DpAll K H1 vs ds → Q (.ref a) H1) → te σ H Q
def EvT (K : PySem.W.Frag) (fs : Fm) (tt : TT) (b : Bool) : Prop := ∀ (B H0 H : Hp) (σ : St), Fr K B H0 H σ fs → ∀ Q : Bool → Hp → Prop, (∀ H1, Ex H H1 → Q b H1) → tt σ H Q
def EvA (K : PySem.W.Frag) (fs : Fm) (ta : TA) (ds : List PyData) : Prop := ∀ (B H0 H : Hp) (σ : St), Fr K B H0 H σ fs → ∀ Q : List V → Hp → Prop, (∀ vs H1, Ex H H1 → DpAll K H1 vs ds → Q vs H1) → ta σ H Q
def EvO (K : PySem.W.Frag) (fs : Fm) (to : TO) (o : Option Int) : Prop := ∀ (B H0 H : Hp) (σ : St), Fr K B H0 H σ fs → ∀ Q : Option Int → Hp → Prop, (∀ H1, Ex H H1 → Q o H1) → to σ H Q
variable {fs : Fm} {ta tb te : TE} {tt tu : TT} {d e c : PyData} {s : Sl} {o : Ob}
theorem ec_of (h : EvS K fs te d) : EvC K fs te d := fun B H0 H σ F Q q => h B H0 H σ F Q fun v H1 e r => q v H1 e r.1
theorem es_of (h : EvC K fs te d) (hi : imm d = true) : EvS K fs te d := fun B H0 H σ F Q q => h B H0 H σ F Q fun v H1 e r => q v H1 e ⟨r, .inl hi⟩
theorem el_of {ds : List PyData} (h : EvN K fs te (.lst ds)) : EvL K fs te ds := fun B H0 H σ F Q q => h B H0 H σ F Q fun a H1 e _ r => by
  obtain ⟨vs, h1, h2⟩ := r
  exact q a vs H1 e h1 h2.now
theorem ecl_of {ds : List PyData} (h : EvL K fs te ds) : EvC K fs te (.list ds) := fun B H0 H σ F Q q => h B H0 H σ F Q fun a vs H1 e h1 h2 => q _ H1 e (.lst (Evl.sq_of h1) h2)
theorem ec_eq (h : EvC K fs te d) (e : d = c) : EvC K fs te c := e ▸ h
theorem es_eq (h : EvS K fs te d) (e : d = c) : EvS K fs te c := e ▸ h
theorem en_eq {o' : Ob} (h : EvN K fs te o) (e : o = o') : EvN K fs te o' := e ▸ h
theorem en_lst {ds es : List PyData} (h : EvN K fs te (.lst ds)) (e : ds = es) : EvN K fs te (.lst es) := e ▸ h
theorem et_eq {a b : Bool} (h : EvT K fs tt a) (e : a = b) : EvT K fs tt b := e ▸ h

theorem es_var {i : Nat} (h : fs[i]? = some (some (.im d))) : EvS K fs (tVar i) d := fun B H0 H σ F Q q => by
  obtain ⟨v, h1, h2⟩ := F.at_ i _ h
  exact ⟨v, h1, q v H (Evl.Ex.refl H) h2⟩
theorem ec_var {i : Nat} (h : fs[i]? = some (some (.im d))) : EvC K fs (tVar i) d := ec_of (es_var h)
theorem el_var {i : Nat} {a : Addr} {ds : List PyData} (h : fs[i]? = some (some (.ob a (.lst ds)))) : EvL K fs (tVar i) ds := fun B H0 H σ F Q q => by
  obtain ⟨h1, _, vs, h3, h4⟩ := F.own h
  exact ⟨_, h1, q a vs H (Evl.Ex.refl H) h3 h4.now⟩
theorem ec_varL {i : Nat} {a : Addr} {ds : List PyData} (h : fs[i]? = some (some (.ob a (.lst ds)))) : EvC K fs (tVar i) (.list ds) := ecl_of (el_var h)
theorem ec_int {i : Int} : EvC K fs (tC (.int i)) (.int i) := fun B H0 H σ F Q q => q _ H (Evl.Ex.refl H) (.int i)
theorem ec_str {x : Str} : EvC K fs (tC (.str x)) (.str x) := fun B H0 H σ F Q q => q _ H (Evl.Ex.refl H) (.str x)
theorem ec_bl {b : Bool} : EvC K fs (tC (.bl b)) (.bool b) := fun B H0 H σ F Q q => q _ H (Evl.Ex.refl H) (.bl b)
theorem ec_non : EvC K fs (tC .non) .none := fun B H0 H σ F Q q => q _ H (Evl.Ex.refl H) .non
/-- a constant of the text -/
theorem ec_K {a : Addr} (h : ∀ H, Dp K H (.ref a) d) : EvC K fs (tC (.ref a)) d := fun B H0 H σ F Q q => q _ H (Evl.Ex.refl H) (h H)

/-- what an operation on values makes of data -/
def RD (K : PySem.W.Frag) (r : R2) (a b c : PyData) : Prop := ∀ (x y : V) (H : Hp), Dp K H x a → Dp K H y b → ∀ Q : VK, (∀ v H1, Ex H H1 → Dp K H1 v c → Q v H1) → r x y H Q
theorem ec_op {r : R2} {a b : PyData} (ha : EvC K fs ta a) (hb : EvC K fs tb b) (hr : RD K r a b c) : EvC K fs (tOp r ta tb) c := fun B H0 H σ F Q q =>
  ha B H0 H σ F _ fun x H1 e1 h1 => hb B H0 H1 σ (F.mono e1) _ fun y H2 e2 h2 => hr x y H2 (dp_ex e2 _ _ h1) h2 Q fun v H3 e3 h3 => q v H3 ((e1.trans e2).trans e3) h3
def UD (K : PySem.W.Frag) (r : V → Hp → VK → Prop) (a c : PyData) : Prop := ∀ (x : V) (H : Hp), Dp K H x a → ∀ Q : VK, (∀ v H1, Ex H H1 → Dp K H1 v c → Q v H1) → r x H Q
theorem ec_un {r : V → Hp → VK → Prop} {a : PyData} (ha : EvC K fs ta a) (hr : UD K r a c) : EvC K fs (tUn r ta) c := fun B H0 H σ F Q q =>
  ha B H0 H σ F _ fun x H1 e1 h1 => hr x H1 h1 Q fun v H3 e3 h3 => q v H3 (e1.trans e3) h3
def AD (K : PySem.W.Frag) (r : List V → Hp → VK → Prop) (as : List PyData) (c : PyData) : Prop := ∀ (xs : List V) (H : Hp), DpAll K H xs as → ∀ Q : VK, (∀ v H1, Ex H H1 → Dp K H1 v c → Q v H1) → r xs H Q
/-- a new list -/
def AL (K : PySem.W.Frag) (r : List V → Hp → VK → Prop) (as cs : List PyData) : Prop := ∀ (xs : List V) (H : Hp), DpAll K H xs as → ∀ Q : VK, (∀ a vs H1, Ex H H1 → H a = none → H1 a = some (.lst vs) → DpAll K H1 vs cs → Q (.ref a) H1) → r xs H Q
variable {t : TA} {as cs : List PyData}
theorem ea_nil : EvA K fs tNil [] := fun B H0 H σ F Q q => q [] H (Evl.Ex.refl H) .nil
theorem ea_cons {tr : TA} (h : EvC K fs te d) (hr : EvA K fs tr as) : EvA K fs (tCons te tr) (d :: as) := fun B H0 H σ F Q q =>
  h B H0 H σ F _ fun v H1 e1 h1 => hr B H0 H1 σ (F.mono e1) _ fun vs H2 e2 h2 => q _ H2 (e1.trans e2) (.cons (dp_ex e2 _ _ h1) h2)
theorem ec_cb {r : List V → Hp → VK → Prop} (h : EvA K fs t as) (hr : AD K r as c) : EvC K fs (tCB r t) c := fun B H0 H σ F Q q =>
  h B H0 H σ F _ fun vs H1 e1 h1 => hr vs H1 h1 Q fun v H2 e2 h2 => q v H2 (e1.trans e2) h2
theorem en_cb {r : List V → Hp → VK → Prop} (h : EvA K fs t as) (hr : AL K r as cs) (hi : immAll cs = true) : EvN K fs (tCB r t) (.lst cs) := fun B H0 H σ F Q q =>
  h B H0 H σ F _ fun vs H1 e1 h1 => hr vs H1 h1 Q fun a ws H2 e2 ha h2 h3 => q _ H2 (e1.trans e2) (fresh_ex e1 ha) ⟨ws, h2, .of h3 hi⟩
theorem ec_cbL {r : List V → Hp → VK → Prop} (h : EvA K fs t as) (hr : AL K r as cs) : EvC K fs (tCB r t) (.list cs) := fun B H0 H σ F Q q =>
  h B H0 H σ F _ fun vs H1 e1 h1 => hr vs H1 h1 Q fun a ws H2 e2 ha h2 h3 => q _ H2 (e1.trans e2) (.lst (Evl.sq_of h2) h3)
theorem ec_tup (h : EvA K fs t as) (hl : as.length ≤ 100000) : EvC K fs (tTup t) (.tuple as) := fun B H0 H σ F Q q =>
  h B H0 H σ F _ fun vs H1 e1 h1 => ⟨Evl.sz_of (by rw [dpAll_len h1]; exact hl), fun p hp => q _ _ (e1.trans (Evl.Ex.new hp)) (.tup (Evl.st_of upd_same) (dpAll_ex (Evl.Ex.new hp) _ _ h1))⟩
theorem en_lstD (h : EvA K fs t as) (hl : as.length ≤ 100000) (hi : immAll as = true) : EvN K fs (tLst t) (.lst as) := fun B H0 H σ F Q q =>
  h B H0 H σ F _ fun vs H1 e1 h1 => ⟨Evl.sz_of (by rw [dpAll_len h1]; exact hl), fun p hp => q _ _ (e1.trans (Evl.Ex.new hp)) (fresh_ex e1 hp) ⟨vs, upd_same, .of (dpAll_ex (Evl.Ex.new hp) _ _ h1) hi⟩⟩
theorem ec_lst (h : EvA K fs t as) (hl : as.length ≤ 100000) : EvC K fs (tLst t) (.list as) := fun B H0 H σ F Q q =>
  h B H0 H σ F _ fun vs H1 e1 h1 => ⟨Evl.sz_of (by rw [dpAll_len h1]; exact hl), fun p hp => q _ _ (e1.trans (Evl.Ex.new hp)) (.lst (Evl.sq_of upd_same) (dpAll_ex (Evl.Ex.new hp) _ _ h1))⟩

/-! ### tests -/
theorem et_test {b : Bool} (h : EvC K fs te (.bool b)) : EvT K fs (tTest te) b := fun B H0 H σ F Q q => h B H0 H σ F _ fun v H1 e1 h1 => by
  cases dp_bl h1
  exact ⟨b, rfl, q H1 e1⟩
theorem et_B {b : Bool} (h : EvC K fs te (.bool b)) : EvT K fs (tB te) b := fun B H0 H σ F Q q => h B H0 H σ F _ fun v H1 e1 h1 => by
  cases dp_bl h1
  exact ⟨b, rfl, q H1 e1⟩
theorem et_and {a b : Bool} (h1 : EvT K fs tt a) (h2 : a = true → EvT K fs tu b) : EvT K fs (tAnd tt tu) (a && b) := fun B H0 H σ F Q q => h1 B H0 H σ F _ fun H1 e1 => by
  cases a with
  | true => exact (show tu σ H1 Q from h2 rfl B H0 H1 σ (F.mono e1) Q fun H2 e2 => q H2 (e1.trans e2))
  | false => exact (show Q false H1 from q H1 e1)
theorem et_or {a b : Bool} (h1 : EvT K fs tt a) (h2 : a = false → EvT K fs tu b) : EvT K fs (tOr tt tu) (a || b) := fun B H0 H σ F Q q => h1 B H0 H σ F _ fun H1 e1 => by
  cases a with
  | true => exact (show Q true H1 from q H1 e1)
  | false => exact (show tu σ H1 Q from h2 rfl B H0 H1 σ (F.mono e1) Q fun H2 e2 => q H2 (e1.trans e2))
theorem et_not {a : Bool} (h1 : EvT K fs tt a) : EvT K fs (tNot tt) (!a) := fun B H0 H σ F Q q => h1 B H0 H σ F _ fun H1 e1 => q H1 e1
theorem et_yes : EvT K fs tYes true := fun B H0 H σ F Q q => q H (Evl.Ex.refl H)
theorem ec_andV {a : Bool} (h1 : EvC K fs ta (.bool a)) (h2 : a = true → EvC K fs tb d) (h3 : a = false → d = .bool false) : EvC K fs (tAndV ta tb) d := fun B H0 H σ F Q q => h1 B H0 H σ F _ fun v H1 e1 hv => by
  cases dp_bl hv
  refine ⟨a, rfl, ?_⟩
  cases a with
  | true => exact (show tb σ H1 Q from h2 rfl B H0 H1 σ (F.mono e1) Q fun v H2 e2 => q v H2 (e1.trans e2))
  | false =>
    have e := h3 rfl
    subst e
    exact (show Q (.bl false) H1 from q _ H1 e1 (.bl false))
theorem ec_and {a b : Bool} (h1 : EvC K fs ta (.bool a)) (h2 : a = true → EvC K fs tb (.bool b)) : EvC K fs (tAndV ta tb) (.bool (a && b)) :=
  ec_andV (d := .bool (a && b)) h1 (fun e => by subst e; exact h2 rfl) (fun e => by subst e; rfl)
theorem ec_or {a b : Bool} (h1 : EvC K fs ta (.bool a)) (h2 : a = false → EvC K fs tb (.bool b)) : EvC K fs (tOrV ta tb) (.bool (a || b)) := fun B H0 H σ F Q q => h1 B H0 H σ F _ fun v H1 e1 hv => by
  cases dp_bl hv
  refine ⟨a, rfl, ?_⟩
  cases a with
  | true => exact (show Q (.bl true) H1 from q _ H1 e1 (.bl true))
  | false => exact (show tb σ H1 Q from h2 rfl B H0 H1 σ (F.mono e1) Q fun v H2 e2 => q v H2 (e1.trans e2))
theorem ec_not {a : Bool} (h1 : EvC K fs ta (.bool a)) : EvC K fs (tNotV ta) (.bool (!a)) := fun B H0 H σ F Q q => h1 B H0 H σ F _ fun v H1 e1 hv => by
  cases dp_bl hv
  exact ⟨a, rfl, q _ H1 e1 (.bl _)⟩
theorem es_if {b : Bool} (h : EvT K fs tt b) (h1 : b = true → EvS K fs ta d) (h2 : b = false → EvS K fs tb d) : EvS K fs (tIf tt ta tb) d := fun B H0 H σ F Q q => h B H0 H σ F _ fun H1 e1 => by
  cases b with
  | true => exact (show ta σ H1 Q from h1 rfl B H0 H1 σ (F.mono e1) Q fun v H2 e2 => q v H2 (e1.trans e2))
  | false => exact (show tb σ H1 Q from h2 rfl B H0 H1 σ (F.mono e1) Q fun v H2 e2 => q v H2 (e1.trans e2))
theorem en_if {b : Bool} (h : EvT K fs tt b) (h1 : b = true → EvN K fs ta o) (h2 : b = false → EvN K fs tb o) : EvN K fs (tIf tt ta tb) o := fun B H0 H σ F Q q => h B H0 H σ F _ fun H1 e1 => by
  cases b with
  | true => exact (show ta σ H1 Q from h1 rfl B H0 H1 σ (F.mono e1) Q fun v H2 e2 n => q v H2 (e1.trans e2) (fresh_ex e1 n))
  | false => exact (show tb σ H1 Q from h2 rfl B H0 H1 σ (F.mono e1) Q fun v H2 e2 n => q v H2 (e1.trans e2) (fresh_ex e1 n))
theorem ec_if {b : Bool} (h : EvT K fs tt b) (h1 : b = true → EvC K fs ta d) (h2 : b = false → EvC K fs tb d) : EvC K fs (tIf tt ta tb) d := fun B H0 H σ F Q q => h B H0 H σ F _ fun H1 e1 => by
  cases b with
  | true => exact (show ta σ H1 Q from h1 rfl B H0 H1 σ (F.mono e1) Q fun v H2 e2 => q v H2 (e1.trans e2))
  | false => exact (show tb σ H1 Q from h2 rfl B H0 H1 σ (F.mono e1) Q fun v H2 e2 => q v H2 (e1.trans e2))
theorem ec_chain {r r' : R2} {tc : TE} {x y z : PyData} {b : Bool} (ha : EvC K fs ta x) (hb : EvC K fs tb y) (hr : RD K r x y (.bool b)) (hc : EvC K fs tc z) {b' : Bool} (hr' : RD K r' y z (.bool b')) : EvC K fs (tChain r r' ta tb tc) (.bool (b && b')) := fun B H0 H σ F Q q =>
  ha B H0 H σ F _ fun u H1 e1 h1 => hb B H0 H1 σ (F.mono e1) _ fun v H2 e2 h2 => hr u v H2 (dp_ex e2 _ _ h1) h2 _ fun w H3 e3 h3 => by
    cases dp_bl h3
    refine ⟨b, rfl, ?_⟩
    cases b with
    | true =>
      refine (show tc σ H3 _ from hc B H0 H3 σ (F.mono ((e1.trans e2).trans e3)) _ fun w' H4 e4 h4 => ?_)
      exact hr' v w' H4 (dp_ex (e3.trans e4) _ _ h2) h4 Q fun p H5 e5 h5 => q p H5 ((((e1.trans e2).trans e3).trans e4).trans e5) h5
    | false => exact (show Q (.bl false) H3 from q _ H3 ((e1.trans e2).trans e3) (.bl false))
theorem eo_none : EvO K fs tNoPart none := fun B H0 H σ F Q q => q H (Evl.Ex.refl H)
theorem eo_some {i : Int} (h : EvC K fs te (.int i)) : EvO K fs (tPart te) (some i) := fun B H0 H σ F Q q => h B H0 H σ F _ fun v H1 e1 h1 => by
  cases dp_int h1
  exact ⟨i, rfl, q H1 e1⟩
end

/-! ### statements -/
structure Po where
  nx : Fm → Prop := fun _ => False
  rt : Sl → Prop := fun _ => False
  bk : Fm → Prop := fun _ => False
  ct : Fm → Prop := fun _ => False
def StF (K : PySem.W.Frag) (ts : TS) (fs : Fm) (P : Po) : Prop := ∀ (B H0 H : Hp) (σ : St) (D : Ends), Fr K B H0 H σ fs →
  (∀ fs' σ' H', P.nx fs' → Fr K B H0 H' σ' fs' → D.nx σ' H') → (∀ s v H', P.rt s → Ex H0 H' → SlOk K B H0 H' v s → D.rt v H') →
  (∀ fs' σ' H', P.bk fs' → Fr K B H0 H' σ' fs' → D.bk σ' H') → (∀ fs' σ' H', P.ct fs' → Fr K B H0 H' σ' fs' → D.ct σ' H') → ts D σ H
section
variable {K : PySem.W.Frag} {fs : Fm} {te : TE} {tt : TT} {tu tw tz : TS} {P : Po} {s : Sl} {d : PyData}
theorem sf_seq {M : Fm → Prop} (h1 : StF K tu fs { P with nx := M }) (h2 : ∀ fs', M fs' → StF K tw fs' P) : StF K (tSeq tu tw) fs P := fun B H0 H σ D F n r b c =>
  h1 B H0 H σ { D with nx := tw D } F (fun fs' σ' H' m F' => h2 fs' m B H0 H' σ' D F' n r b c) r b c
/-- the usual: one frame behind -/
theorem sf_seq1 {fs' : Fm} (h1 : StF K tu fs { P with nx := fun g => g = fs' }) (h2 : StF K tw fs' P) : StF K (tSeq tu tw) fs P := sf_seq h1 fun _ e => e ▸ h2
theorem sf_next (h : P.nx fs) : StF K tNext fs P := fun B H0 H σ D F n r b c => n fs σ H h F
theorem sf_brk (h : P.bk fs) : StF K tBreak fs P := fun B H0 H σ D F n r b c => b fs σ H h F
theorem sf_cont (h : P.ct fs) : StF K tCont fs P := fun B H0 H σ D F n r b c => c fs σ H h F
theorem sf_asg {i : Nat} (h : EvS K fs te d) (hi : i < fs.length) (k : P.nx (fs.set i (some (.im d)))) : StF K (tAsg te (gName i)) fs P := fun B H0 H σ D F n r b c =>
  h B H0 H σ F _ fun v H1 e1 h1 => n _ _ H1 k (F.setD e1 hi h1)
theorem sf_asgN {o : Ob} {i : Nat} (h : EvN K fs te o) (hi : i < fs.length) (k : ∀ a, P.nx (fs.set i (some (.ob a o)))) : StF K (tAsg te (gName i)) fs P := fun B H0 H σ D F n r b c =>
  h B H0 H σ F _ fun a H1 e1 hn h1 => n _ _ H1 (k a) (F.setN e1 hi hn h1)
/-- a name is stored, then the rest -/
theorem sq_asg {i : Nat} (h : EvS K fs te d) (k : StF K tz (fs.set i (some (.im d))) P) (hi : i < fs.length := by exact Nat.le_of_ble_eq_true rfl) : StF K (tSeq (tAsg te (gName i)) tz) fs P :=
  sf_seq1 (sf_asg h hi rfl) k
theorem sq_asgN {o : Ob} {i : Nat} (h : EvN K fs te o) (k : ∀ a, StF K tz (fs.set i (some (.ob a o))) P) (hi : i < fs.length := by exact Nat.le_of_ble_eq_true rfl) : StF K (tSeq (tAsg te (gName i)) tz) fs P :=
  sf_seq (M := fun g => ∃ a, g = fs.set i (some (.ob a o))) (sf_asgN h hi fun a => ⟨a, rfl⟩) fun g ⟨a, e⟩ => e ▸ k a
theorem sf_ret (h : EvS K fs te d) (k : P.rt (.im d)) : StF K (tRet te) fs P := fun B H0 H σ D F n r b c =>
  h B H0 H σ F _ fun v H1 e1 h1 => r (.im d) v H1 k (F.ex.trans e1) h1
theorem sf_retN {o : Ob} (h : EvN K fs te o) (k : ∀ a, P.rt (.ob a o)) : StF K (tRet te) fs P := fun B H0 H σ D F n r b c =>
  h B H0 H σ F _ fun a H1 e1 hn h1 => r (.ob a o) _ H1 (k a) (F.ex.trans e1) ⟨rfl, fresh_ex F.ex hn, h1⟩
/-- a slot is handed back -/
theorem sf_retv {i : Nat} (h : fs[i]? = some (some s)) (k : P.rt s) : StF K (tRet (tVar i)) fs P := fun B H0 H σ D F n r b c => by
  obtain ⟨v, h1, h2⟩ := F.at_ i s h
  exact ⟨v, h1, r s v H k F.ex h2⟩
theorem sf_retNone (k : P.rt (.im .none)) : StF K tRetN fs P := fun B H0 H σ D F n r b c => r _ .non H k F.ex ⟨.non, .inl rfl⟩
theorem sf_if {b : Bool} (h : EvT K fs tt b) (h1 : b = true → StF K tu fs P) (h2 : b = false → StF K tw fs P) : StF K (tIfS tt tu tw) fs P := fun B H0 H σ D F n r bk c =>
  h B H0 H σ F _ fun H1 e1 => by
    cases b with
    | true => exact (show tu D σ H1 from h1 rfl B H0 H1 σ D (F.mono e1) n r bk c)
    | false => exact (show tw D σ H1 from h2 rfl B H0 H1 σ D (F.mono e1) n r bk c)
theorem sf_drop (h : EvC K fs te d) (k : P.nx fs) : StF K (tDrop te) fs P := fun B H0 H σ D F n r b c =>
  h B H0 H σ F _ fun v H1 e1 h1 => n _ _ H1 k (F.mono e1)
theorem sf_le {gs : Fm} (h : StF K tu gs P) (l : Le fs gs) : StF K tu fs P := fun B H0 H σ D F n r b c => h B H0 H σ D (F.le l) n r b c
theorem sf_imp {P' : Po} (h : StF K tu fs P') (h1 : ∀ f, P'.nx f → ∃ g, Le f g ∧ P.nx g) (h2 : ∀ s, P'.rt s → P.rt s) (h3 : ∀ f, P'.bk f → P.bk f) (h4 : ∀ f, P'.ct f → P.ct f) : StF K tu fs P := fun B H0 H σ D F n r b c =>
  h B H0 H σ D F (fun f σ' H' q F' => let ⟨g, l, p⟩ := h1 f q; n g σ' H' p (F'.le l)) (fun s v H' q => r s v H' (h2 s q)) (fun f σ' H' q => b f σ' H' (h3 f q)) (fun f σ' H' q => c f σ' H' (h4 f q))
/-- xs.append(e), xs a list of one's own -/
theorem sf_app {i : Nat} {a : Addr} {ds : List PyData} (hi : fs[i]? = some (some (.ob a (.lst ds)))) (h : EvC K fs te d) (hd : imm d = true) (hl : ds.length < 100000) (k : P.nx (fs.set i (some (.ob a (.lst (ds ++ [d])))))) :
    StF K (tDrop (tBM K "list" rAppend (tVar i) (tCons te tNil))) fs P := fun B H0 H σ D F n r b c => by
  obtain ⟨h1, h2, vs, h3, h4⟩ := F.own hi
  refine ⟨_, h1, .inl ⟨rfl, vs, Evl.sq_of h3⟩, h B H0 H σ F _ fun v H1 e1 hv => ?_⟩
  have F1 := F.mono e1
  obtain ⟨g1, g2, vs', g3, g4⟩ := F1.own hi
  refine ⟨a, vs', v, rfl, rfl, g3, Evl.sz_lt (by rw [g4.len]; exact hl), n _ _ _ k (F1.put hi ?_)⟩
  have ej : Ej H1 (upd H1 a (.lst (vs' ++ [v]))) := Ej.upd g3 (fun _ e => nomatch e) (fun _ _ e => nomatch e)
  have eb : Ex B (upd H1 a (.lst (vs' ++ [v]))) := F.exB.trans (Evl.Ex.mut F1.ex h2)
  exact ⟨_, upd_same, (g4.mono ej eb).app (.cons ⟨dp_ej ej _ _ hd hv, .inl hd⟩ .nil)⟩
/-- xs.extend(ys) -/
theorem sf_ext {i : Nat} {a : Addr} {ds es : List PyData} (hi : fs[i]? = some (some (.ob a (.lst ds)))) (h : EvL K fs te es) (hd : immAll es = true) (hl : ds.length + es.length ≤ 100000) (k : P.nx (fs.set i (some (.ob a (.lst (ds ++ es)))))) :
    StF K (tDrop (tBM K "list" rExtend (tVar i) (tCons te tNil))) fs P := fun B H0 H σ D F n r b c => by
  obtain ⟨h1, h2, vs, h3, h4⟩ := F.own hi
  refine ⟨_, h1, .inl ⟨rfl, vs, Evl.sq_of h3⟩, h B H0 H σ F _ fun b' ws H1 e1 hb hw => ?_⟩
  have F1 := F.mono e1
  obtain ⟨g1, g2, vs', g3, g4⟩ := F1.own hi
  refine ⟨a, b', vs', ws, rfl, rfl, g3, hb, Evl.sz_of (by rw [g4.len, dpAll_len hw]; exact hl), n _ _ _ k (F1.put hi ?_)⟩
  have ej : Ej H1 (upd H1 a (.lst (vs' ++ ws))) := Ej.upd g3 (fun _ e => nomatch e) (fun _ _ e => nomatch e)
  have eb : Ex B (upd H1 a (.lst (vs' ++ ws))) := F.exB.trans (Evl.Ex.mut F1.ex h2)
  exact ⟨_, upd_same, (g4.mono ej eb).app (.of (dpAll_ej ej _ _ hd hw) hd)⟩
/-- while -/
theorem sf_while (W : Nat → Fm → Prop) (m0 : Nat) (h0 : W m0 fs)
    (hs : ∀ m f, W m f → ∃ b, EvT K f tt b ∧ (b = true → StF K tu f { nx := fun g => ∃ m', m' < m ∧ W m' g, ct := fun g => ∃ m', m' < m ∧ W m' g, rt := P.rt, bk := P.nx }) ∧ (b = false → P.nx f)) : StF K (tWhile tt tu) fs P := fun B H0 H σ D F n r b c =>
  ⟨fun m σ' H' => ∃ f, W m f ∧ Fr K B H0 H' σ' f, ⟨m0, fs, h0, F⟩, fun m σ' H' ⟨f, w, F'⟩ => by
    obtain ⟨b', hb, h1, h2⟩ := hs m f w
    refine hb B H0 H' σ' F' _ fun H1 e1 => ?_
    cases b' with
    | true =>
      refine (show ∃ N : St → Hp → Prop, _ from ⟨fun σ2 H2 => ∃ m', m' < m ∧ ∃ f', W m' f' ∧ Fr K B H0 H2 σ2 f', fun σ2 H2 q => q, ?_⟩)
      exact h1 rfl B H0 H1 σ' _ (F'.mono e1) (fun f' σ2 H2 ⟨m', hm, w'⟩ F2 => ⟨m', hm, f', w', F2⟩) r (fun f' σ2 H2 q F2 => n f' σ2 H2 q F2) (fun f' σ2 H2 ⟨m', hm, w'⟩ F2 => ⟨m', hm, f', w', F2⟩)
    | false => exact (show D.nx σ' H1 from n f σ' H1 (h2 rfl) (F'.mono e1))⟩
end
end T9

set_option maxHeartbeats 1000000
/-! KitC: what is walked; loops, comprehensions; promises of defs that change nothing. -/
namespace T9
open PySem L2
section
variable {K : PySem.W.Frag}
def ItOk (K : PySem.W.Frag) (J : It) (Hb : Hp) (ds : List PyData) : Prop := ∃ (G : Hp → Prop) (Y : Nat → Hp → V → Hp → Prop), Walk J ds.length G Y ∧ (∀ H2, Ex Hb H2 → G H2) ∧
  ∀ i H2 x H3, Ex Hb H2 → Y i H2 x H3 → Ex H2 H3 ∧ ∃ d, ds[i]? = some d ∧ Dp K H3 x d
/-- what is walked in a loop that may change objects of one's own; in a comprehension -/
def EvI (K : PySem.W.Frag) (fs : Fm) (wi : TI) (ds : List PyData) : Prop := ∀ (B H0 H : Hp) (σ : St), Fr K B H0 H σ fs → ∀ R : It → Hp → Prop,
  (∀ J H1, Ex H H1 → (∀ Hb, (∀ a o, H1 a = some o → ¬ OwnAt fs a → Hb a = some o) → Ex Hb H1 → ItOk K J Hb ds) → R J H1) → wi σ H R
def EvW (K : PySem.W.Frag) (fs : Fm) (wi : TI) (ds : List PyData) : Prop := ∀ (B H0 H : Hp) (σ : St), Fr K B H0 H σ fs → ∀ R : It → Hp → Prop, (∀ J H1, Ex H H1 → ItOk K J H1 ds → R J H1) → wi σ H R
variable {fs : Fm} {ta tb te : TE} {tt tu : TT} {d e c : PyData} {s : Sl} {o : Ob} {wi : TI} {ds es : List PyData}
theorem ew_of (h : EvI K fs wi ds) : EvW K fs wi ds := fun B H0 H σ F R q => h B H0 H σ F R fun J H1 e1 k => q J H1 e1 (k H1 (fun _ _ h _ => h) (Evl.Ex.refl H1))
theorem ei_eq (h : EvI K fs wi ds) (e : ds = es) : EvI K fs wi es := e ▸ h
theorem ew_eq (h : EvW K fs wi ds) (e : ds = es) : EvW K fs wi es := e ▸ h
theorem itok_list {Hb : Hp} {a : Addr} {xs : List V} (h : SqL K Hb a xs) (hd : DpAll K Hb xs ds) : ItOk K (Itl K a) Hb ds := by
  have hl := dpAll_len hd
  refine ⟨fun H => SqL K H a xs, YAt xs, hl ▸ walk_list, fun H2 e => Evl.ex_l e h, fun i H2 x H3 e y => ?_⟩
  obtain ⟨rfl, y⟩ := y
  obtain ⟨d, h1, h2⟩ := dpAll_get hd y
  exact ⟨Evl.Ex.refl _, d, h1, dp_ex e _ _ h2⟩
theorem itok_tup {Hb : Hp} {a : Addr} {xs : List V} (h : SqT K Hb a xs) (hd : DpAll K Hb xs ds) : ItOk K (Itt K a) Hb ds := by
  have hl := dpAll_len hd
  refine ⟨fun H => SqT K H a xs, YAt xs, hl ▸ walk_tup, fun H2 e => Evl.ex_t e h, fun i H2 x H3 e y => ?_⟩
  obtain ⟨rfl, y⟩ := y
  obtain ⟨d, h1, h2⟩ := dpAll_get hd y
  exact ⟨Evl.Ex.refl _, d, h1, dp_ex e _ _ h2⟩
theorem own_obj {B H0 H : Hp} {σ : St} (F : Fr K B H0 H σ fs) {a : Addr} (h : OwnAt fs a) : H0 a = none ∧ ∃ u, H a = some u ∧ (∀ xs, u ≠ .tup xs) ∧ ∀ p q, u ≠ .frz p q := by
  obtain ⟨i, o, h⟩ := h
  obtain ⟨_, h2, h3⟩ := F.own h
  exact ⟨h2, h3.some⟩
theorem ej_b {B H0 H1 Hb : Hp} {σ : St} (F : Fr K B H0 H1 σ fs) (hb : ∀ a o, H1 a = some o → ¬ OwnAt fs a → Hb a = some o) : Ej H1 Hb :=
  ⟨fun a xs h => hb a _ h fun q => by
    obtain ⟨_, u, h1, h2, _⟩ := own_obj F q
    rw [h] at h1
    exact h2 xs (Option.some.inj h1).symm, fun a p q h => hb a _ h fun z => by
    obtain ⟨_, u, h1, _, h2⟩ := own_obj F z
    rw [h] at h1
    exact h2 p q (Option.some.inj h1).symm⟩
theorem exB_b {B H0 H1 Hb : Hp} {σ : St} (F : Fr K B H0 H1 σ fs) (hb : ∀ a o, H1 a = some o → ¬ OwnAt fs a → Hb a = some o) : Ex B Hb := fun a o h => hb a o (F.exH a o h) fun z => by
  obtain ⟨h1, _⟩ := own_obj F z
  rw [F.exB a o h] at h1
  cases h1
/-- a list that was just made -/
theorem ei_N (h : EvN K fs te (.lst ds)) (hi : immAll ds = true) : EvI K fs (iList K te) ds := fun B H0 H σ F R q => h B H0 H σ F _ fun a H1 e1 hn ⟨vs, h1, h2⟩ =>
  ⟨a, rfl, ⟨vs, Evl.sq_of h1⟩, q _ H1 e1 fun Hb hb eb => itok_list (xs := vs) (Evl.sq_of (hb a _ h1 fun z => by
    obtain ⟨_, u, h3, _⟩ := own_obj F z
    rw [hn] at h3
    cases h3)) (dpAll_ej (ej_b (F.mono e1) hb) _ _ hi h2.now)⟩
/-- a list from before -/
theorem ei_var {i : Nat} (h : fs[i]? = some (some (.im (.list ds)))) : EvI K fs (iList K (tVar i)) ds := fun B H0 H σ F R q => by
  obtain ⟨v, h1, h2⟩ := F.at_ i _ h
  rcases h2 with ⟨h2, h3 | h3⟩
  · cases h3
  · obtain ⟨a, xs, rfl, h4, h5⟩ := dp_lst h2
    refine ⟨_, h1, a, rfl, ⟨xs, h4⟩, q _ H (Evl.Ex.refl H) fun Hb hb eb => ?_⟩
    obtain ⟨a', ys, e, g4, g5⟩ := dp_lst (dp_ex (exB_b F hb) _ _ h3)
    cases e
    exact itok_list g4 g5
theorem ei_tup (h : EvC K fs te (.tuple ds)) (hi : immAll ds = true) : EvI K fs (iTup K te) ds := fun B H0 H σ F R q => h B H0 H σ F _ fun v H1 e1 hv => by
  obtain ⟨a, xs, rfl, h4, h5⟩ := dp_tup hv
  refine ⟨a, rfl, ⟨xs, h4⟩, q _ H1 e1 fun Hb hb eb => ?_⟩
  obtain ⟨a', ys, e, g4, g5⟩ := dp_tup (dp_ej (ej_b (F.mono e1) hb) _ _ hi hv)
  cases e
  exact itok_tup g4 g5
/-- in a comprehension: any list -/
theorem ew_list (h : EvC K fs te (.list ds)) : EvW K fs (iList K te) ds := fun B H0 H σ F R q => h B H0 H σ F _ fun v H1 e1 hv => by
  obtain ⟨a, xs, rfl, h4, h5⟩ := dp_lst hv
  exact ⟨a, rfl, ⟨xs, h4⟩, q _ H1 e1 (itok_list h4 h5)⟩
theorem ew_tup (h : EvC K fs te (.tuple ds)) : EvW K fs (iTup K te) ds := fun B H0 H σ F R q => h B H0 H σ F _ fun v H1 e1 hv => by
  obtain ⟨a, xs, rfl, h4, h5⟩ := dp_tup hv
  exact ⟨a, rfl, ⟨xs, h4⟩, q _ H1 e1 (itok_tup h4 h5)⟩
def rangeD (lo : Int) (n : Nat) : List PyData := (List.range n).map fun i => .int (lo + (i : Nat))
theorem rangeD_len (lo : Int) (n : Nat) : (rangeD lo n).length = n := by simp [rangeD]
theorem rangeD_get {lo : Int} {n i : Nat} {d : PyData} (h : (rangeD lo n)[i]? = some d) : i < n ∧ d = .int (lo + (i : Nat)) := by
  unfold rangeD at h
  rw [List.getElem?_map] at h
  by_cases hi : i < n
  · rw [List.getElem?_range hi] at h
    exact ⟨hi, (Option.some.inj h).symm⟩
  · rw [List.getElem?_eq_none (by simpa using hi)] at h
    cases h
theorem rangeD_mem {lo : Int} {n : Nat} {d : PyData} (h : d ∈ rangeD lo n) : ∃ i : Nat, i < n ∧ d = .int (lo + (i : Nat)) := by
  obtain ⟨i, hi, e⟩ := List.mem_map.mp h
  exact ⟨i, List.mem_range.mp hi, e.symm⟩
theorem itok_range {Hb : Hp} {lo : Int} {n : Nat} : ItOk K (Itr lo n) Hb (rangeD lo n) := by
  refine ⟨fun _ => True, fun i H x H' => i < n ∧ H' = H ∧ x = .int (lo + (i : Nat)), ?_, fun _ _ => trivial, fun i H2 x H3 e y => ?_⟩
  · rw [rangeD_len]
    exact walk_range.mono (fun _ _ => trivial) fun i H x H' hi _ y => ⟨hi, y⟩
  · obtain ⟨hi, rfl, rfl⟩ := y
    exact ⟨Evl.Ex.refl _, _, by unfold rangeD; rw [List.getElem?_map, List.getElem?_range hi]; rfl, .int _⟩
theorem ei_rng1 {t : TA} {n : Int} (h : EvA K fs t [.int n]) (hn : n < 2 ^ 62) (hn2 : -(2 ^ 62) ≤ n) : EvI K fs (iRng1 t) (rangeD 0 n.toNat) := fun B H0 H σ F R q => h B H0 H σ F _ fun vs H1 e1 hv => by
  cases hv with
  | cons h1 h2 =>
    cases h2
    cases dp_int h1
    exact ⟨n, rfl, hn2, hn, q _ H1 e1 fun Hb _ _ => itok_range⟩
theorem ei_rng2 {t : TA} {m n : Int} (h : EvA K fs t [.int m, .int n]) (hm : -(2 ^ 62) ≤ m ∧ m < 2 ^ 62) (hn : -(2 ^ 62) ≤ n ∧ n < 2 ^ 62) : EvI K fs (iRng2 t) (rangeD m (n - m).toNat) := fun B H0 H σ F R q => h B H0 H σ F _ fun vs H1 e1 hv => by
  cases hv with
  | cons h1 h2 =>
    cases h2 with
    | cons h2 h3 =>
      cases h3
      cases dp_int h1
      cases dp_int h2
      exact ⟨m, n, rfl, ⟨hm.1, hm.2, hn.1, hn.2⟩, q _ H1 e1 fun Hb _ _ => itok_range⟩
def signs (z : Str) : List PyData := z.cps.toList.map fun c => .str ⟨#[c]⟩
theorem ei_str {z : Str} (h : EvC K fs te (.str z)) : EvI K fs (iStr te) (signs z) := fun B H0 H σ F R q => h B H0 H σ F _ fun v H1 e1 hv => by
  cases dp_str hv
  refine ⟨z, rfl, q _ H1 e1 fun Hb _ _ => ⟨fun _ => True, (fun i H v H' => H' = H ∧ ∃ c, z.cps[i]? = some c ∧ v = .str ⟨#[c]⟩), ?_, fun _ _ => trivial, fun i H2 x H3 e y => ?_⟩⟩
  · have : (signs z).length = z.cps.size := by simp [signs]
    rw [this]
    exact walk_str
  · obtain ⟨rfl, c, h1, rfl⟩ := y
    refine ⟨Evl.Ex.refl _, _, ?_, .str _⟩
    unfold signs
    rw [List.getElem?_map, Array.getElem?_toList, h1]
    rfl
/-! ### loops -/
/-- a target takes data -/
def PutG (K : PySem.W.Frag) (g : TG) (d : PyData) (f f' : Fm) : Prop := ∀ (B H0 H : Hp) (σ : St) (x : V), Fr K B H0 H σ f → Dp K H x d → ∀ Q : St → Hp → Prop, (∀ σ' H', Ex H H' → Fr K B H0 H' σ' f' → Q σ' H') → g x σ H Q
theorem put_name {j : Nat} {f : Fm} (hj : j < f.length) (hi : imm d = true) : PutG K (gName j) d f (f.set j (some (.im d))) := fun B H0 H σ x F hx Q q =>
  q _ H (Evl.Ex.refl H) (F.setD (Evl.Ex.refl H) hj ⟨hx, .inl hi⟩)
theorem put_tup2 {i j : Nat} {f : Fm} {d1 d2 : PyData} (hi : i < f.length) (hj : j < f.length) (h1 : imm d1 = true) (h2 : imm d2 = true) :
    PutG K (gTup K 2 (gCons (gName i) (gCons (gName j) gNil))) (.tuple [d1, d2]) f ((f.set i (some (.im d1))).set j (some (.im d2))) := fun B H0 H σ x F hx Q q => by
  obtain ⟨a, xs, rfl, h4, h5⟩ := dp_tup hx
  cases h5 with
  | cons g1 g2 =>
    cases g2 with
    | cons g2 g3 =>
      cases g3
      refine ⟨a, _, rfl, h4, rfl, _, _, rfl, _, _, rfl, rfl, q _ H (Evl.Ex.refl H) ?_⟩
      exact (F.setD (Evl.Ex.refl H) hi ⟨g1, .inl h1⟩).setD (Evl.Ex.refl H) (by rw [List.length_set]; exact hj) ⟨g2, .inl h2⟩
theorem sf_for {P : Po} {g : TG} {tb : TS} (Iv : Nat → Fm → Prop) (h : EvI K fs wi ds) (h0 : Iv 0 fs)
    (hs : ∀ i d f, ds[i]? = some d → Iv i f → ∃ f', PutG K g d f f' ∧ StF K tb f' { nx := Iv (i + 1), ct := Iv (i + 1), bk := P.nx, rt := P.rt }) (hd : ∀ f, Iv ds.length f → P.nx f) : StF K (tFor wi g tb) fs P := fun B H0 H σ D F n r b c =>
  h B H0 H σ F _ fun J H1 e1 k => by
    have F1 := F.mono e1
    obtain ⟨Hb, Fb, e0, eb, hb⟩ := F1.rebase
    obtain ⟨G, Y, w, hG, hY⟩ := k Hb hb eb
    refine for_it w (fun i σ H => ∃ f, Iv i f ∧ Fr K B Hb H σ f) ⟨fs, h0, Fb⟩ (fun i σ H _ ⟨f, _, F⟩ => hG H F.ex) (fun i x σ2 H2 H3 hi ⟨f, hf, F2⟩ y => ?_) fun σ2 H2 ⟨f, hf, F2⟩ => n f σ2 H2 (hd f hf) (F2.base F.exB e0)
    obtain ⟨e3, d, hd1, hx⟩ := hY i H2 x H3 F2.ex y
    obtain ⟨f', hp, hb⟩ := hs i d f hd1 hf
    refine hp B Hb H3 σ2 x (F2.mono e3) hx _ fun σ4 H4 e4 F4 => ?_
    exact hb B Hb H4 σ4 _ F4 (fun f5 σ5 H5 p F5 => ⟨f5, p, F5⟩) (fun s v H5 p e5 q => r s v H5 p (e0.trans e5) (q.base e0)) (fun f5 σ5 H5 p F5 => n f5 σ5 H5 p (F5.base F.exB e0)) fun f5 σ5 H5 p F5 => ⟨f5, p, F5⟩
/-- .. over a list of one's own that stays -/
theorem sf_forO {P : Po} {g : TG} {tb : TS} {j : Nat} {a : Addr} (Iv : Nat → Fm → Prop) (hj : ∀ i f, i ≤ ds.length → Iv i f → f[j]? = some (some (.ob a (.lst ds)))) (h0 : Iv 0 fs)
    (hs : ∀ i d f, ds[i]? = some d → Iv i f → ∃ f', PutG K g d f f' ∧ StF K tb f' { nx := Iv (i + 1), ct := Iv (i + 1), bk := P.nx, rt := P.rt }) (hd : ∀ f, Iv ds.length f → P.nx f) : StF K (tFor (iList K (tVar j)) g tb) fs P := fun B H0 H σ D F n r b c => by
  obtain ⟨h1, _, vs0, h3, h4⟩ := F.own (hj 0 fs (Nat.zero_le _) h0)
  refine ⟨_, h1, a, rfl, ⟨vs0, Evl.sq_of h3⟩, ?_⟩
  refine ⟨fun i m σ H => m = ds.length - i ∧ i ≤ ds.length ∧ ∃ f, Iv i f ∧ Fr K B H0 H σ f, ⟨_, rfl, Nat.zero_le _, fs, h0, F⟩, ?_⟩
  rintro i m σ2 H2 ⟨rfl, hi, f, hf, F2⟩
  obtain ⟨_, _, vs, g3, g4⟩ := F2.own (hj i f hi hf)
  have gl := g4.len
  by_cases hlt : i < ds.length
  · refine .inr ⟨⟨vs, vs[i]'(by omega), Evl.sq_of g3, by simp [show i < vs.length by omega]⟩, fun σ H => ∃ f, Iv (i + 1) f ∧ Fr K B H0 H σ f, fun σ' H' p => ⟨ds.length - (i + 1), by omega, rfl, by omega, p⟩, fun x H' y => ?_⟩
    obtain ⟨rfl, y⟩ := y
    obtain ⟨d, hd1, hx⟩ := dpAll_get g4.now (y vs (Evl.sq_of g3))
    obtain ⟨f', hp, hb⟩ := hs i d f hd1 hf
    refine hp B H0 H' σ2 x F2 hx _ fun σ4 H4 e4 F4 => ?_
    exact hb B H0 H4 σ4 _ F4 (fun f5 σ5 H5 p F5 => ⟨f5, p, F5⟩) r (fun f5 σ5 H5 p F5 => n f5 σ5 H5 p F5) fun f5 σ5 H5 p F5 => ⟨f5, p, F5⟩
  · have e : i = ds.length := by omega
    subst e
    exact .inl ⟨⟨vs, Evl.sq_of g3, by omega⟩, n f σ2 H2 (hd f hf) F2⟩
/-! ### comprehensions -/
theorem wipe_at {α : Type} (set : List (Option α) → Nat → List (Option α)) : True := trivial
theorem wipe_get {σ : St} {i : Nat} : ∀ {vs : List Nat}, (wipe σ vs)[i]? = if i ∈ vs then (if i < σ.length then some none else none) else σ[i]?
  | [] => by simp [wipe]
  | v :: vs => by
    have ih := wipe_get (σ := σ) (i := i) (vs := vs)
    unfold wipe
    by_cases hv : v = i
    · subst hv
      rw [if_pos List.mem_cons_self]
      by_cases hl : v < σ.length
      · rw [List.getElem?_set_self (by rw [wipe_length]; exact hl), if_pos hl]
      · rw [List.getElem?_eq_none (by rw [List.length_set, wipe_length]; omega), if_neg hl]
    · rw [List.getElem?_set_ne hv, ih]
      by_cases hm : i ∈ vs
      · rw [if_pos hm, if_pos (List.mem_cons_of_mem _ hm)]
      · rw [if_neg hm, if_neg (fun z => (List.mem_cons.mp z).elim (fun q => hv q.symm) hm)]
theorem wipe_set {σ : St} {j : Nat} {y : Option V} {vs : List Nat} (hj : j ∈ vs) : wipe ((wipe σ vs).set j y) vs = wipe σ vs := by
  apply List.ext_getElem?
  intro i
  rw [wipe_get, wipe_get, List.length_set, wipe_length]
  by_cases hm : i ∈ vs
  · rw [if_pos hm, if_pos hm]
  · have hne : j ≠ i := fun e => hm (e ▸ hj)
    rw [if_neg hm, if_neg hm, List.getElem?_set_ne hne, wipe_get, if_neg hm]
theorem wipe_sets {σ : St} {i j : Nat} {x y : Option V} {vs : List Nat} (hi : i ∈ vs) (hj : j ∈ vs) : wipe (((wipe σ vs).set i x).set j y) vs = wipe σ vs := by
  apply List.ext_getElem?
  intro k
  rw [wipe_get, wipe_get, List.length_set, List.length_set, wipe_length]
  by_cases hm : k ∈ vs
  · rw [if_pos hm, if_pos hm]
  · have h1 : j ≠ k := fun e => hm (e ▸ hj)
    have h2 : i ≠ k := fun e => hm (e ▸ hi)
    rw [if_neg hm, if_neg hm, List.getElem?_set_ne h1, List.getElem?_set_ne h2, wipe_get, if_neg hm]
theorem wipeF_len (fs : Fm) : ∀ vs : List Nat, (wipeF fs vs).length = fs.length
  | [] => rfl
  | v :: vs => by unfold wipeF; rw [List.length_set, wipeF_len fs vs]
/-- a comprehension's target -/
def PutC (K : PySem.W.Frag) (g : TG) (vs : List Nat) (d : PyData) (fs f' : Fm) : Prop := ∀ (B H0 H : Hp) (σ : St) (x : V), Fr K B H0 H (wipe σ vs) (wipeF fs vs) → Dp K H x d → ∀ Q : St → Hp → Prop, (∀ σ' H', Ex H H' → Fr K B H0 H' σ' f' → wipe σ' vs = wipe σ vs → Q σ' H') → g x (wipe σ vs) H Q
theorem putc_name {j : Nat} {vs : List Nat} (hj : j ∈ vs) (hl : j < fs.length) (hi : imm d = true) : PutC K (gName j) vs d fs ((wipeF fs vs).set j (some (.im d))) := fun B H0 H σ x F hx Q q =>
  q _ H (Evl.Ex.refl H) (F.setD (Evl.Ex.refl H) (by rw [wipeF_len]; exact hl) ⟨hx, .inl hi⟩) (wipe_set hj)
theorem putc_tup2 {i j : Nat} {vs : List Nat} {d1 d2 : PyData} (hi : i ∈ vs) (hj : j ∈ vs) (hil : i < fs.length) (hl : j < fs.length) (h1 : imm d1 = true) (h2 : imm d2 = true) :
    PutC K (gTup K 2 (gCons (gName i) (gCons (gName j) gNil))) vs (.tuple [d1, d2]) fs (((wipeF fs vs).set i (some (.im d1))).set j (some (.im d2))) := fun B H0 H σ x F hx Q q => by
  obtain ⟨a, xs, rfl, h4, h5⟩ := dp_tup hx
  cases h5 with
  | cons g1 g2 =>
    cases g2 with
    | cons g2 g3 =>
      cases g3
      refine ⟨a, _, rfl, h4, rfl, _, _, rfl, _, _, rfl, rfl, q _ H (Evl.Ex.refl H) ?_ (wipe_sets hi hj)⟩
      exact (F.setD (Evl.Ex.refl H) (by rw [wipeF_len]; exact hil) ⟨g1, .inl h1⟩).setD (Evl.Ex.refl H) (by rw [List.length_set, wipeF_len]; exact hl) ⟨g2, .inl h2⟩
/-- the new list, turn by turn -/
def madeD (b : PyData → Bool) (g : PyData → PyData) (ds : List PyData) : List PyData := (ds.filter b).map g
theorem madeD_take {b : PyData → Bool} {g : PyData → PyData} {i : Nat} {d : PyData} (h : ds[i]? = some d) : madeD b g (ds.take (i + 1)) = if b d = true then madeD b g (ds.take i) ++ [g d] else madeD b g (ds.take i) := by
  unfold madeD
  rw [List.take_succ, h, List.filter_append, List.map_append]
  cases hb : b d with
  | true => simp [hb]
  | false => simp [hb]
theorem en_lc {g : TG} {vs : List Nat} (b : PyData → Bool) (gv : PyData → PyData) (h : EvW K fs wi ds) (hl : ds.length < 100000)
    (hs : ∀ d ∈ ds, ∃ f', PutC K g vs d fs f' ∧ EvT K f' tt (b d) ∧ (b d = true → EvC K f' te (gv d) ∧ imm (gv d) = true)) : EvN K fs (tLc wi g tt te vs) (.lst (madeD b gv ds)) := fun B H0 H σ F Q q =>
  h B H0 H σ F _ fun J H1 e1 ⟨G, Y, w, hG, hY⟩ Dl hD => by
    refine lc_it w (fun i H' => Ex H1 H' ∧ ∃ acc, H' Dl = some (.lst acc) ∧ DpAll K H' acc (madeD b gv (ds.take i)) ∧ immAll (madeD b gv (ds.take i)) = true ∧ acc.length ≤ i) ⟨Evl.Ex.new hD, [], upd_same, .nil, rfl, Nat.le_refl _⟩ (fun i H' _ p => hG H' p.1) (fun i x H2 H3 hi p y => ?_) fun H' p => ?_
    · obtain ⟨p1, acc, p2, p3, p4, p5⟩ := p
      obtain ⟨e3, d, hd1, hx⟩ := hY i H2 x H3 p1 y
      obtain ⟨f', hp, ht, he⟩ := hs d (List.mem_of_getElem? hd1)
      refine hp B H0 H3 σ x ((F.mono (e1.trans (p1.trans e3))).wipe vs) hx _ fun σ4 H4 e4 F4 hw => ⟨hw, ?_⟩
      refine ht B H0 H4 σ4 F4 _ fun H5 e5 => ?_
      rw [madeD_take hd1]
      cases hb : b d with
      | true =>
        refine (show te σ4 H5 _ from (he hb).1 B H0 H5 σ4 (F4.mono e5) _ fun v H6 e6 hv => ?_)
        have ea : Ex H2 H6 := ((e3.trans e4).trans e5).trans e6
        have g2 := ea Dl _ p2
        have ej : Ej H6 (upd H6 Dl (.lst (acc ++ [v]))) := Ej.upd g2 (fun _ e => nomatch e) (fun _ _ e => nomatch e)
        refine ⟨acc, g2, Evl.sz_lt (by omega), Evl.Ex.mut (p1.trans ea) hD, acc ++ [v], upd_same, ?_, ?_, by rw [List.length_append, List.length_singleton]; omega⟩
        · rw [if_pos rfl]
          exact dpAll_app (dpAll_ej ej _ _ p4 (dpAll_ex ea _ _ p3)) (dpAll_one (dp_ej ej _ _ (he hb).2 hv))
        · rw [if_pos rfl]
          rw [immAll_iff] at p4 ⊢
          intro z hz
          rcases List.mem_append.mp hz with q | q
          · exact p4 z q
          · rw [List.mem_singleton.mp q]
            exact (he hb).2
      | false =>
        have ea : Ex H2 H5 := (e3.trans e4).trans e5
        refine (show _ ∧ _ from ⟨p1.trans ea, acc, ea Dl _ p2, ?_, ?_, by omega⟩)
        · rw [if_neg (by decide)]
          exact dpAll_ex ea _ _ p3
        · rw [if_neg (by decide)]
          exact p4
    · obtain ⟨p1, acc, p2, p3, p4, p5⟩ := p
      rw [List.take_length] at p3 p4
      exact q Dl H' (e1.trans p1) (fresh_ex e1 hD) ⟨acc, p2, .of p3 p4⟩
/-! ### promises -/
inductive Res where
  | d (d : PyData) | n (o : Ob)
def ResP (K : PySem.W.Frag) (H H' : Hp) (v : V) : Res → Prop
  | .d d => Stab K H H' v d
  | .n o => ∃ a, v = .ref a ∧ H a = none ∧ OwnOk K H H' a o
/-- a def that changes nothing: what it answers to which data -/
def spF (K : PySem.W.Frag) (R : List PyData → Res → Prop) : Sp := fun vs H Q _ => ∃ ds r, R ds r ∧ DpAll K H vs ds ∧ ∀ v H', Ex H H' → ResP K H H' v r → Q v H'
theorem spF_len {R : List PyData → Res → Prop} {n : Nat} (hR : ∀ ds r, R ds r → ds.length = n) (vs : List V) (H : Hp) (Q : VK) (E : XK) (h : spF K R vs H Q E) : vs.length = n := by
  obtain ⟨ds, r, h1, h2, _⟩ := h
  rw [dpAll_len h2, hR ds r h1]
variable {R : List PyData → Res → Prop} {t : TA} {as : List PyData} {E : XK}
theorem es_call (h : EvA K fs t as) (hR : R as (.d d)) (hi : imm d = true) : EvS K fs (tCall (spF K R) [] E t) d := fun B H0 H σ F Q q =>
  h B H0 H σ F _ fun vs H1 e1 h1 => ⟨as, .d d, hR, by rw [List.append_nil]; exact h1, fun v H2 e2 r => q v H2 (e1.trans e2) ⟨r.1, .inl hi⟩⟩
theorem ec_call (h : EvA K fs t as) (hR : R as (.d d)) : EvC K fs (tCall (spF K R) [] E t) d := fun B H0 H σ F Q q =>
  h B H0 H σ F _ fun vs H1 e1 h1 => ⟨as, .d d, hR, by rw [List.append_nil]; exact h1, fun v H2 e2 r => q v H2 (e1.trans e2) r.1⟩
theorem en_call (h : EvA K fs t as) (hR : R as (.n (.lst ds))) (hi : immAll ds = true) : EvN K fs (tCall (spF K R) [] E t) (.lst ds) := fun B H0 H σ F Q q =>
  h B H0 H σ F _ fun vs H1 e1 h1 => ⟨as, .n (.lst ds), hR, by rw [List.append_nil]; exact h1, fun v H2 e2 r => by
    obtain ⟨a, rfl, hn, ws, h2, h3⟩ := r
    exact q a H2 (e1.trans e2) (fresh_ex e1 hn) ⟨ws, h2, .of h3.now hi⟩⟩
def startF (n : Nat) (ds : List PyData) : Fm := ds.map (fun d => some (.im d)) ++ List.replicate (n - ds.length) none
def IsRes : Sl → Res → Prop
  | .im d, .d e => d = e
  | .ob _ o, .n u => o = u
  | _, _ => False
theorem fr_start {H : Hp} {vs : List V} {N : List Str} (h : DpAll K H vs ds) : Fr K H H H (L2.start N vs) (startF N.length ds) := by
  have hl := dpAll_len h
  refine ⟨Evl.Ex.refl H, Evl.Ex.refl H, ?_, fun i s hs => ?_, fun i j a o u hij hi hj => ?_⟩
  · unfold L2.start startF
    rw [List.length_append, List.length_append, List.length_map, List.length_map, hl, List.length_replicate, List.length_replicate]
  · unfold startF at hs
    unfold L2.start
    by_cases hi : i < ds.length
    · rw [List.getElem?_append_left (by simpa using hi), List.getElem?_map] at hs
      cases hd : ds[i]? with
      | none => rw [hd] at hs; cases hs
      | some d =>
        rw [hd] at hs
        cases hs
        obtain ⟨v, h1, h2⟩ := dpAll_at h hd
        refine ⟨v, ?_, h2, .inr h2⟩
        rw [List.getElem?_append_left (by simpa [hl] using hi), List.getElem?_map, h1]
        rfl
    · rw [List.getElem?_append_right (by simpa using hi), List.getElem?_replicate] at hs
      split at hs <;> cases hs
  · unfold startF at hi
    by_cases hl : i < ds.length
    · rw [List.getElem?_append_left (by simpa using hl), List.getElem?_map] at hi
      cases hd : ds[i]? with
      | none => rw [hd] at hi; cases hi
      | some d => rw [hd] at hi; cases hi
    · rw [List.getElem?_append_right (by simpa using hl), List.getElem?_replicate] at hi
      split at hi <;> cases hi
theorem run_pure {N : List Str} {n : Nat} {ts : TS} (hn : N.length = n) (h : ∀ ds r, R ds r → StF K ts (startF n ds) { nx := fun _ => r = .d .none, rt := fun s => IsRes s r }) (vs : List V) (H : Hp) (Q : VK) (E : XK) (hs : spF K R vs H Q E) :
    ts { nx := fun _ H' => Q .non H', rt := Q } (L2.start N vs) H := by
  obtain ⟨ds, r, h1, h2, q⟩ := hs
  subst hn
  refine h ds r h1 H H H (L2.start N vs) _ (fr_start h2) (fun f σ' H' e F => ?_) (fun s v H' e e0 hv => ?_) (fun _ _ _ e => e.elim) fun _ _ _ e => e.elim
  · subst e
    exact q _ H' F.ex ⟨.non, .inl rfl⟩
  · cases s with
    | im d => cases r with
      | d e' =>
        have e2 : d = e' := e
        subst e2
        exact q v H' e0 hv
      | n o => exact e.elim
    | ob a o => cases r with
      | d e' => exact e.elim
      | n u =>
        have e2 : o = u := e
        subst e2
        exact q v H' e0 ⟨a, hv⟩
    | raw w => cases r <;> exact e.elim
end
end T9

set_option maxHeartbeats 1000000
/-! KitM: max(xs, default=d) of a list of ints. -/
namespace T9
open PySem PySem.Spec PyProof.Rows L2
section
variable {pr : Program} {wo : World} {Ar : Around} {Rs : Result → Shared → Prop} {it : Addr} {fp wr : List Addr} {n : Nat} {Pv : Nat → Value → Prop} {Sv : Nat → Heap → Prop} {kw : List (Str × Value)}
theorem mx_name : (toString "max" ++ toString ".loop" : String) = "max.loop" := by decide
theorem mx_loop (wk : Walks pr wo Ar.in1 it fp wr n Pv Sv) (bt : Nat → Nat → Bool) (hc : CmpOf pr wo Ar.in1 .Gt Pv bt) (bs : Addr) (hf : bs ∉ fp) :
    ∀ (m j : Nat) (s : Shared) (vb : Value) (c : Nat), n - (j + 1) = m → j + 1 ≤ n → Sv (j + 1) s.heap → Pv (argBest bt j) vb →
    s.heap.get? bs = some { cls := .type "list", dict := none, data := .seq #[vb, vb] c, slots := #[] } →
    (∀ v h' tk, Pv (argBest bt (n - 1)) v → (∀ b o, b ∉ wr → b ≠ bs → s.heap.get? b = some o → h'.get? b = some o) → Rs (.ok (.ret v)) { s with heap := h', toks := tk }) →
    codeAny (model pr wo) Ar (.builtin "max.loop" ⟨[.ref it, .none, .ref bs], kw⟩) Rs s := by
  have hw : bs ∉ wr := fun q => hf (wk.sub _ q)
  intro m
  induction m with
  | zero =>
    intro j s vb c hk hj hst hp hb hR
    have hn : j + 1 = n := by omega
    refine codeAny_builtin PySem.F.entry_max_loop ?_
    rw [Around.under_plainId PySem.F.plain_max_loop _]
    refine wpAny_bind (m := seqItems? (.ref bs)) (wpAny_seqItems hb rfl ?_)
    refine wpAny_bind (m := tryCatch (pyNext (.ref it)) _) (wpAny_tryCatch (wk.done s _ _ (hn ▸ hst) fun h' tk kk => ?_))
    have hb' := kk bs _ hw hb
    refine wpAny_bind (m := updateSeq bs (fun _ => #[])) ?_
    refine wpAny_updateSeq hb' rfl (wpAny_bind (wpAny_letGo (wpAny_pure ?_)))
    refine hR vb _ tk (by rw [← hn]; exact hp) fun b o h1 h2 e => ?_
    exact (Heap.get?_update_other _ _ (Ne.symm h2)).trans (kk b o h1 e)
  | succ m ih =>
    intro j s vb c hk hj hst hp hb hR
    have hlt : j + 1 < n := by omega
    refine codeAny_builtin PySem.F.entry_max_loop ?_
    rw [Around.under_plainId PySem.F.plain_max_loop _]
    refine wpAny_bind (m := seqItems? (.ref bs)) (wpAny_seqItems hb rfl ?_)
    refine wpAny_bind (m := tryCatch (pyNext (.ref it)) _) (wpAny_tryCatch (wk.item (j + 1) s _ _ hlt hst fun v h' tk hv hst' kk => ?_))
    have hb' := kk bs _ hw hb
    refine wpAny_bind (m := tryCatch (holding [v, v] (richCompare .Gt v vb >>= _)) _) (wpAny_tryCatch (wpAny_holding (wpAny_bind (hc (j + 1) (argBest bt j) v vb _ _ _ hv hp ?_))))
    refine wpAny_bind (wpAny_holding (wpAny_truthy_bool ?_))
    refine wpAny_bind (wpAny_letGo (wpAny_pure ?_))
    cases hbt : bt (j + 1) (argBest bt j) with
    | true =>
      simp only [if_true]
      refine wpAny_bind ?_
      refine wpAny_updateSeq hb' rfl (wpAny_bind (wpAny_letGo ?_))
      rw [mx_name]
      refine wpAny_pure ⟨plainId_quiet PySem.F.plain_max_loop _, ih (j + 1) _ v _ (by omega) hlt (wk.frame _ _ _ hst' fun b h1 o e => ?_) ?_ (Heap.get?_update_self _ hb' rfl) fun v' h2 tk2 hp2 kk2 => ?_⟩
      · refine (Heap.get?_update_other _ _ fun q : bs = b => hf ?_).trans e
        rw [q]
        exact h1
      · simp only [argBest, hbt, if_true]
        exact hv
      · exact hR v' h2 tk2 hp2 fun b o h3 h4 e => kk2 b o h3 h4 ((Heap.get?_update_other _ _ (Ne.symm h4)).trans (kk b o h3 e))
    | false =>
      simp only [Bool.false_eq_true, if_false]
      refine wpAny_bind (wpAny_letGo ?_)
      rw [mx_name]
      refine wpAny_pure ⟨plainId_quiet PySem.F.plain_max_loop _, ih (j + 1) _ vb c (by omega) hlt hst' ?_ hb' fun v' h2 tk2 hp2 kk2 => ?_⟩
      · simp only [argBest, hbt, Bool.false_eq_true, if_false]
        exact hp
      · exact hR v' h2 tk2 hp2 fun b o h3 h4 e => kk2 b o h3 h4 (kk b o h3 e)
theorem mx_first (wk : Walks pr wo Ar.in1 it fp wr n Pv Sv) (bt : Nat → Nat → Bool) (hc : CmpOf pr wo Ar.in1 .Gt Pv bt) (bs : Addr) (hf : bs ∉ fp) (hn : 0 < n) {s : Shared} {c : Nat} (hst : Sv 0 s.heap)
    (hb : s.heap.get? bs = some { cls := .type "list", dict := none, data := .seq #[] c, slots := #[] })
    (hR : ∀ v h' tk, Pv (argBest bt (n - 1)) v → (∀ b o, b ∉ wr → b ≠ bs → s.heap.get? b = some o → h'.get? b = some o) → Rs (.ok (.ret v)) { s with heap := h', toks := tk }) :
    codeAny (model pr wo) Ar (.builtin "max.loop" ⟨[.ref it, .none, .ref bs], kw⟩) Rs s := by
  have hw : bs ∉ wr := fun q => hf (wk.sub _ q)
  refine codeAny_builtin PySem.F.entry_max_loop ?_
  rw [Around.under_plainId PySem.F.plain_max_loop _]
  refine wpAny_bind (m := seqItems? (.ref bs)) (wpAny_seqItems hb rfl ?_)
  refine wpAny_bind (m := tryCatch (pyNext (.ref it)) _) (wpAny_tryCatch (wk.item 0 s _ _ hn hst fun v h' tk hv hst' kk => ?_))
  have hb' := kk bs _ hw hb
  refine wpAny_bind (m := updateSeq bs (fun _ => #[v, v])) ?_
  refine wpAny_updateSeq hb' rfl ?_
  rw [mx_name]
  refine wpAny_pure ⟨plainId_quiet PySem.F.plain_max_loop _, mx_loop wk bt hc bs hf _ 0 _ v _ rfl hn (wk.frame _ _ _ hst' fun b h1 o e => ?_) hv (Heap.get?_update_self _ hb' rfl) fun v' h2 tk2 hp2 kk2 => ?_⟩
  · refine (Heap.get?_update_other _ _ fun q : bs = b => hf ?_).trans e
    rw [q]
    exact h1
  · exact hR v' h2 tk2 hp2 fun b o h3 h4 e => kk2 b o h3 h4 ((Heap.get?_update_other _ _ (Ne.symm h4)).trans (kk b o h3 e))
theorem mx_empty (wk : Walks pr wo Ar.in1 it fp wr n Pv Sv) (bs : Addr) (hf : bs ∉ fp) (hn : n = 0) {s : Shared} {c : Nat} {key : Str} {d : Value} (hst : Sv 0 s.heap)
    (hb : s.heap.get? bs = some { cls := .type "list", dict := none, data := .seq #[] c, slots := #[] })
    (hR : ∀ h' tk, (∀ b o, b ∉ wr → s.heap.get? b = some o → h'.get? b = some o) → Rs (.ok (.ret d)) { s with heap := h', toks := tk }) :
    codeAny (model pr wo) Ar (.builtin "max.loop" ⟨[.ref it, .none, .ref bs], [(key, d)]⟩) Rs s := by
  subst hn
  refine codeAny_builtin PySem.F.entry_max_loop ?_
  rw [Around.under_plainId PySem.F.plain_max_loop _]
  refine wpAny_bind (m := seqItems? (.ref bs)) (wpAny_seqItems hb rfl ?_)
  refine wpAny_bind (m := tryCatch (pyNext (.ref it)) _) (wpAny_tryCatch (wk.done s _ _ hst fun h' tk kk => ?_))
  exact wpAny_bind (wpAny_rule (wpAny_pure (hR h' tk kk)))
theorem mx_args (a d : Value) : argsOk "max" ⟨[a], [(Str.ofString "default", d)]⟩ := by unfold argsOk; kernel_rfl
end
section
variable {pr : Program} {wo : World} {Ar : Around} {E : Value → Shared → Prop} {s : Shared} {l : Addr} {xs : Array (Int × Tok)} {Q : Value → Shared → Prop} {d : Value}
theorem call_tree_kw {id : String} {b : Builtin} {args : List Value} {kw : List (Str × Value)} (hk : builtinKind id = none) (hp : plainId id = true) (hb : entryFor table id = some b) (ha : argsOk id ⟨args, kw⟩)
    (hc : wpAny (model pr wo) Ar.in1 (b ⟨args, kw⟩) (fun fin s' => match fin with
      | .done f => (match (Except.ok f : Result) with | .ok (.ret v) => Q v s' | .ok _ => False | .error e => E e s')
      | .again c' => c'.quiet = true ∧ codeAny (model pr wo) Ar c' (fun r s' => match r with | .ok (.ret v) => Q v s' | .ok _ => False | .error e => E e s') s') E s) :
    wpAny (model pr wo) Ar (call (.builtin id) args kw) Q E s := by
  refine wpAny_call (codeAny_call_builtin hp hb ?_)
  simp only [checkBuiltinCall, hk]
  cases hs : Manifest.signature? id with
  | none => exact wpAny_pure hc
  | some sg =>
    have h2 : Bind.checkArgs id sg ⟨args, kw⟩ = pure () := by simpa only [argsOk, hs] using ha
    simp only [h2]
    exact wpAny_pure hc
theorem mx_ints (hh : Ar.handled = none) (hl : s.heap.IsList l (intItems xs))
    (h : ∀ v h' tk, (xs.size = 0 → v = d) → (0 < xs.size → (intItems xs)[argBest (fun i j => decide (numAt xs i > numAt xs j)) (xs.size - 1)]? = some v) → (∀ b o, s.heap.get? b = some o → h'.get? b = some o) → Q v { s with heap := h', toks := tk }) :
    wpAny (model pr wo) Ar (call (.builtin "max") [.ref l] [(Str.ofString "default", d)]) Q E s := by
  refine call_tree_kw PySem.F.kind_max PySem.F.plain_max PySem.F.entry_max (mx_args _ _) ?_
  refine wpAny_bind (m := Builtin.Builtins.bindParams "max" ["key", "default"] 0 ⟨[], [(Str.ofString "default", d)]⟩) (wpAny_of_eq (show Builtin.Builtins.bindParams "max" ["key", "default"] 0 ⟨[], [(Str.ofString "default", d)]⟩ = pure [none, some d] from rfl) ?_)
  refine wpAny_bind (wpAny_pure ?_)
  refine wpAny_bind (iter_intList hl fun s2 e st hfp hne => ?_)
  refine wpAny_bind (wpAny_newObj_type ?_)
  have wk := Walks.list (prog := pr) (w := wo) (A := Ar.in1) hh s.heap.objs.size l hne (intItems xs)
  have hbs : s2.heap.objs.size ∉ [s.heap.objs.size, l] := fun q => Nat.lt_irrefl _ (hfp _ q)
  rw [mx_name]
  by_cases h0 : xs.size = 0
  · refine wpAny_pure ⟨plainId_quiet PySem.F.plain_max_loop _, mx_empty wk _ hbs (by simpa [intItems] using h0) (wk.frame _ _ _ st fun b _ o q => Heap.get?_push_of_some _ q) (Heap.get?_push_size _ rfl) fun h' tk kk => ?_⟩
    subst e
    exact h d h' tk (fun _ => rfl) (fun q => absurd h0 (Nat.ne_of_gt q)) (old_kept (l := l) fun b o hb q => kk b o hb (Heap.get?_push_of_some _ q))
  · refine wpAny_pure ⟨plainId_quiet PySem.F.plain_max_loop _, mx_first wk (fun i j => decide (numAt xs i > numAt xs j)) (CmpOf.ints_gt (numAt xs) fun _ _ => intItems_at) _ hbs (by simpa [intItems] using Nat.pos_of_ne_zero h0) (wk.frame _ _ _ st fun b _ o q => Heap.get?_push_of_some _ q) (Heap.get?_push_size _ rfl) fun v h' tk hv kk => ?_⟩
    subst e
    refine h v h' tk (fun q => absurd q h0) (fun _ => by simpa [intItems] using hv) (old_kept (l := l) fun b o hb q => ?_)
    exact kk b o hb (Nat.ne_of_lt (Heap.lt_size q)) (Heap.get?_push_of_some _ q)
end
/-- max(xs, default=i) -/
def rMaxD (K : PySem.W.Frag) : List V → List V → Hp → VK → Prop := fun vs zs H Q => ∃ (a : Addr) (ns : List Int) (i : Int), vs = [V.ref a] ∧ zs = [V.int i] ∧ SqL K H a (ns.map V.int) ∧ ∀ m, (ns = [] → m = i) → (ns ≠ [] → m ∈ ns ∧ ∀ y, y ∈ ns → y ≤ m) → Q (.int m) H
theorem cr_maxDft {X : Cx} (hc : X.calm = true) : CallRK X (.builtin "max") [Str.ofString "default"] (rMaxD X.K) := by
  intro pins s σ H vs zs us ws Q I r rz h
  obtain ⟨a, ns, i, rfl, rfl, hs, q⟩ := h
  obtain ⟨its, rv, hl, _⟩ := I.list hs
  obtain rfl := Vals.ref1 r
  obtain ⟨w1, rfl, t1, rfl⟩ := vals1 rz
  obtain ⟨xs, e⟩ := rv.ints.allInts.items
  have hn : numsOf (intItems xs).toList = ns := by
    rw [← e]
    exact rv.ints.numsOf
  rw [nums_intItems] at hn
  subst hn
  have hl' := hl.isList
  rw [e] at hl'
  refine mx_ints (I.ok.hd hc) hl' fun v h' tk h0 h1 hk => ?_
  by_cases hz : xs.size = 0
  · have ev := h0 hz
    subst ev
    exact ⟨.int i, H, I.kept hk, ⟨_, rfl⟩, q i (fun _ => rfl) fun z => absurd (List.map_eq_nil_iff.mpr (Array.toList_eq_nil_iff.mpr (Array.size_eq_zero_iff.mp hz))) z⟩
  · have hv := h1 (Nat.pos_of_ne_zero hz)
    obtain ⟨t, rfl⟩ := intItems_at hv
    obtain ⟨g1, g2⟩ := argBest_gt (numAt xs) (xs.size - 1)
    refine ⟨.int _, H, I.kept hk, ⟨_, rfl⟩, q _ (fun z => ?_) fun _ => ⟨?_, fun y hy => ?_⟩⟩
    · exact absurd (by simpa using congrArg List.length z) hz
    · rw [numAt_eq]
      exact PySem.getD_mem (by rw [List.length_map, Array.length_toList]; omega)
    · obtain ⟨j, hj, rfl⟩ := mem_getD hy
      rw [List.length_map, Array.length_toList] at hj
      rw [← numAt_eq]
      exact g2 j (by omega)
end T9

set_option maxHeartbeats 1000000
/-! KitD: operations, and what they make of data. -/
namespace T9
open PySem PySem.Spec PyProof.Rows L2
/-! ### readings that take all kinds -/
def rAddU (K : PySem.W.Frag) : R2 := fun x y H Q => rI0 (fun i j => .int (i + j)) x y H Q ∨ (∃ i j, x = .str i ∧ y = .str j ∧ i.length + j.length ≤ sizeLine ∧ Q (.str (i ++ j)) H) ∨ rCat x y H Q ∨ rCatA K x y H Q
def rLtU (K : PySem.W.Frag) : R2 := fun x y H Q => rI0 (fun i j => .bl (decide (i < j))) x y H Q ∨ (∃ i j, x = .str i ∧ y = .str j ∧ Q (.bl (decide (i.cps.toList < j.cps.toList))) H) ∨ rLtT K x y H Q
def rEqU (K : PySem.W.Frag) : R2 := fun x y H Q => rEq x y H Q ∨ rEqD K x y H Q
def rNeU (K : PySem.W.Frag) : R2 := fun x y H Q => rNe x y H Q ∨ rNeD K x y H Q
def rInU (K : PySem.W.Frag) : R2 := fun x y H Q => (∃ (c : Nat) (z : Str), x = .str ⟨#[c]⟩ ∧ y = .str z ∧ Q (.bl (decide (c ∈ z.cps.toList))) H) ∨ rIn K false x y H Q
def rNinU (K : PySem.W.Frag) : R2 := fun x y H Q => (∃ (c : Nat) (z : Str), x = .str ⟨#[c]⟩ ∧ y = .str z ∧ Q (.bl (!decide (c ∈ z.cps.toList))) H) ∨ rIn K true x y H Q
def rSlU (K : PySem.W.Frag) : V → Option Int → Option Int → Hp → VK → Prop := fun x lo hi H Q => rSlL K x lo hi H Q ∨ rSlA K x lo hi H Q ∨ rSlS x lo hi H Q
def rMulU : R2 := fun x y H Q => rI CMul (fun i j => .int (i * j)) x y H Q ∨ rI CMulW (fun i j => .int (i * j)) x y H Q
abbrev rSubU : R2 := rI0 fun i j => .int (i - j)
abbrev rDivU : R2 := rI CDiv fun i j => .int (i / j)
abbrev rModU : R2 := rI (fun _ j => 0 < j) fun i j => .int (i % j)
abbrev rPowU : R2 := rI CPow fun i j => .int (i ^ j.toNat)
abbrev rLeI : R2 := rI0 fun i j => .bl (decide (i ≤ j))
abbrev rGtI : R2 := rI0 fun i j => .bl (decide (j < i))
abbrev rGeI : R2 := rI0 fun i j => .bl (decide (j ≤ i))
def rIsNo : R2 := fun x y H Q => y = .non ∧ Q (.bl (decide (x = .non))) H
def rNotNo : R2 := fun x y H Q => y = .non ∧ Q (.bl (!decide (x = .non))) H
abbrev rNegU : V → Hp → VK → Prop := rU fun i => .int (-i)
abbrev rIntU : List V → Hp → VK → Prop := fun xs H Q => (∃ i, xs = [.int i] ∧ Q (.int i) H) ∨ ∃ k, xs = [.bl k] ∧ Q (.int (if k then 1 else 0)) H
abbrev rListU (K : PySem.W.Frag) : List V → Hp → VK → Prop := fun xs H Q => ∃ p ys, xs = [.ref p] ∧ (SqL K H p ys ∨ SqT K H p ys) ∧ ∀ l, H l = none → Q (.ref l) (upd H l (.lst ys))
abbrev rTupleU (K : PySem.W.Frag) : List V → Hp → VK → Prop := fun xs H Q => ∃ p ys, xs = [.ref p] ∧ ((SqL K H p ys ∧ ∀ l, H l = none → Q (.ref l) (upd H l (.tup ys))) ∨ (SqT K H p ys ∧ Q (.ref p) H))
abbrev rSplitU : V → List V → Hp → VK → Prop := fun x xs H Q => ∃ a b, x = .str a ∧ xs = [.str b] ∧ (b.length == 0) = false ∧ a.length + 2 ≤ sizeLine ∧ rNewStrs (Txt.split a b) H Q
abbrev rJoinU (K : PySem.W.Frag) : V → List V → Hp → VK → Prop := fun x xs H Q => ∃ a p, ∃ ys : List Str, x = .str a ∧ xs = [.ref p] ∧ (SqL K H p (ys.map V.str) ∨ SqT K H p (ys.map V.str)) ∧ (ys.map (·.length)).sum + ys.length * a.length ≤ 16777216 ∧ Q (.str (Txt.join a ys)) H
section
variable {X : Cx}
theorem op_addU : OpR X (binaryOp .Add) (rAddU X.K) := OpR.or op_add (OpR.or op_add_str (OpR.or op_cat op_catA))
theorem op_ltU (hu : X.A.units < cLine) : OpR X (compareOp .Lt) (rLtU X.K) := OpR.or op_lt (OpR.or op_lt_str (op_ltT hu))
theorem op_eqU (hu : X.A.units + 64 < cLine) : OpR X (compareOp .Eq) (rEqU X.K) := OpR.or op_eq (op_eqD hu)
theorem op_neU (hu : X.A.units + 64 < cLine) : OpR X (compareOp .NotEq) (rNeU X.K) := OpR.or op_ne (op_neD hu)
theorem op_inU : OpR X (compareOp .In) (rInU X.K) := OpR.or op_in_sign op_in_seq
theorem op_ninU : OpR X (compareOp .NotIn) (rNinU X.K) := OpR.or op_notIn_sign op_notIn_seq
theorem op_mulU : OpR X (binaryOp .Mult) rMulU := OpR.or op_mul op_mulW
theorem sl_U : SlR X (rSlU X.K) := SlR.or sl_list (SlR.or sl_tupA sl_str)
end
/-! ### on data -/
section
variable {K : PySem.W.Frag} {fs : Fm} {ta tb te : TE} {d e c : PyData} {ds es : List PyData} {t : TA}
theorem rd_addI {i j : Int} : RD K (rAddU K) (.int i) (.int j) (.int (i + j)) := fun x y H hx hy Q q => by
  cases dp_int hx
  cases dp_int hy
  exact .inl ⟨i, j, rfl, rfl, q _ H (Evl.Ex.refl H) (.int _)⟩
theorem rd_addS {i j : Str} (h : i.length + j.length ≤ 100000) : RD K (rAddU K) (.str i) (.str j) (.str (i ++ j)) := fun x y H hx hy Q q => by
  cases dp_str hx
  cases dp_str hy
  exact .inr (.inl ⟨i, j, rfl, rfl, Evl.sz_of h, q _ H (Evl.Ex.refl H) (.str _)⟩)
theorem rd_addT (h : ds.length + es.length ≤ 100000) : RD K (rAddU K) (.tuple ds) (.tuple es) (.tuple (ds ++ es)) := fun x y H hx hy Q q => by
  obtain ⟨a, xs, rfl, h1, h2⟩ := dp_tup hx
  obtain ⟨b, ys, rfl, h3, h4⟩ := dp_tup hy
  refine .inr (.inr (.inr ⟨a, b, xs, ys, rfl, rfl, h1, h3, Evl.sz_of (by rw [dpAll_len h2, dpAll_len h4]; exact h), fun e => ?_, fun n e => ?_, fun n m p hp => ?_⟩))
  · subst e
    cases h2
    exact q _ H (Evl.Ex.refl H) (.tup h3 h4)
  · subst e
    cases h4
    rw [List.append_nil] at q
    exact q _ H (Evl.Ex.refl H) (.tup h1 h2)
  · exact q _ _ (Evl.Ex.new hp) (.tup (Evl.st_of upd_same) (dpAll_ex (Evl.Ex.new hp) _ _ (dpAll_app h2 h4)))
theorem en_addL (ha : EvL K fs ta ds) (hb : EvL K fs tb es) (hi : immAll (ds ++ es) = true) (h : ds.length + es.length ≤ 100000) : EvN K fs (tOp (rAddU K) ta tb) (.lst (ds ++ es)) := fun B H0 H σ F Q q =>
  ha B H0 H σ F _ fun a xs H1 e1 h1 h2 => hb B H0 H1 σ (F.mono e1) _ fun b ys H2 e2 h3 h4 => .inr (.inr (.inl ⟨a, b, xs, ys, rfl, rfl, e2 a _ h1, h3, Evl.sz_of (by rw [dpAll_len h2, dpAll_len h4]; exact h), fun p hp =>
    q p _ ((e1.trans e2).trans (Evl.Ex.new hp)) (fresh_ex (e1.trans e2) hp) ⟨xs ++ ys, upd_same, .of (dpAll_ex (Evl.Ex.new hp) _ _ (dpAll_app (dpAll_ex e2 _ _ h2) h4)) hi⟩⟩))
theorem rd_subI {i j : Int} : RD K rSubU (.int i) (.int j) (.int (i - j)) := fun x y H hx hy Q q => by
  cases dp_int hx
  cases dp_int hy
  exact ⟨i, j, rfl, rfl, q _ H (Evl.Ex.refl H) (.int _)⟩
theorem rd_mulI {i j : Int} (h : CMul i j) : RD K rMulU (.int i) (.int j) (.int (i * j)) := fun x y H hx hy Q q => by
  cases dp_int hx
  cases dp_int hy
  exact .inl ⟨i, j, rfl, rfl, h, q _ H (Evl.Ex.refl H) (.int _)⟩
theorem rd_mulW {i j : Int} (h : CMulW i j) : RD K rMulU (.int i) (.int j) (.int (i * j)) := fun x y H hx hy Q q => by
  cases dp_int hx
  cases dp_int hy
  exact .inr ⟨i, j, rfl, rfl, h, q _ H (Evl.Ex.refl H) (.int _)⟩
theorem rd_I {C : Int → Int → Prop} {g : Int → Int → Int} {i j : Int} (h : C i j) : RD K (rI C fun i j => .int (g i j)) (.int i) (.int j) (.int (g i j)) := fun x y H hx hy Q q => by
  cases dp_int hx
  cases dp_int hy
  exact ⟨i, j, rfl, rfl, h, q _ H (Evl.Ex.refl H) (.int _)⟩
theorem rd_B {g : Int → Int → Bool} {i j : Int} : RD K (rI0 fun i j => .bl (g i j)) (.int i) (.int j) (.bool (g i j)) := fun x y H hx hy Q q => by
  cases dp_int hx
  cases dp_int hy
  exact ⟨i, j, rfl, rfl, q _ H (Evl.Ex.refl H) (.bl _)⟩
theorem rd_div {i j : Int} (h : CDiv i j) : RD K rDivU (.int i) (.int j) (.int (i / j)) := rd_I h
theorem rd_mod {i j : Int} (h : 0 < j) : RD K rModU (.int i) (.int j) (.int (i % j)) := rd_I (C := fun _ j => 0 < j) h
theorem rd_pow {i j : Int} (h : CPow i j) : RD K rPowU (.int i) (.int j) (.int (i ^ j.toNat)) := rd_I h
theorem rd_ltI {i j : Int} : RD K (rLtU K) (.int i) (.int j) (.bool (decide (i < j))) := fun x y H hx hy Q q => by
  cases dp_int hx
  cases dp_int hy
  exact .inl ⟨i, j, rfl, rfl, q _ H (Evl.Ex.refl H) (.bl _)⟩
theorem rd_ltS {i j : Str} : RD K (rLtU K) (.str i) (.str j) (.bool (decide (i.cps.toList < j.cps.toList))) := fun x y H hx hy Q q => by
  cases dp_str hx
  cases dp_str hy
  exact .inr (.inl ⟨i, j, rfl, rfl, q _ H (Evl.Ex.refl H) (.bl _)⟩)
theorem rd_leI {i j : Int} : RD K rLeI (.int i) (.int j) (.bool (decide (i ≤ j))) := rd_B
theorem rd_gtI {i j : Int} : RD K rGtI (.int i) (.int j) (.bool (decide (j < i))) := rd_B
theorem rd_geI {i j : Int} : RD K rGeI (.int i) (.int j) (.bool (decide (j ≤ i))) := rd_B
theorem ud_neg {i : Int} : UD K rNegU (.int i) (.int (-i)) := fun x H hx Q q => by
  cases dp_int hx
  exact ⟨i, rfl, q _ H (Evl.Ex.refl H) (.int _)⟩
theorem rd_eqS {i j : Str} : RD K (rEqU K) (.str i) (.str j) (.bool (decide (i = j))) := fun x y H hx hy Q q => by
  cases dp_str hx
  cases dp_str hy
  refine .inl ⟨rfl, ?_⟩
  have e : decide (V.str i = V.str j) = decide (i = j) := decide_eq_decide.mpr ⟨V.str.inj, congrArg _⟩
  rw [e]
  exact q _ H (Evl.Ex.refl H) (.bl _)
theorem rd_eqI {i j : Int} : RD K (rEqU K) (.int i) (.int j) (.bool (decide (i = j))) := fun x y H hx hy Q q => by
  cases dp_int hx
  cases dp_int hy
  refine .inl ⟨rfl, ?_⟩
  have e : decide (V.int i = V.int j) = decide (i = j) := decide_eq_decide.mpr ⟨V.int.inj, congrArg _⟩
  rw [e]
  exact q _ H (Evl.Ex.refl H) (.bl _)
theorem rd_eqD (h1 : SeqAt.shaped d = true) (h2 : SeqAt.shaped e = true) : RD K (rEqU K) d e (.bool (PyData.eqv d e)) := fun x y H hx hy Q q =>
  .inr ⟨d, e, hx, hy, h1, h2, q _ H (Evl.Ex.refl H) (.bl _)⟩
theorem rd_neS {i j : Str} : RD K (rNeU K) (.str i) (.str j) (.bool (!decide (i = j))) := fun x y H hx hy Q q => by
  cases dp_str hx
  cases dp_str hy
  refine .inl ⟨rfl, ?_⟩
  have e : decide (V.str i = V.str j) = decide (i = j) := decide_eq_decide.mpr ⟨V.str.inj, congrArg _⟩
  rw [e]
  exact q _ H (Evl.Ex.refl H) (.bl _)
theorem rd_neI {i j : Int} : RD K (rNeU K) (.int i) (.int j) (.bool (!decide (i = j))) := fun x y H hx hy Q q => by
  cases dp_int hx
  cases dp_int hy
  refine .inl ⟨rfl, ?_⟩
  have e : decide (V.int i = V.int j) = decide (i = j) := decide_eq_decide.mpr ⟨V.int.inj, congrArg _⟩
  rw [e]
  exact q _ H (Evl.Ex.refl H) (.bl _)
theorem rd_neD (h1 : SeqAt.shaped d = true) (h2 : SeqAt.shaped e = true) : RD K (rNeU K) d e (.bool (!PyData.eqv d e)) := fun x y H hx hy Q q =>
  .inr ⟨d, e, hx, hy, h1, h2, q _ H (Evl.Ex.refl H) (.bl _)⟩
/-- one sign in a text -/
theorem rd_inC {c : Nat} {z : Str} : RD K (rInU K) (.str ⟨#[c]⟩) (.str z) (.bool (decide (c ∈ z.cps.toList))) := fun x y H hx hy Q q => by
  cases dp_str hx
  cases dp_str hy
  exact .inl ⟨c, z, rfl, rfl, q _ H (Evl.Ex.refl H) (.bl _)⟩
theorem rd_ninC {c : Nat} {z : Str} : RD K (rNinU K) (.str ⟨#[c]⟩) (.str z) (.bool (!decide (c ∈ z.cps.toList))) := fun x y H hx hy Q q => by
  cases dp_str hx
  cases dp_str hy
  exact .inl ⟨c, z, rfl, rfl, q _ H (Evl.Ex.refl H) (.bl _)⟩
theorem inV_strs {x : Str} : ∀ {zs : List Str}, inV (.str x) (zs.map V.str) = decide (x ∈ zs)
  | [] => rfl
  | z :: zs => by
    have ih := inV_strs (x := x) (zs := zs)
    show (eqV (.str z) (.str x) || inV (.str x) (zs.map V.str)) = _
    rw [ih]
    have e : eqV (.str z) (.str x) = decide (x = z) := by
      show (z == x) = decide (x = z)
      by_cases h : x = z
      · subst h
        simp
      · rw [decide_eq_false h]
        exact beq_eq_false_iff_ne.mpr (Ne.symm h)
    rw [e]
    simp [List.mem_cons]
theorem inV_ints {x : Int} : ∀ {zs : List Int}, inV (.int x) (zs.map V.int) = decide (x ∈ zs)
  | [] => rfl
  | z :: zs => by
    have ih := inV_ints (x := x) (zs := zs)
    show (eqV (.int z) (.int x) || inV (.int x) (zs.map V.int)) = _
    rw [ih]
    have e : eqV (.int z) (.int x) = decide (x = z) := by
      show (z == x) = decide (x = z)
      by_cases h : x = z
      · subst h
        simp
      · rw [decide_eq_false h]
        exact beq_eq_false_iff_ne.mpr (Ne.symm h)
    rw [e]
    simp [List.mem_cons]
theorem flat_strs : ∀ zs : List Str, (zs.map V.str).all flatV = true
  | [] => rfl
  | z :: zs => by
    show (flatV (.str z) && (zs.map V.str).all flatV) = true
    rw [flat_strs zs]
    rfl
theorem flat_ints : ∀ zs : List Int, (zs.map V.int).all flatV = true
  | [] => rfl
  | z :: zs => by
    show (flatV (.int z) && (zs.map V.int).all flatV) = true
    rw [flat_ints zs]
    rfl
theorem rd_inT {x : Str} {zs : List Str} : RD K (rInU K) (.str x) (.tuple (zs.map .str)) (.bool (decide (x ∈ zs))) := fun u y H hx hy Q q => by
  cases dp_str hx
  obtain ⟨a, xs, rfl, h1, h2⟩ := dp_tup hy
  cases strs_of h2
  refine .inr ⟨a, _, rfl, .inr h1, rfl, flat_strs zs, ?_⟩
  rw [inV_strs]
  exact q _ H (Evl.Ex.refl H) (.bl _)
theorem rd_ninT {x : Str} {zs : List Str} : RD K (rNinU K) (.str x) (.tuple (zs.map .str)) (.bool (!decide (x ∈ zs))) := fun u y H hx hy Q q => by
  cases dp_str hx
  obtain ⟨a, xs, rfl, h1, h2⟩ := dp_tup hy
  cases strs_of h2
  refine .inr ⟨a, _, rfl, .inr h1, rfl, flat_strs zs, ?_⟩
  rw [inV_strs]
  exact q _ H (Evl.Ex.refl H) (.bl _)
theorem rd_ninTI {x : Int} {zs : List Int} : RD K (rNinU K) (.int x) (.tuple (zs.map .int)) (.bool (!decide (x ∈ zs))) := fun u y H hx hy Q q => by
  cases dp_int hx
  obtain ⟨a, xs, rfl, h1, h2⟩ := dp_tup hy
  cases ints_of h2
  refine .inr ⟨a, _, rfl, .inr h1, rfl, flat_ints zs, ?_⟩
  rw [inV_ints]
  exact q _ H (Evl.Ex.refl H) (.bl _)
theorem rd_inL {x : Str} {zs : List Str} : RD K (rInU K) (.str x) (.list (zs.map .str)) (.bool (decide (x ∈ zs))) := fun u y H hx hy Q q => by
  cases dp_str hx
  obtain ⟨a, xs, rfl, h1, h2⟩ := dp_lst hy
  cases strs_of h2
  refine .inr ⟨a, _, rfl, .inl h1, rfl, flat_strs zs, ?_⟩
  rw [inV_strs]
  exact q _ H (Evl.Ex.refl H) (.bl _)
/-! items -/
theorem dpAll_atI {H : Hp} {xs : List V} {i : Int} (h : DpAll K H xs ds) (ha : atI ds i = some d) : ∃ v, atI xs i = some v ∧ Dp K H v d := by
  unfold atI at ha ⊢
  rw [dpAll_len h]
  cases e : ixN ds.length i with
  | none =>
    rw [e] at ha
    cases ha
  | some j =>
    rw [e] at ha
    exact dpAll_at h ha
theorem rd_ixL {i : Int} (ha : atI ds i = some d) : RD K (rIx K) (.list ds) (.int i) d := fun x y H hx hy Q q => by
  cases dp_int hy
  obtain ⟨a, xs, rfl, h1, h2⟩ := dp_lst hx
  obtain ⟨v, h3, h4⟩ := dpAll_atI h2 ha
  exact .inl ⟨a, xs, i, v, rfl, rfl, h1, h3, q v H (Evl.Ex.refl H) h4⟩
theorem rd_ixT {i : Int} (ha : atI ds i = some d) : RD K (rIx K) (.tuple ds) (.int i) d := fun x y H hx hy Q q => by
  cases dp_int hy
  obtain ⟨a, xs, rfl, h1, h2⟩ := dp_tup hx
  obtain ⟨v, h3, h4⟩ := dpAll_atI h2 ha
  exact .inr (.inl ⟨a, xs, i, v, rfl, rfl, h1, h3, q v H (Evl.Ex.refl H) h4⟩)
theorem rd_ixS {i : Int} {z : Str} {c : Nat} (hz : z.length ≤ 100000) (ha : atI z.cps.toList i = some c) : RD K (rIx K) (.str z) (.int i) (.str ⟨#[c]⟩) := fun x y H hx hy Q q => by
  cases dp_int hy
  cases dp_str hx
  exact .inr (.inr ⟨z, i, c, rfl, rfl, Evl.sz_of hz, ha, q _ H (Evl.Ex.refl H) (.str _)⟩)
/-- an item of a stable list is stable -/
def cutD {α : Type} (xs : List α) (lo hi : Option Int) : List α := (xs.drop (HT.sIx xs.length 0 lo)).take (HT.sIx xs.length xs.length hi - HT.sIx xs.length 0 lo)
theorem dpAll_cut {H : Hp} {xs : List V} (h : DpAll K H xs ds) (lo hi : Option Int) : DpAll K H (cutV xs lo hi) (cutD ds lo hi) := by
  unfold cutV cutD
  rw [dpAll_len h]
  exact dpAll_take _ (dpAll_drop _ h)
theorem immAll_cut (h : immAll ds = true) (lo hi : Option Int) : immAll (cutD ds lo hi) = true := by
  rw [immAll_iff] at h ⊢
  exact fun d hd => h d (List.mem_of_mem_drop (List.mem_of_mem_take hd))
theorem en_slL {tl th : TO} {lo hi : Option Int} (h : EvC K fs te (.list ds)) (h1 : EvO K fs tl lo) (h2 : EvO K fs th hi) (hi' : immAll ds = true) : EvN K fs (tSl (rSlU K) te tl th) (.lst (cutD ds lo hi)) := fun B H0 H σ F Q q =>
  h B H0 H σ F _ fun v H1 e1 hv => h1 B H0 H1 σ (F.mono e1) _ fun H2 e2 => h2 B H0 H2 σ (F.mono (e1.trans e2)) _ fun H3 e3 => by
    obtain ⟨a, xs, rfl, g1, g2⟩ := dp_lst (dp_ex (e2.trans e3) _ _ hv)
    exact .inl ⟨a, xs, rfl, g1, fun p hp => q p _ (((e1.trans e2).trans e3).trans (Evl.Ex.new hp)) (fresh_ex ((e1.trans e2).trans e3) hp) ⟨_, upd_same, .of (dpAll_ex (Evl.Ex.new hp) _ _ (dpAll_cut g2 lo hi)) (immAll_cut hi' lo hi)⟩⟩
theorem ec_slT {tl th : TO} {lo hi : Option Int} (h : EvC K fs te (.tuple ds)) (h1 : EvO K fs tl lo) (h2 : EvO K fs th hi) : EvC K fs (tSl (rSlU K) te tl th) (.tuple (cutD ds lo hi)) := fun B H0 H σ F Q q =>
  h B H0 H σ F _ fun v H1 e1 hv => h1 B H0 H1 σ (F.mono e1) _ fun H2 e2 => h2 B H0 H2 σ (F.mono (e1.trans e2)) _ fun H3 e3 => by
    obtain ⟨a, xs, rfl, g1, g2⟩ := dp_tup (dp_ex (e2.trans e3) _ _ hv)
    refine .inr (.inl ⟨a, xs, rfl, g1, fun hw => ?_, fun _ p hp => ?_⟩)
    · have e : cutD ds lo hi = ds := by
        unfold cutD
        rw [dpAll_len g2] at hw
        rw [hw.1, hw.2]
        simp
      rw [e] at q
      exact q _ H3 ((e1.trans e2).trans e3) (.tup g1 g2)
    · exact q _ _ (((e1.trans e2).trans e3).trans (Evl.Ex.new hp)) (.tup (Evl.st_of upd_same) (dpAll_ex (Evl.Ex.new hp) _ _ (dpAll_cut g2 lo hi)))
theorem ec_slS {tl th : TO} {lo hi : Option Int} {z : Str} (h : EvC K fs te (.str z)) (h1 : EvO K fs tl lo) (h2 : EvO K fs th hi) (hz : z.length ≤ 100000) : EvC K fs (tSl (rSlU K) te tl th) (.str (cutS z lo hi)) := fun B H0 H σ F Q q =>
  h B H0 H σ F _ fun v H1 e1 hv => h1 B H0 H1 σ (F.mono e1) _ fun H2 e2 => h2 B H0 H2 σ (F.mono (e1.trans e2)) _ fun H3 e3 => by
    cases dp_str hv
    exact .inr (.inr ⟨z, rfl, Evl.sz_of hz, q _ H3 ((e1.trans e2).trans e3) (.str _)⟩)
/-! built-ins -/
theorem ad_lenL : AD K (rLen K) [.list ds] (.int ds.length) := fun xs H hx Q q => by
  cases hx with
  | cons h1 h2 =>
    cases h2
    obtain ⟨a, ys, rfl, g1, g2⟩ := dp_lst h1
    exact ⟨_, ys.length, rfl, .inl ⟨ys, g1, rfl⟩, by rw [dpAll_len g2]; exact q _ H (Evl.Ex.refl H) (.int _)⟩
theorem ad_lenT : AD K (rLen K) [.tuple ds] (.int ds.length) := fun xs H hx Q q => by
  cases hx with
  | cons h1 h2 =>
    cases h2
    obtain ⟨a, ys, rfl, g1, g2⟩ := dp_tup h1
    exact ⟨_, ys.length, rfl, .inr ⟨ys, g1, rfl⟩, by rw [dpAll_len g2]; exact q _ H (Evl.Ex.refl H) (.int _)⟩
theorem ad_lenS {z : Str} (h : z.length ≤ 100000) : AD K (rLen K) [.str z] (.int z.length) := fun xs H hx Q q => by
  cases hx with
  | cons h1 h2 =>
    cases h2
    cases dp_str h1
    exact ⟨_, z.length, rfl, ⟨Evl.sz_of h, rfl⟩, q _ H (Evl.Ex.refl H) (.int _)⟩
theorem ad_int {i : Int} : AD K rIntU [.int i] (.int i) := fun xs H hx Q q => by
  cases hx with
  | cons h1 h2 =>
    cases h2
    cases dp_int h1
    exact .inl ⟨i, rfl, q _ H (Evl.Ex.refl H) (.int _)⟩
theorem ad_intB {b : Bool} : AD K rIntU [.bool b] (.int (if b then 1 else 0)) := fun xs H hx Q q => by
  cases hx with
  | cons h1 h2 =>
    cases h2
    cases dp_bl h1
    exact .inr ⟨b, rfl, q _ H (Evl.Ex.refl H) (.int _)⟩
theorem ad_all {bs : List Bool} : AD K (rAll K) [.list (bs.map .bool)] (.bool (bs.all id)) := fun xs H hx Q q => by
  cases hx with
  | cons h1 h2 =>
    cases h2
    obtain ⟨a, ys, rfl, g1, g2⟩ := dp_lst h1
    cases bools_of g2
    exact ⟨a, bs, rfl, g1, q _ H (Evl.Ex.refl H) (.bl _)⟩
theorem al_listL : AL K (rListU K) [.list ds] ds := fun xs H hx Q q => by
  cases hx with
  | cons h1 h2 =>
    cases h2
    obtain ⟨a, ys, rfl, g1, g2⟩ := dp_lst h1
    exact ⟨a, ys, rfl, .inl g1, fun p hp => q p ys _ (Evl.Ex.new hp) hp upd_same (dpAll_ex (Evl.Ex.new hp) _ _ g2)⟩
theorem al_listT : AL K (rListU K) [.tuple ds] ds := fun xs H hx Q q => by
  cases hx with
  | cons h1 h2 =>
    cases h2
    obtain ⟨a, ys, rfl, g1, g2⟩ := dp_tup h1
    exact ⟨a, ys, rfl, .inr g1, fun p hp => q p ys _ (Evl.Ex.new hp) hp upd_same (dpAll_ex (Evl.Ex.new hp) _ _ g2)⟩
theorem ad_tupleL : AD K (rTupleU K) [.list ds] (.tuple ds) := fun xs H hx Q q => by
  cases hx with
  | cons h1 h2 =>
    cases h2
    obtain ⟨a, ys, rfl, g1, g2⟩ := dp_lst h1
    exact ⟨a, ys, rfl, .inl ⟨g1, fun p hp => q _ _ (Evl.Ex.new hp) (.tup (Evl.st_of upd_same) (dpAll_ex (Evl.Ex.new hp) _ _ g2))⟩⟩
theorem ad_max {ns : List Int} {m : Int} (h0 : ns ≠ []) (h1 : m ∈ ns) (h2 : ∀ y ∈ ns, y ≤ m) : AD K (rMax K) [.list (ns.map .int)] (.int m) := fun xs H hx Q q => by
  cases hx with
  | cons g1 g2 =>
    cases g2
    obtain ⟨a, ys, rfl, g1, g2⟩ := dp_lst g1
    cases ints_of g2
    refine ⟨a, ns, rfl, g1, List.length_pos_iff.mpr h0, fun k hk hle => ?_⟩
    have e : k = m := Int.le_antisymm (h2 k hk) (hle m h1)
    subst e
    exact q _ H (Evl.Ex.refl H) (.int _)
theorem ec_maxD {t tk : TA} {ns : List Int} {i m : Int} (h : EvA K fs t [.list (ns.map .int)]) (hk : EvA K fs tk [.int i]) (h0 : ns = [] → m = i) (h1 : ns ≠ [] → m ∈ ns ∧ ∀ y ∈ ns, y ≤ m) : EvC K fs (tCKw (rMaxD K) t tk) (.int m) := fun B H0 H σ F Q q =>
  h B H0 H σ F _ fun vs H1 e1 hv => hk B H0 H1 σ (F.mono e1) _ fun zs H2 e2 hz => by
    cases hz with
    | cons z1 z2 =>
      cases z2
      cases dp_int z1
      cases hv with
      | cons g1 g2 =>
        cases g2
        obtain ⟨a, ys, rfl, g1, g2⟩ := dp_lst (dp_ex e2 _ _ g1)
        cases ints_of g2
        refine ⟨a, ns, i, rfl, rfl, g1, fun k k0 k1 => ?_⟩
        have e : k = m := by
          by_cases hn : ns = []
          · rw [k0 hn, h0 hn]
          · exact Int.le_antisymm ((h1 hn).2 k (k1 hn).1) ((k1 hn).2 m (h1 hn).1)
        subst e
        exact q _ H2 (e1.trans e2) (.int _)
/-! texts -/
theorem en_split {x y : Str} (h : EvC K fs te (.str x)) (h2 : EvC K fs ta (.str y)) (hy : (y.length == 0) = false) (hx : x.length ≤ 99000) : EvN K fs (tM1 rSplitU te ta) (.lst ((Txt.split x y).map .str)) := fun B H0 H σ F Q q =>
  h B H0 H σ F _ fun v H1 e1 hv => by
    cases dp_str hv
    refine ⟨⟨x, rfl⟩, h2 B H0 H1 σ (F.mono e1) _ fun w H2 e2 hw => ?_⟩
    cases dp_str hw
    refine ⟨x, y, rfl, rfl, hy, Evl.sz_of (by omega), fun p hp => ?_⟩
    exact q p _ ((e1.trans e2).trans (Evl.Ex.new hp)) (fresh_ex (e1.trans e2) hp) ⟨_, upd_same, .of (dpAll_strs _) (immAll_iff.mpr fun d hd => by
      obtain ⟨z, _, rfl⟩ := List.mem_map.mp hd
      rfl)⟩
theorem ec_join {x : Str} {ys : List Str} (h : EvC K fs te (.str x)) (h2 : EvC K fs ta (.list (ys.map .str))) (hs : (ys.map (·.length)).sum + ys.length * x.length ≤ 16777216) : EvC K fs (tM1 (rJoinU K) te ta) (.str (Txt.join x ys)) := fun B H0 H σ F Q q =>
  h B H0 H σ F _ fun v H1 e1 hv => by
    cases dp_str hv
    refine ⟨⟨x, rfl⟩, h2 B H0 H1 σ (F.mono e1) _ fun w H2 e2 hw => ?_⟩
    obtain ⟨a, zs, rfl, g1, g2⟩ := dp_lst hw
    cases strs_of g2
    exact ⟨x, a, ys, rfl, rfl, .inl g1, hs, q _ H2 (e1.trans e2) (.str _)⟩
/-! isinstance -/
def tyD : PyData → String
  | .none => "NoneType"
  | .bool _ => "bool"
  | .int _ => "int"
  | .str _ => "str"
  | .list _ => "list"
  | .tuple _ => "tuple"
  | .dict _ => "dict"
theorem ty_dp {H : Hp} {v : V} (h : Dp K H v d) : TyX K H v (.type (tyD d)) := by
  cases h with
  | non => exact .base .non
  | bl b => exact .base (.bl b)
  | int i => exact .base (.int i)
  | str x => exact .base (.str x)
  | lst h1 h2 =>
    rcases h1 with (h | ⟨o, h⟩) | ⟨o, its, n, h3, h4, h5⟩
    · exact .base (.lst h)
    · exact .base (.frz h)
    · exact .kList h3 h4
  | tup h1 h2 =>
    rcases h1 with (h | ⟨o, h⟩) | ⟨o, its, n, h3, h4, h5⟩
    · exact .base (.tup h)
    · exact .fTuple h
    · exact .kTuple h3 h4
theorem ec_isi {T : String} {b : Bool} (h : EvC K fs te d) (hk : kitB (tyD d) T = some b) : EvC K fs (tCB (rIsi K) (tCons te (tCons (tC (.ty T)) tNil))) (.bool b) := fun B H0 H σ F Q q =>
  h B H0 H σ F _ fun v H1 e1 hv => ⟨v, .ty T, .type (tyD d), .type T, b, rfl, .ty T, ty_dp hv, kit_ty hk, q _ H1 e1 (.bl b)⟩
theorem ec_isB {b b' : Bool} (h : EvC K fs te (.bool b)) : EvC K fs (tOp rIsB te (tC (.bl b'))) (.bool (decide (b = b'))) := fun B H0 H σ F Q q =>
  h B H0 H σ F _ fun v H1 e1 hv => by
    cases dp_bl hv
    exact ⟨b, b', rfl, rfl, q _ H1 e1 (.bl _)⟩
def isNo : PyData → Bool
  | .none => true
  | _ => false
theorem isNo_dp {H : Hp} {v : V} (h : Dp K H v d) : decide (v = V.non) = isNo d := by
  cases h with
  | non => rfl
  | bl b => exact decide_eq_false fun e => nomatch e
  | int i => exact decide_eq_false fun e => nomatch e
  | str x => exact decide_eq_false fun e => nomatch e
  | lst h1 h2 => exact decide_eq_false fun e => nomatch e
  | tup h1 h2 => exact decide_eq_false fun e => nomatch e
theorem ec_isN (h : EvC K fs te d) : EvC K fs (tOp rIsNo te (tC .non)) (.bool (isNo d)) := fun B H0 H σ F Q q =>
  h B H0 H σ F _ fun v H1 e1 hv => ⟨rfl, by
    rw [isNo_dp hv]
    exact q _ H1 e1 (.bl _)⟩
theorem ec_notN (h : EvC K fs te d) : EvC K fs (tOp rNotNo te (tC .non)) (.bool (!isNo d)) := fun B H0 H σ F Q q =>
  h B H0 H σ F _ fun v H1 e1 hv => ⟨rfl, by
    rw [isNo_dp hv]
    exact q _ H1 e1 (.bl _)⟩
end
section
variable {X : Cx}
theorem op_isNo : OpR X (compareOp .Is) rIsNo := op_isN
theorem op_notNo : OpR X (compareOp .IsNot) rNotNo := op_notN
end
end T9

set_option maxHeartbeats 1000000
/-! KitE: defs by their names; sorted(dict); data of the text's tables. -/
namespace T9
open PySem PySem.Spec PyProof.Rows L2
/-- the module's def x keeps the promise sp -/
def Cl (P : Program) (w : World) (K : PySem.W.Frag) (mg : Str → Option Value) (base : Heap) (CX : CXT) (k : Nat) (x : Str) (sp : Sp) : Prop :=
  ∃ (f : Addr) (fd : FuncData) (ps : List Str), mg x = some (.ref f) ∧ PySem.W.keepIn K (.ref f) = true ∧ Binds K fd ps [] ∧ FnOk P w K mg base CX k f fd ps sp
theorem Cl.mono {P : Program} {w : World} {K : PySem.W.Frag} {mg : Str → Option Value} {base : Heap} {CX : CXT} {j k : Nat} {x : Str} {sp : Sp} (c : Cl P w K mg base CX j x sp) (h : j ≤ k) : Cl P w K mg base CX k x sp := by
  obtain ⟨f, fd, ps, h1, h2, h3, h4⟩ := c
  exact ⟨f, fd, ps, h1, h2, h3, h4.mono h⟩
theorem Cl.imp {P : Program} {w : World} {K : PySem.W.Frag} {mg : Str → Option Value} {base : Heap} {CX : CXT} {k : Nat} {x : Str} {sp sp' : Sp} (c : Cl P w K mg base CX k x sp) (h : ∀ vs H Q E, sp' vs H Q E → sp vs H Q E) : Cl P w K mg base CX k x sp' := by
  obtain ⟨f, fd, ps, h1, h2, h3, h4⟩ := c
  exact ⟨f, fd, ps, h1, h2, h3, h4.imp h⟩
section
variable {X : Cx} {CX : CXT} {k : Nat} {x : Str} {sp : Sp} {E : XK} {p pos : Pos} {e : Expr} {es : List Expr} {t : TA}
theorem pe_cl (c : Cl X.prog X.w X.K X.mg X.base CX k x sp) (hr : Room k X.A) (hg : Gl X x) (hx : Passes CX X E) (ha : PA X (e :: es) t)
    (hs : starEach (e :: es) X.env = (false, eval e X.env) :: starEach es X.env := by rfl) (hpl : (backTo pos (starEach es X.env)).any (·.1) = false := by rfl) (hd : (x == ("__debug__" : Str)) = false := by decide) :
    PE X (.Call (.Name x p) (e :: es) [] pos) (tCall sp [] E t) := by
  obtain ⟨f, fd, ps, hm, hk, hb, F⟩ := c
  exact pe_call F hr hg hm hk hb .nil hx ha hd hs hpl
theorem pe_cl0 (c : Cl X.prog X.w X.K X.mg X.base CX k x sp) (hr : Room k X.A) (hg : Gl X x) (hx : Passes CX X E) (hd : (x == ("__debug__" : Str)) = false := by decide) :
    PE X (.Call (.Name x p) [] [] pos) (tCall sp [] E tNil) := by
  obtain ⟨f, fd, ps, hm, hk, hb, F⟩ := c
  exact pe_call0 F hr hg hm hk hb .nil hx hd
/-- a name of the module, by its value -/
theorem pe_gc {v : V} (hg : Gl X x) (h : ∃ u, X.mg x = some u ∧ RelV v u) (hd : (x == ("__debug__" : Str)) = false := by decide) : PE X (.Name x pos) (tC v) := by
  obtain ⟨u, h1, h2⟩ := h
  exact pe_glob hg h1 h2 hd
end
/-- sorted(d), text keys -/
def rSortedDk : List V → Hp → VK → Prop := fun xs H Q => ∃ (a : Addr) (kvs : List (Key × V)) (ks : List Str), xs = [.ref a] ∧ Rd H a (.dK kvs) ∧ kvs.map (·.1) = ks.map Sum.inr ∧ ks.length < 64 ∧ ∀ ys p, ys.Perm ks → sortedS ys = true → H p = none → Q (.ref p) (upd H p (.lst (ys.map V.str)))
theorem call_sortedDk {X : Cx} (hc : X.calm = true) : CallR X (.builtin "sorted") rSortedDk := call_sortedD hc
theorem dp_strsT {K : PySem.W.Frag} {a : Addr} {zs : List Str} (h : ∀ H, SqT K H a (zs.map V.str)) (H : Hp) : Dp K H (.ref a) (.tuple (zs.map .str)) := .tup (h H) (dpAll_strs zs)
end T9

set_option maxHeartbeats 1000000
/-! KitF: statements in short; encodings. -/
namespace T9
open PySem PySem.Spec PyProof.Rows L2
section
variable {K : PySem.W.Frag} {fs : Fm} {te : TE} {tt : TT} {tu tw tz : TS} {P : Po} {s : Sl} {d : PyData} {b : Bool}
/-- if c: (a way out); the rest -/
theorem sq_ret (h : EvT K fs tt b) (h1 : b = true → StF K tu fs { P with nx := fun _ => False }) (h2 : b = false → StF K tz fs P) : StF K (tSeq (tIfS tt tu tNext) tz) fs P :=
  sf_seq (M := fun g => g = fs ∧ b = false) (sf_if h (fun e => sf_imp (h1 e) (fun _ q => q.elim) (fun _ q => q) (fun _ q => q) fun _ q => q) fun e => sf_next ⟨rfl, e⟩) fun g q => by
    obtain ⟨e, eb⟩ := q
    subst e
    exact h2 eb
/-- if c: x = e; the rest -/
theorem sq_when {gs : Fm} (h : EvT K fs tt b) (h1 : b = true → StF K tu fs { P with nx := fun g => Le g gs }) (h0 : b = false → Le fs gs) (h2 : StF K tz gs P) : StF K (tSeq (tIfS tt tu tNext) tz) fs P :=
  sf_seq (M := fun g => Le g gs) (sf_if h h1 fun e => sf_next (h0 e)) fun g l => sf_le h2 l
theorem sq_if {gs : Fm} (h : EvT K fs tt b) (h1 : b = true → StF K tu fs { P with nx := fun g => Le g gs }) (h0 : b = false → StF K tw fs { P with nx := fun g => Le g gs }) (h2 : StF K tz gs P) : StF K (tSeq (tIfS tt tu tw) tz) fs P :=
  sf_seq (M := fun g => Le g gs) (sf_if h h1 h0) fun g l => sf_le h2 l
theorem sq_drop (h : EvC K fs te d) (k : StF K tz fs P) : StF K (tSeq (tDrop te) tz) fs P := sf_seq1 (sf_drop h rfl) k
theorem sq_app {i : Nat} {a : Addr} {ds : List PyData} (hi : fs[i]? = some (some (.ob a (.lst ds)))) (h : EvC K fs te d) (hd : imm d = true) (hl : ds.length < 100000) (k : StF K tz (fs.set i (some (.ob a (.lst (ds ++ [d]))))) P) :
    StF K (tSeq (tDrop (tBM K "list" rAppend (tVar i) (tCons te tNil))) tz) fs P := sf_seq1 (sf_app hi h hd hl rfl) k
end
theorem immAll_map {α : Type} {f : α → PyData} (h : ∀ x, imm (f x) = true) (xs : List α) : immAll (xs.map f) = true := immAll_iff.mpr fun d hd => by
  obtain ⟨x, _, rfl⟩ := List.mem_map.mp hd
  exact h x
theorem immAll_mapM {α : Type} {f : α → PyData} {xs : List α} (h : ∀ x ∈ xs, imm (f x) = true) : immAll (xs.map f) = true := immAll_iff.mpr fun d hd => by
  obtain ⟨x, hx, rfl⟩ := List.mem_map.mp hd
  exact h x hx
theorem immAll_ints (xs : List Int) : immAll (xs.map .int) = true := immAll_map (fun _ => rfl) xs
theorem immAll_strs (xs : List Str) : immAll (xs.map .str) = true := immAll_map (fun _ => rfl) xs
theorem made_take {α : Type} {b : α → Bool} {g : α → PyData} {xs : List α} {i : Nat} {x : α} (h : xs[i]? = some x) : ((xs.take (i + 1)).filter b).map g = if b x = true then ((xs.take i).filter b).map g ++ [g x] else ((xs.take i).filter b).map g := by
  rw [List.take_succ, h, List.filter_append, List.map_append]
  cases hb : b x with
  | true => simp [hb]
  | false => simp [hb]
/-- [te for x in xs if tt], the items told by α -/
theorem en_lcT {α : Type} {K : PySem.W.Frag} {fs : Fm} {wi : TI} {g : TG} {tt : TT} {te : TE} {vs : List Nat} (f : α → PyData) (xs : List α) (b : α → Bool) (gv : α → PyData) (h : EvW K fs wi (xs.map f)) (hl : xs.length < 100000)
    (hs : ∀ x ∈ xs, ∃ f', PutC K g vs (f x) fs f' ∧ EvT K f' tt (b x) ∧ (b x = true → EvC K f' te (gv x) ∧ imm (gv x) = true)) : EvN K fs (tLc wi g tt te vs) (.lst ((xs.filter b).map gv)) := fun B H0 H σ F Q q =>
  h B H0 H σ F _ fun J H1 e1 ⟨G, Y, w, hG, hY⟩ Dl hD => by
    rw [List.length_map] at w
    refine lc_it w (fun i H' => Ex H1 H' ∧ ∃ acc, H' Dl = some (.lst acc) ∧ DpAll K H' acc (((xs.take i).filter b).map gv) ∧ immAll (((xs.take i).filter b).map gv) = true ∧ acc.length ≤ i) ⟨Evl.Ex.new hD, [], upd_same, .nil, rfl, Nat.le_refl _⟩ (fun i H' _ p => hG H' p.1) (fun i x H2 H3 hi p y => ?_) fun H' p => ?_
    · obtain ⟨p1, acc, p2, p3, p4, p5⟩ := p
      obtain ⟨e3, d, hd1, hx⟩ := hY i H2 x H3 p1 y
      rw [List.getElem?_map] at hd1
      obtain ⟨z, hz, rfl⟩ := Option.map_eq_some_iff.mp hd1
      obtain ⟨f', hp, ht, he⟩ := hs z (List.mem_of_getElem? hz)
      refine hp B H0 H3 σ x ((F.mono (e1.trans (p1.trans e3))).wipe vs) hx _ fun σ4 H4 e4 F4 hw => ⟨hw, ?_⟩
      refine ht B H0 H4 σ4 F4 _ fun H5 e5 => ?_
      rw [made_take hz]
      cases hb : b z with
      | true =>
        refine (show te σ4 H5 _ from (he hb).1 B H0 H5 σ4 (F4.mono e5) _ fun v H6 e6 hv => ?_)
        have ea : Ex H2 H6 := ((e3.trans e4).trans e5).trans e6
        have g2 := ea Dl _ p2
        have ej : Ej H6 (upd H6 Dl (.lst (acc ++ [v]))) := Ej.upd g2 (fun _ e => nomatch e) (fun _ _ e => nomatch e)
        refine ⟨acc, g2, Evl.sz_lt (by omega), Evl.Ex.mut (p1.trans ea) hD, acc ++ [v], upd_same, ?_, ?_, by rw [List.length_append, List.length_singleton]; omega⟩
        · rw [if_pos rfl]
          exact dpAll_app (dpAll_ej ej _ _ p4 (dpAll_ex ea _ _ p3)) (dpAll_one (dp_ej ej _ _ (he hb).2 hv))
        · rw [if_pos rfl]
          rw [immAll_iff] at p4 ⊢
          intro z' hz'
          rcases List.mem_append.mp hz' with q | q
          · exact p4 z' q
          · rw [List.mem_singleton.mp q]
            exact (he hb).2
      | false =>
        have ea : Ex H2 H5 := (e3.trans e4).trans e5
        refine (show _ ∧ _ from ⟨p1.trans ea, acc, ea Dl _ p2, ?_, ?_, by omega⟩)
        · rw [if_neg (by decide)]
          exact dpAll_ex ea _ _ p3
        · rw [if_neg (by decide)]
          exact p4
    · obtain ⟨p1, acc, p2, p3, p4, p5⟩ := p
      rw [List.take_length] at p3 p4
      exact q Dl H' (e1.trans p1) (fresh_ex e1 hD) ⟨acc, p2, .of p3 p4⟩
/-- .. without an if -/
theorem en_lcM {α : Type} {K : PySem.W.Frag} {fs : Fm} {wi : TI} {g : TG} {te : TE} {vs : List Nat} (f : α → PyData) (xs : List α) (gv : α → PyData) (h : EvW K fs wi (xs.map f)) (hl : xs.length < 100000)
    (hs : ∀ x ∈ xs, ∃ f', PutC K g vs (f x) fs f' ∧ EvC K f' te (gv x) ∧ imm (gv x) = true) : EvN K fs (tLc wi g tYes te vs) (.lst (xs.map gv)) := by
  have z := en_lcT f xs (fun _ => true) gv (tt := tYes) (te := te) (g := g) (vs := vs) h hl fun x hx => let ⟨f', a, b, c⟩ := hs x hx; ⟨f', a, et_yes, fun _ => ⟨b, c⟩⟩
  rwa [show (xs.filter fun _ => true) = xs by simp] at z
end T9

set_option maxHeartbeats 1000000
/-! KitG: tests that are decided; plain ranges; sorted texts; a dict of flags, handed down -/
namespace T9
open PySem PySem.Spec PyProof.Rows L2
section
variable {K : PySem.W.Frag} {fs : Fm} {te : TE} {tt : TT} {tu tw tz : TS} {P : Po} {d : PyData}
theorem sq_retT (h : EvT K fs tt true) (h1 : StF K tu fs { P with nx := fun _ => False }) : StF K (tSeq (tIfS tt tu tNext) tz) fs P := sq_ret h (fun _ => h1) fun e => nomatch e
theorem sq_retF (h : EvT K fs tt false) (h2 : StF K tz fs P) : StF K (tSeq (tIfS tt tu tNext) tz) fs P := sq_ret h (fun e => nomatch e) fun _ => h2
theorem Le.nil : Le [] [] := Le.refl _
theorem Le.cons {x : Option Sl} {f g : Fm} (h : Le f g) : Le (x :: f) (x :: g) := ⟨congrArg (· + 1) h.1, fun i s hs => match i, hs with
  | 0, hs => hs
  | i + 1, hs => h.2 i s hs⟩
theorem Le.drop {x : Option Sl} {f g : Fm} (h : Le f g) : Le (x :: f) (none :: g) := ⟨congrArg (· + 1) h.1, fun i s hs => match i, hs with
  | 0, hs => nomatch hs
  | i + 1, hs => h.2 i s hs⟩
theorem Le.set {f g : Fm} (h : Le f g) (j : Nat) (x : Option Sl) : Le (f.set j x) (g.set j x) := ⟨by rw [List.length_set, List.length_set, h.1], fun i s hs => by
  rw [List.getElem?_set] at hs ⊢
  rw [← h.1] at hs
  split at hs
  · rename_i e
    rw [if_pos e]
    exact hs
  · rename_i e
    rw [if_neg e]
    exact h.2 i s hs⟩
theorem Le.len {f g : Fm} (h : Le f g) : f.length = g.length := h.1
theorem put_le {f g : Fm} {j : Nat} {d : PyData} (h : Le f g) (hj : j < g.length) (hi : imm d = true) : PutG K (gName j) d f (f.set j (some (.im d))) := put_name (by rw [h.1]; exact hj) hi
theorem sum_le {B : Nat} : ∀ {ys : List Str}, (∀ y ∈ ys, y.length ≤ B) → (ys.map (·.length)).sum ≤ ys.length * B
  | [], _ => Nat.le_of_eq (by simp)
  | y :: r, h => by
    have h1 := h y (List.mem_cons_self ..)
    have h2 := sum_le (B := B) (ys := r) fun z hz => h z (List.mem_cons_of_mem _ hz)
    rw [List.map_cons, List.sum_cons, List.length_cons, Nat.succ_mul]
    omega
theorem rangeD_0 (n : Nat) : rangeD 0 n = (List.range n).map fun (i : Nat) => PyData.int (i : Int) := by
  unfold rangeD
  exact List.map_congr_left fun i _ => by rw [Int.zero_add]
theorem ei_rng {t : TA} {n : Nat} {m : Int} (h : EvA K fs t [.int m]) (e : m.toNat = n) (hn : m < 1000000) (h0 : -1000000 < m) : EvI K fs (iRng1 t) ((List.range n).map fun (i : Nat) => PyData.int (i : Int)) := by
  have z := ei_rng1 h (by omega) (by omega)
  rwa [rangeD_0, e] at z
theorem range_at {n i : Nat} {d : PyData} (h : ((List.range n).map fun (i : Nat) => PyData.int (i : Int))[i]? = some d) : i < n ∧ d = .int (i : Int) := by
  rw [List.getElem?_map] at h
  obtain ⟨j, hj, rfl⟩ := Option.map_eq_some_iff.mp h
  by_cases hi : i < n
  · rw [List.getElem?_range hi] at hj
    cases hj
    exact ⟨hi, rfl⟩
  · rw [List.getElem?_eq_none (by rw [List.length_range]; omega)] at hj
    cases hj
theorem imm_range (n : Nat) : immAll ((List.range n).map fun (i : Nat) => PyData.int (i : Int)) = true := immAll_map (fun _ => rfl) _
def leS (a b : Str) : Bool := !ltCps b.cps.toList a.cps.toList
def srt (xs : List Str) : List Str := xs.mergeSort leS
/-- sorted(texts) -/
theorem al_sortedS {xs : List Str} (h : xs.length < 64) (hs : ∀ ys : List Str, ys.Perm xs → sortedS ys = true → ys = srt xs) : AL K (rSortedS K) [.list (xs.map .str)] ((srt xs).map .str) := fun vs H hx Q q => by
  cases hx with
  | cons h1 h2 => cases h2 with
    | nil =>
      obtain ⟨a, us, rfl, g1, g2⟩ := dp_lst h1
      rw [strs_of g2] at g1
      refine ⟨a, xs, rfl, g1, h, fun ys p hp hy hn => ?_⟩
      rw [hs ys hp hy]
      exact q p _ _ (Evl.Ex.new hn) hn upd_same (dpAll_strs _)
/-- a dict of flags -/
def kvD (ks : List Str) : List (Key × PyData) := ks.map fun k => (Sum.inr k, .bool true)
def kvT (ks : List Str) : List (Key × V) := ks.map fun k => (Sum.inr k, .bl true)
theorem kv_of {B H : Hp} : ∀ {ks : List Str} {vs : List (Key × V)}, KvAll K B H vs (kvD ks) → vs = kvT ks
  | [], _, h => by cases h; rfl
  | k :: r, _, h => by
    cases h with
    | cons h1 h2 =>
      rw [kv_of h2, dp_bl h1.1]
      rfl
theorem kv_mk {B H : Hp} : ∀ ks : List Str, KvAll K B H (kvT ks) (kvD ks)
  | [] => .nil
  | k :: r => .cons ⟨.bl true, .inl rfl⟩ (kv_mk r)
def addK (ks : List Str) (p : Str) : List Str := if p ∈ ks then ks else ks ++ [p]
theorem kv_put (ks : List Str) (p : Str) : putK (kvT ks) (Sum.inr p) (V.bl true) = kvT (addK ks p) := by
  unfold putK addK kvT
  by_cases h : p ∈ ks
  · rw [if_pos h, if_pos (by rw [List.any_map, List.any_eq_true]; exact ⟨p, h, by simp⟩), List.map_map]
    refine List.map_congr_left fun k _ => ?_
    show (if (Sum.inr k : Key) = Sum.inr p then ((Sum.inr k : Key), V.bl true) else (Sum.inr k, V.bl true)) = _
    split <;> rfl
  · rw [if_neg h, if_neg (by rw [List.any_map, List.any_eq_true]; rintro ⟨k, hk, e⟩; simp at e; exact h (e ▸ hk)), List.map_append]
    rfl
variable {i : Nat} {a : Addr} {ks : List Str}
theorem sf_dput {p : Str} (hi : fs[i]? = some (some (.ob a (.dk (kvD ks))))) (h : EvC K fs te (.str p)) (hl : ks.length < 10000) (k : P.nx (fs.set i (some (.ob a (.dk (kvD (addK ks p))))))) :
    StF K (sDPut (tVar i) te (tC (.bl true))) fs P := fun B H0 H σ D F n r b c => by
  obtain ⟨h1, h2, h3⟩ := F.own hi
  refine (show ∃ v, σ[i]? = some (some v) ∧ te σ H _ from ⟨_, h1, h B H0 H σ F _ fun v H1 e1 hv => ?_⟩)
  cases dp_str hv
  have F1 := F.mono e1
  obtain ⟨g1, g2, vs', g3, g4⟩ := F1.own hi
  rw [kv_of g4] at g3
  refine ⟨a, _, rfl, DPut.k (k := Sum.inr p) g3 (by unfold kvT; rw [List.length_map]; exact Nat.lt_of_lt_of_le hl (by decide)), n _ _ _ k (F1.put hi ?_)⟩
  rw [kv_put]
  exact ⟨_, upd_same, kv_mk _⟩
/-- a dict of one's own handed down to a def that puts flags -/
theorem sf_flag {sp : Sp} {d : PyData} {ks2 : List Str} {X : XK} (hi : fs[i]? = some (some (.ob a (.dk (kvD ks))))) (h : EvC K fs te d)
    (hs : ∀ (v : V) (H : Hp) (Q : VK), Dp K H v d → H a = some (.dK (kvT ks)) → (∀ H', (∀ b o, b ≠ a → H b = some o → H' b = some o) → H' a = some (.dK (kvT ks2)) → Q .non H') → sp [v, .ref a] H Q X)
    (k : P.nx (fs.set i (some (.ob a (.dk (kvD ks2)))))) : StF K (tDrop (tCall sp [] X (tCons te (tCons (tVar i) tNil)))) fs P := fun B H0 H σ D F n r b c =>
  h B H0 H σ F _ fun v H1 e1 hv => by
    have F1 := F.mono e1
    obtain ⟨g1, g2, vs', g3, g4⟩ := F1.own hi
    rw [kv_of g4] at g3
    refine ⟨_, g1, hs v H1 _ hv g3 fun H' hk ha => ?_⟩
    have F2 : Fr K B H0 (upd H1 a (.dK (kvT ks2))) σ (fs.set i (some (.ob a (.dk (kvD ks2))))) := F1.put hi ⟨_, upd_same, kv_mk _⟩
    refine n _ _ _ k (F2.mono fun x o hx => ?_)
    by_cases e : x = a
    · subst e
      rw [upd_same] at hx
      rw [ha, ← hx]
    · rw [upd_ne e] at hx
      exact hk x o e hx
theorem en_sortedDk {ys : List Str} (hi : fs[i]? = some (some (.ob a (.dk (kvD ks))))) (h : ks.length < 64) (hs : ∀ zs : List Str, zs.Perm ks → sortedS zs = true → zs = ys) : EvN K fs (tCB rSortedDk (tCons (tVar i) tNil)) (.lst (ys.map .str)) := fun B H0 H σ F Q q => by
  obtain ⟨g1, g2, vs', g3, g4⟩ := F.own hi
  rw [kv_of g4] at g3
  refine ⟨_, g1, a, kvT ks, ks, rfl, .inl g3, ?_, h, fun zs p hp hz hn => ?_⟩
  · unfold kvT
    rw [List.map_map]
    rfl
  · rw [hs zs hp hz]
    exact q p _ (Evl.Ex.new hn) hn ⟨_, upd_same, .of (dpAll_strs _) (immAll_strs _)⟩
theorem en_dnew : EvN K fs tDNewK (.dk (kvD [])) := fun B H0 H σ F Q q p hp => q p _ (Evl.Ex.new hp) hp ⟨[], upd_same, .nil⟩
/-- the frame of a def that is handed data and a dict of flags -/
theorem fr_flag {H : Hp} {v : V} {d : PyData} {n : Nat} (hd : imm d = true) (h : Dp K H v d) (ha : H a = some (.dK (kvT ks))) :
    ∃ B : Hp, (∀ b o, b ≠ a → H b = some o → B b = some o) ∧ Fr K B B H ([some v, some (.ref a)] ++ List.replicate n none) ([some (.im d), some (.ob a (.dk (kvD ks)))] ++ List.replicate n none) := by
  refine ⟨fun b => if b = a then none else H b, fun b o hb ho => by show (if b = a then none else H b) = some o; rw [if_neg hb]; exact ho, ?_⟩
  have eb : Ex (fun b => if b = a then none else H b) H := fun b o hb' => by
    have hb : (if b = a then none else H b) = some o := hb'
    by_cases e : b = a
    · rw [if_pos e] at hb
      cases hb
    · rwa [if_neg e] at hb
  refine ⟨Evl.Ex.refl _, eb, by simp, fun j s hs => ?_, fun j k b o u hjk hj hk => ?_⟩
  · match j with
    | 0 =>
      cases hs
      exact ⟨v, rfl, h, .inl hd⟩
    | 1 =>
      cases hs
      exact ⟨_, rfl, rfl, if_pos rfl, kvT ks, ha, kv_mk _⟩
    | j + 2 =>
      have hs' : (List.replicate n (none : Option Sl))[j]? = some (some s) := hs
      rw [List.getElem?_replicate] at hs'
      split at hs' <;> cases hs'
  · have one : ∀ {j : Nat} {b : Addr} {o : Ob}, ([some (.im d), some (.ob a (.dk (kvD ks)))] ++ List.replicate n none : Fm)[j]? = some (some (.ob b o)) → j = 1 := fun {j b o} h => by
      match j with
      | 0 => cases h
      | 1 => rfl
      | j + 2 =>
        have hs' : (List.replicate n (none : Option Sl))[j]? = some (some (.ob b o)) := h
        rw [List.getElem?_replicate] at hs'
        split at hs' <;> cases hs'
    exact hjk ((one hj).trans (one hk).symm)
end
end T9

set_option maxHeartbeats 1000000
/-! KitX: a list comprehension whose element is a call that may raise -/
namespace T9
open PySem PySem.Spec PyProof.Rows L2
section
variable {X : Cx} {pins : List (Addr × Obj)} {σ : L2.St} {H3 : Hp} {s3 : Shared} {scope : Scope} {ce : Env} {fp : List Addr} {W : WX} {E : XK}
/-- where the element's exception goes -/
abbrev xeB (X : Cx) (ce : Env) : Value → Shared → Prop := notedBy (model X.prog X.w) X.A ce (CompFails (model X.prog X.w) X.A X.xe ce)
theorem passes_blk (I3 : L2.Inv X pins σ H3 s3) (hs : X.stack = X.env :: X.outer) (hf : X.env.frame = some X.env.locals) (hcf : ce.frame = X.env.frame)
    (f3 : ∀ b ∈ fp, FpOk X pins H3 b) (tk : Takes X W) (hW : ∀ cls d H, E cls d H → W cls d σ H) : Passes (L2.CX X.prog X.w) { X.blk s3 H3 scope ce fp with xe := xeB X ce } E := by
  rintro pn' σ' Hc s u s' I' ⟨a, B, H', cls, d, rfl, fl, hok, ub, na, os, ag, hE⟩
  have hab : s3.heap.objs.size ≤ ce.locals := I'.ok.above
  have hfr : X.A.frames = some (X.env :: X.outer) := by rw [I3.ok.frames, hs]
  have fl' : HandSPX.FlyingZ B (X.env :: X.outer) a (Zc cls d) s'.heap := by
    rw [← hs]
    exact fl
  have inS3 : ∀ b ∈ frs X.stack, ∃ o, s3.heap.get? b = some o ∧ ∀ vs, o.data ≠ .fields vs := fun b hb => by
    obtain ⟨_, o, e, k⟩ := I3.stack.mem hb
    exact ⟨o, e, k⟩
  have cF : ce.locals ∉ frs X.stack := fun hb => by
    obtain ⟨o, e, _⟩ := inS3 _ hb
    exact absurd (Nat.lt_of_lt_of_le (Heap.lt_size e) hab) (Nat.lt_irrefl _)
  have ne3 : ∀ b o, s3.heap.get? b = some o → b ≠ ce.locals := fun b o e => Nat.ne_of_lt (Nat.lt_of_lt_of_le (Heap.lt_size e) hab)
  have cN : Hc ce.locals = none := I'.free
  obtain ⟨m0, hn0, _⟩ := I'.loc
  obtain ⟨oC, es, ep, hoC, hdC, hrC⟩ := hn0
  have cN' : H' ce.locals = none := ub.free _ _ hoC cN
  have cB : B.get? ce.locals = some oC := ub.keep _ _ hoC cN cF
  show wpAny (model X.prog X.w) X.A (noteFrame (.ref a) ce) _ _ s'
  rw [noteFrame_env _ hcf]
  refine HandSPX.looks_onZ Zc.steady hfr hf fl' fun h1 held up1 => ?_
  obtain ⟨kB, kA, kF, oe, vs, T, oT, ts, he, hz, hd, hv1, hnT, hTe, hT, hdT, hv3⟩ := held
  have hn1 : h1.Ns ce.locals m0 := ⟨oC, es, ep, kB _ _ cB, hdC, hrC⟩
  refine ⟨m0, hn1, fun h2 m2 hn2 hs2 => ?_⟩
  have at2 : ∀ b o, h1.get? b = some o → b ≠ ce.locals → h2.get? b = some o := fun b o e n => (hs2.2 b n).trans e
  have noC : ∀ b o ws, h1.get? b = some o → o.data = .fields ws → b ≠ ce.locals := fun b o ws e k q => by
    rw [q, kB _ _ cB] at e
    cases e
    rw [hdC] at k
    cases k
  have he2 := at2 a oe he (noC _ _ _ he hd)
  have hT2 := at2 T oT hT (noC _ _ _ hT hdT)
  obtain ⟨G, g1, g2⟩ := restrict h2 fun b => (B.get? b).isSome || decide (b ∈ frs X.stack)
  obtain ⟨B3, b1, b2⟩ := restrict h2 fun b => (B.get? b).isSome && !decide (b ∈ frs X.stack)
  have gAt : ∀ b o, B.get? b = some o → b ≠ ce.locals → G.get? b = some o := fun b o e n => by
    rw [g1 b (by rw [e]; rfl)]
    exact at2 b o (kB _ _ e) n
  have gFr : ∀ b ∈ frs X.stack, G.get? b = h2.get? b := fun b hb => g1 b (by rw [decide_eq_true hb, Bool.or_true])
  have slotC : ∀ b ∈ frs X.stack, ∀ o, s3.heap.get? b = some o → H3 b = none → b ∉ fp → ∃ sl, G.get? b = some { o with slots := sl } := fun b hb o e n hp => by
    obtain ⟨o0, e0, nf⟩ := inS3 b hb
    rw [e] at e0
    cases e0
    obtain ⟨sl, e1⟩ := I'.base.slot b o e n hb hp
    obtain ⟨sl2, e2⟩ := ub.slot b _ e1 hb
    obtain ⟨sl3, e3⟩ := up1 b _ e2 nf
    exact ⟨sl3, by rw [gFr b hb]; exact at2 b _ e3 (ne3 b o e)⟩
  have hokG : HOk X.prog X.w H' G := fun b o q => (hok b o q).stay (fun c u hc r => gAt c u r fun z => by
    subst z
    rcases hc with hc | hc
    · rw [hc, q] at cN'
      cases cN'
    · rw [hc] at cN'
      cases cN') (fun _ r => r) fun _ _ r => r
  have J : L2.Inv X pins σ H' { s' with heap := G } := I3.call' (ch := fp) (os.trans I'.os) ⟨fun b o e n hb hp => gAt b o (ub.keep b o (I'.base.keep b o e n hb hp) (I'.base.free b o e n hp) hb) (ne3 b o e),
      fun b o e n hb hp => slotC b hb o e n hp,
      fun b o e n hp => by
        obtain ⟨o', e'⟩ := I'.base.there b o e hp
        exact ub.free b o' e' (I'.base.free b o e n hp),
      fun b o e hp => by
        obtain ⟨o', e'⟩ := I'.base.there b o e hp
        by_cases hb : b ∈ frs X.stack
        · obtain ⟨sl, e1⟩ := slotC b hb o e (I3.stkFree b hb) hp
          exact ⟨_, e1⟩
        · obtain ⟨o2, e2⟩ := ub.there b o' e' hb
          exact ⟨o2, gAt b o2 e2 (ne3 b o e)⟩,
      fun b xs e => ub.tups b xs (I'.base.tups b xs e), fun b o xs e => ub.frzs b o xs (I'.base.frzs b o xs e),
      fun b ps e => by
        obtain ⟨m1, e1⟩ := I'.base.tbls b ps e
        obtain ⟨m2, e2⟩ := ub.tbls b _ e1
        exact ⟨m1 ++ m2, by rw [e2, Array.append_assoc]⟩⟩ hokG ag fun b hb => ⟨(f3 b hb).2.2.2.1, (f3 b hb).2.1, (f3 b hb).2.2.2.2.1, (f3 b hb).2.2.2.2.2⟩
  have b3no : ∀ b, B.get? b = none → B3.get? b = none := fun b e => b2 b (by rw [e]; rfl)
  have held2 : HandSPX.HeldZ B3 (X.env :: X.outer) a (Zc cls d) X.env.locals h2 := by
    refine ⟨fun b o e => ?_, b3no a kA, funFrames_none (Heap.FunFrames.sameBut hs2 hn2 kF) fun L hL => ?_, oe, vs, T, oT, ts, he2, hz, hd, hv1, b3no T hnT, hTe, hT2, hdT, hv3⟩
    · cases q : ((B.get? b).isSome && !decide (b ∈ frs X.stack)) with
      | true => rwa [b1 b q] at e
      | false =>
        rw [b2 b q] at e
        cases e
    · rw [← hs] at hL
      exact b2 L (by rw [decide_eq_true hL]; simp)
  have fin : wpAny (model X.prog X.w) X.A (setFlight (.ref a) ce.frame) (fun _ s4 => wpAny (model X.prog X.w) X.A (throw (.ref a) : Sem Value) (fun _ _ => False) X.xe s4) X.xe { s' with heap := h2 } := by
    rw [hcf, hf]
    refine HandSPX.setFlight_onZ held2 fun h4 held4 up4 => wpAny_throw (tk _ _ ?_)
    refine ⟨a, B3, { s' with heap := G }, pins, σ, H', cls, d, rfl, J, fun b o e hb => ?_, fun b o e nf => ?_, .inr (.inr (by rw [hs]; exact held4)), na, rfl, ag, hW _ _ _ hE⟩
    · cases q : ((B.get? b).isSome || decide (b ∈ frs X.stack)) with
      | true =>
        rw [g1 b q] at e
        rw [decide_eq_false hb, Bool.or_false] at q
        rw [b1 b (by rw [q, decide_eq_false hb]; rfl)]
        exact e
      | false =>
        rw [g2 b q] at e
        cases e
    · cases q : ((B.get? b).isSome || decide (b ∈ frs X.stack)) with
      | true =>
        rw [g1 b q] at e
        exact up4 b o e nf
      | false =>
        rw [g2 b q] at e
        cases e
  unfold PySem.passOn
  refine wpAny_bind (wpAny_field he2 hd hv1 ?_)
  rw [if_neg (show ¬ ((Value.ref T == Value.none) = true) from by simp)]
  first
    | exact wpAny_bind (wpAny_pure (wpAny_bind fin))
    | exact wpAny_bind fin
/-- [elt for tg in iter if ..], elt a call that may raise: passes are handed to the element's rule -/
theorem pe_lcX {elt tg iter : Expr} {ifs : List Expr} {own : List (Str × Nat)} {pos : Pos} {wi : TI} {g : TG} {tt : TT} {te : TE}
    (hc : X.calm = true) (hN : X.N.Nodup) (hi : PI X tg iter wi) (ok : BlkOk X.N X.env.scope scope own)
    (hg : ∀ (s : Shared) (H : Hp) (C : Addr) (cl : List (Str × Addr)) (fp : List Addr), PG (X.blk s H scope (compEnvC scope cl C X.env) fp) tg g)
    (ht : ∀ (s : Shared) (H : Hp) (C : Addr) (cl : List (Str × Addr)) (fp : List Addr), PTs (X.blk s H scope (compEnvC scope cl C X.env) fp) ifs tt)
    (he : ∀ (s : Shared) (H : Hp) (C : Addr) (cl : List (Str × Addr)) (fp : List Addr) (xe : Value → Shared → Prop), Passes (L2.CX X.prog X.w) { X.blk s H scope (compEnvC scope cl C X.env) fp with xe := xe } E → PE { X.blk s H scope (compEnvC scope cl C X.env) fp with xe := xe } elt te)
    (hst : X.stack = X.env :: X.outer) (hfr : X.env.frame = some X.env.locals) (tk : Takes X W) (hW : ∀ cls d σ H, E cls d H → W cls d σ H) (hs : ∀ x, foldedSetIterable iter X.env x = pure x := by intro _; rfl) :
    PE X (.ListComp elt [⟨tg, iter, ifs, 0⟩] scope pos) (tLc wi g tt te (own.map (·.2))) := by
  refine ⟨fun pins s σ H Q I h => ?_⟩
  rw [eval_ListComp]
  have hfree : ∀ y ∈ scope.names, y.2 = .free → ∃ c, X.env.cells.lookup y.1 = some c := fun y hy e => (ok.free y hy e).elim (fun k => I.ok.has _ (.inl k)) fun k => I.ok.has _ (.inr k)
  refine comprehension_at (use := none) rfl hs (closure_ok hfree) ok.kind (fun y hy e => by rw [ok.uniq y hy, e]) (thn (hi.run pins s σ H _ I h) fun xv s1 hx => thn hx fun itv s2 hh2 => ?_)
  obtain ⟨it, fp, tn, J, H2, rfl, I2, T, st2, f2, q⟩ := hh2
  refine wpAny_newObj_type (newEnv_comp ?_) (by show 0 ≤ sizeLine; decide)
  generalize eDl : s2.heap.objs.size = dl
  have dlN : H2 dl = none := I2.hok.fresh (Nat.le_of_eq eDl)
  obtain ⟨Wn, ⟨m0, w0⟩, turn⟩ := q dl dlN
  generalize e3 : ({ s2 with heap := s2.heap.push { cls := .type "list", data := .seq ([] : List Value).toArray } } : Shared) = t3
  have I3 : L2.Inv X pins σ (upd H2 dl (.lst [])) t3 := by
    subst e3
    refine I2.laid (t' := s2.toks) (fun b o e => Heap.get?_push_of_some _ e) (Nat.le_of_eq eDl) ⟨Nat.zero_le _, [], 0, .nil, ?_⟩
    subst eDl
    exact Heap.get?_push_size _ rfl
  have hp3 : t3.heap = s2.heap.push { cls := .type "list", data := .seq ([] : List Value).toArray } := by rw [← e3]
  have szs : ∀ b ∈ fp, b < s2.heap.objs.size := fun b hb => let ⟨o, e, _⟩ := T.obj _ _ st2 b hb; Heap.lt_size e
  have fps : ∀ b ∈ fp, FpOk X pins (upd H2 dl (.lst [])) b ∧ b < t3.heap.objs.size := fun b hb =>
    ⟨⟨by rw [upd_ne (by rw [← eDl]; exact Nat.ne_of_lt (szs b hb))]; exact (f2 b hb).1, (f2 b hb).2⟩, by rw [hp3, Heap.size_push]; exact Nat.lt_succ_of_lt (szs b hb)⟩
  have st3 : tn 0 t3.heap := T.keep _ _ _ st2 fun b _ o e => by rw [hp3]; exact Heap.get?_push_of_some _ e
  have I4 := block_start I3 ok hN fps
  have pg := hg t3 (upd H2 dl (.lst [])) t3.heap.objs.size (cellsFrom (t3.heap.objs.size + 1) scope.names (cloFrom X.env.cells scope.names [])) fp
  have pt := ht t3 (upd H2 dl (.lst [])) t3.heap.objs.size (cellsFrom (t3.heap.objs.size + 1) scope.names (cloFrom X.env.cells scope.names [])) fp
  have pe := he t3 (upd H2 dl (.lst [])) t3.heap.objs.size (cellsFrom (t3.heap.objs.size + 1) scope.names (cloFrom X.env.cells scope.names [])) fp
  show codeAny _ _ (.compStart (.ListComp elt [⟨tg, iter, ifs, 0⟩] scope pos) 0 (.ref it) (.ref dl) (compEnvC scope (cellsFrom (t3.heap.objs.size + 1) scope.names (cloFrom X.env.cells scope.names [])) t3.heap.objs.size X.env)) (compEnds (model X.prog X.w) X.A X.xe none (EP X pins σ Q) (.ref dl) (compEnvC scope (cellsFrom (t3.heap.objs.size + 1) scope.names (cloFrom X.env.cells scope.names [])) t3.heap.objs.size X.env)) { t3 with heap := pushCells (t3.heap.push { cls := .type "dict", data := .dict #[] }) scope.names }
  have nfp : ∀ b ∈ fp, (upd H2 dl (.lst [])) b = none := fun b hb => (fps b hb).1.1
  generalize ece : compEnvC scope (cellsFrom (t3.heap.objs.size + 1) scope.names (cloFrom X.env.cells scope.names [])) t3.heap.objs.size X.env = ce at I4 pg pt pe ⊢
  have ceL : ce.locals = t3.heap.objs.size := by rw [← ece]; rfl
  have ceF : ce.frame = X.env.frame := by rw [← ece]; rfl
  generalize eH3 : upd H2 dl (.lst []) = H3 at I3 I4 pg pt pe w0 nfp fps
  generalize e4 : ({ t3 with heap := pushCells (t3.heap.push { cls := .type "dict", data := .dict #[] }) scope.names } : Shared) = t4 at I4 ⊢
  have st4 : tn 0 t4.heap := T.keep _ _ _ st3 fun b _ o e => by rw [← e4]; exact pushCells_keeps _ _ _ _ (Heap.get?_push_of_some _ e)
  have pex := pe (xeB X ce) (passes_blk I3 hst hfr ceF (fun b hb => (fps b hb).1) tk fun cls d H e => hW cls d σ H e)
  have stat : ∀ {σ' : L2.St} {H' : Hp} {s' : Shared}, L2.Inv (X.blk t3 H3 scope ce fp) [] σ' H' s' → (∀ b ∈ fp, H' b = none) → ∀ b ∈ fp, FpOk (X.blk t3 H3 scope ce fp) [] H' b := fun {σ' H' s'} I' hn b hb =>
    ⟨hn b hb, (I'.ok.exf b hb).1, I'.ok.exfs b hb, .inl hb, fun x c e => (I'.ok.exf b hb).2 x c e, fun p hp => absurd (show p ∈ ([] : List (Addr × Obj)) ++ [] from hp) (by simp)⟩
  have loop : codeAny (model X.prog X.w) X.A (.compLoop (.ListComp elt [⟨tg, iter, ifs, 0⟩] scope pos) 0 (.ref it) (.ref dl) ce) (compEnds (model X.prog X.w) X.A X.xe none (EP X pins σ Q) (.ref dl) ce) t4 := by
    refine compLoop_any (fun n s' => ∃ i H', L2.Inv (X.blk t3 H3 scope ce fp) [] (wipe σ (own.map (·.2))) H' s' ∧ tn i s'.heap ∧ (∀ b ∈ fp, H' b = none) ∧ Wn i n H') ?_ m0 ⟨0, H3, I4, st4, nfp, w0⟩
    rintro n s5 ⟨i, H5, I5, st5, n5, w5⟩
    rcases turn i n H5 w5 with ⟨stop, fine⟩ | ⟨go, Nx, hNx, step⟩
    · refine thnF (T.done (X.blk t3 H3 scope ce fp) rfl rfl rfl hc i [] s5 _ H5 (fun _ _ => False) I5 (stat I5 n5) st5 stop) fun r s6 ⟨hr, I6⟩ => ?_
      subst hr
      have I7 : L2.Inv X pins σ H5 s6 := I3.call' (ch := fp) I6.os I6.base I6.hok I6.bare fun b hb => ⟨(fps b hb).1.2.2.2.1, (fps b hb).1.2.1, (fps b hb).1.2.2.2.2.1, (fps b hb).1.2.2.2.2.2⟩
      have nC : H5 ce.locals = none := I6.free
      obtain ⟨m, hn, _⟩ := I6.loc
      obtain ⟨f0, f1, f2', f3', f4, f5⟩ := I3.fpOk (H' := H5) (b := ce.locals) (Nat.le_of_eq ceL.symm) nC
      exact ⟨m, hn, fun h'' sb => ⟨.ref dl, H5, I7.turned (t' := s6.toks) (fun b o hb e => (sb.2 b hb).trans e) f0 f1 f3' f4 f5, rfl, fine⟩⟩
    · refine thnF (T.item (X.blk t3 H3 scope ce fp) rfl rfl rfl hc i [] s5 _ H5 (fun _ _ => False) I5 (stat I5 n5) st5 go) fun r s6 ⟨u, hr, h6⟩ => ?_
      subst hr
      refine thnF h6 fun _ s7 ⟨x, H7, I7, r7, y7, st7, n7⟩ => ?_
      refine thnF (pg.run _ s7 _ H7 x u _ (I7.pinned (stat I7 n7) (T.obj _ _ st7)) r7 (step x H7 y7)) fun _ s8 ⟨σ8, H8, I8, hw8, q8⟩ => ?_
      refine thnF (pt.run _ s8 σ8 H8 _ I8 q8) fun b s9 ⟨H9, I9, q9⟩ => ?_
      have fin : ∀ {s' : Shared} {H' : Hp}, L2.Inv (X.blk t3 H3 scope ce fp) ([] ++ pinsAt fp s7.heap) σ8 H' s' → Nx H' → ∃ m, m < n ∧ ∃ i H', L2.Inv (X.blk t3 H3 scope ce fp) [] (wipe σ (own.map (·.2))) H' s' ∧ tn i s'.heap ∧ (∀ b ∈ fp, H' b = none) ∧ Wn i m H' := fun {s' H'} I' nx => by
        obtain ⟨m', hm, w'⟩ := hNx H' nx
        have pinned : ∀ b ∈ fp, ∀ o, s7.heap.get? b = some o → s'.heap.get? b = some o ∧ H' b = none := fun b hb o e =>
          ⟨(I'.pin (b, o) (List.mem_append_right _ (List.mem_append_right _ (mem_pinsAt hb e)))).1, (I'.pin (b, o) (List.mem_append_right _ (List.mem_append_right _ (mem_pinsAt hb e)))).2.1⟩
        refine ⟨m', hm, i + 1, H', (I'.unpinned (pins := [])).weak (by rw [← hw8, wipe_length]) (fun j v e => (wipe_some (by rw [hw8]; exact e)).1), T.keep _ _ _ st7 fun b hb o e => (pinned b hb o e).1, fun b hb => ?_, w'⟩
        obtain ⟨o, e, _⟩ := T.obj _ _ st7 b hb
        exact (pinned b hb o e).2
      cases b with
      | false =>
        simp only [Bool.false_eq_true, if_false] at q9 ⊢
        exact fin I9 q9
      | true =>
        simp only [if_true] at q9 ⊢
        refine wpAny_mono (pex.run _ s9 σ8 H9 _ (I9.wish _) q9) (fun z s10 hz => ?_) fun e s' hx => hx
        obtain ⟨yv, H10, I10, r10, acc, hD10, hz10, nx⟩ := hz
        exact thnF (app_ok (X := X.blk t3 H3 scope ce fp) (I10.unwish (X := X.blk t3 H3 scope ce fp)) hD10 hz10 r10 fun s11 I11 => fin I11 nx) fun _ _ z => z
  exact codeAny_compStart_list loop (T.self X.A 0 _ _ _ st4 loop)
end
end T9

set_option maxHeartbeats 1000000
/-! KitH: methods and makers by their names; raise; calls that may raise -/
namespace T9
open PySem PySem.Spec PyProof.Rows L2
/-- the method m of the class at C keeps the promise sp -/
def Me (P : Program) (w : World) (K : PySem.W.Frag) (mg : Str → Option Value) (base : Heap) (CX : CXT) (k : Nat) (C : Addr) (m : Str) (sp : Sp) : Prop :=
  ∃ (f : Addr) (fd : FuncData) (ps : List Str), Meth K C m f ∧ Binds K fd ps [] ∧ FnOk P w K mg base CX k f fd ps sp
/-- .. as a maker's __init__ -/
def Mi (P : Program) (w : World) (K : PySem.W.Frag) (mg : Str → Option Value) (base : Heap) (CX : CXT) (k : Nat) (C : Addr) (sp : Sp) : Prop :=
  ∃ (f : Addr) (fd : FuncData) (ps : List Str), Mk K C f ∧ Binds K fd ps [] ∧ FnOk P w K mg base CX k f fd ps sp
theorem Me.mono {P : Program} {w : World} {K : PySem.W.Frag} {mg : Str → Option Value} {base : Heap} {CX : CXT} {j k : Nat} {C : Addr} {m : Str} {sp : Sp} (c : Me P w K mg base CX j C m sp) (h : j ≤ k) : Me P w K mg base CX k C m sp := by
  obtain ⟨f, fd, ps, h1, h2, h3⟩ := c
  exact ⟨f, fd, ps, h1, h2, h3.mono h⟩
theorem Mi.mono {P : Program} {w : World} {K : PySem.W.Frag} {mg : Str → Option Value} {base : Heap} {CX : CXT} {j k : Nat} {C : Addr} {sp : Sp} (c : Mi P w K mg base CX j C sp) (h : j ≤ k) : Mi P w K mg base CX k C sp := by
  obtain ⟨f, fd, ps, h1, h2, h3⟩ := c
  exact ⟨f, fd, ps, h1, h2, h3.mono h⟩
section
variable {X : Cx} {CX : CXT} {k : Nat} {C : Addr} {x m : Str} {sp : Sp} {E : XK} {o e : Expr} {es : List Expr} {ta : TE} {t : TA} {p pos apos : Pos} {pl : Sem Bool}
theorem pe_me (c : Me X.prog X.w X.K X.mg X.base CX k C m sp) (hr : Room k X.A) (hc : Cls X.K C) (hx : Passes CX X E) (he : PE X o ta) (ha : PA X (e :: es) t)
    (hst : starEach (e :: es) X.env = (false, eval e X.env) :: starEach es X.env := by rfl) (hpl : (backTo pos (starEach es X.env)).any (·.1) = false := by rfl)
    (ht : eval (.Call (.Attribute o m apos) (e :: es) [] pos) X.env = (do
      let ov ← eval o X.env
      standAt apos.atName
      let (f, first) ← holding [ov] (getMethod ov m pl)
      callWith pos f first (backTo pos (starEach (e :: es) X.env)) (backToKw pos (keywordEach [] X.env))) := by rfl) : PE X (.Call (.Attribute o m apos) (e :: es) [] pos) (tMeth C m sp [] E ta t) := by
  obtain ⟨f, fd, ps, h1, h2, h3⟩ := c
  exact pe_meth (pl := pl) he hc h1 h3 hr h2 .nil hx ha hst hpl ht
theorem pe_me0 (c : Me X.prog X.w X.K X.mg X.base CX k C m sp) (hr : Room k X.A) (hc : Cls X.K C) (hx : Passes CX X E) (he : PE X o ta)
    (ht : eval (.Call (.Attribute o m apos) [] [] pos) X.env = (do
      let ov ← eval o X.env
      standAt apos.atName
      let (f, first) ← holding [ov] (getMethod ov m pl)
      callWith pos f first (backTo pos (starEach [] X.env)) (backToKw pos (keywordEach [] X.env))) := by rfl) : PE X (.Call (.Attribute o m apos) [] [] pos) (tMeth C m sp [] E ta tNil) := by
  obtain ⟨f, fd, ps, h1, h2, h3⟩ := c
  exact pe_meth0 (pl := pl) he hc h1 h3 hr h2 .nil hx ht
theorem pe_mk (c : Mi X.prog X.w X.K X.mg X.base CX k C sp) (hr : Room (k + 1) X.A) (hg : Gl X x) (hm : X.mg x = some (.ref C)) (hx : Passes CX X E) (ha : PA X (e :: es) t) (hdb : (x == ("__debug__" : Str)) = false := by decide)
    (he : starEach (e :: es) X.env = (false, eval e X.env) :: starEach es X.env := by rfl) (hpl : (backTo pos (starEach es X.env)).any (·.1) = false := by rfl) : PE X (.Call (.Name x p) (e :: es) [] pos) (tMake C sp [] E t) := by
  obtain ⟨f, fd, ps, h1, h2, h3⟩ := c
  exact pe_make h1 h3 hr hg hm h2 .nil hx ha hdb he hpl
/-- nothing is raised: the caller's wish is False -/
theorem passF : Passes (L2.CX X.prog X.w) X E0 := fun pins σ H s e s' I ⟨_, _, _, _, _, _, _, _, _, _, _, _, h⟩ => h.elim
/-- raise C('..'), C an own class of ValueErrors -/
def tRaiseI (W : WX) (C : Addr) : TS := fun _ σ H => W (.ref C) none σ H
theorem ps_raiseI {W : WX} {s : Str} {j : Nat} {p2 pos' : Pos} (hc : X.calm = true) (tk : Takes X W) (q : PySem.W.excIn X.K C He.veBase "ValueError.__new__" = true ∧ PySem.W.keepIn X.K (.ref C) = true ∧ PySem.W.subIn X.K (.ref C) (.type "BaseException") = some true ∧ PySem.W.typeIn X.K (.ref C) = some (.type "type"))
    (gC : X.mg x = some (.ref C)) (hg : Gl X x) (hdb : (x == ("__debug__" : Str)) = false := by decide) : PS X (.Raise (some (.Call (.Name x p) [.Constant (.str s) j p2] [] pos)) none pos') (tRaiseI W C) :=
  ps_raise hc tk (pmk_own PySem.F.excBase_ValueError q.1 gC q.2.1 (raises_own q.2.2.1 q.2.2.2) hg hdb)
/-- in a try's body -/
theorem pe_clS {W : WX} (c : Cl X.prog X.w X.K X.mg X.base (L2.CX X.prog X.w) k x sp) (hr : Room k X.A) (hg : Gl X x) (tk : Takes X W) (ha : PA X (e :: es) t) (hdb : (x == ("__debug__" : Str)) = false := by decide)
    (he : starEach (e :: es) X.env = (false, eval e X.env) :: starEach es X.env := by rfl) (hpl : (backTo pos (starEach es X.env)).any (·.1) = false := by rfl) : PE X (.Call (.Name x p) (e :: es) [] pos) (tCallS sp (WE W) t) := by
  obtain ⟨f, fd, ps, h1, h2, h3, h4⟩ := c
  exact pe_callS h4 hr hg h1 h2 h3 (fun σ => passAt tk σ) ha hdb he hpl
theorem passR {E : XK} (tk : Takes X fun cls d _ H => E cls d H) : Passes (L2.CX X.prog X.w) X E := passes_call tk fun _ _ _ _ h => h
theorem _root_.L2.Room.units65 {k : Nat} {A : Around} (r : Room k A) : A.units + 65 < cLine := by have := r.un; omega
/-- try: .. except c as n: .. -/
def tTryAs (K : PySem.W.Frag) (c : Addr) (i : Nat) (tb : WX → TS) (ts : Addr → Value → Option Addr → TS) : TS := fun D σ H => tb (wAs K (.ref c) i ts (fun _ _ _ _ => False) D) D σ H
/-- isinstance(e, Y), e the exception that the suite holds, of the class at D -/
def tIsX (D : Addr) (b : Bool) (a : Addr) (cls : Value) (d : Option Addr) (i : Nat) : TE := fun σ H Q => (cls = .ref D ∧ d = none) ∧ σ[i]? = some (some (.ref a)) ∧ Q (.bl b) H
theorem pe_isX {D Y a : Addr} {b : Bool} {oe : Obj} {cls : Value} {d : Option Addr} {pn : List (Addr × Obj)} {i : Nat} {n y : Str} {p1 p2 : Pos} (hD : ExcC X.K D) (hY : PySem.W.kitOne X.K (.ref D) (.ref Y) = some b) (hz : Zc cls d oe) (hf : ∃ vs, oe.data = .fields vs)
    (hg : Gl X "isinstance") (hm : X.mg "isinstance" = none) (hgy : Gl X y) (hmy : X.mg y = some (.ref Y)) (he : PE (X.suite a ((a, oe) :: pn)) (.Name n p1) (tVar i)) (hdb : (y == ("__debug__" : Str)) = false := by decide) :
    PE (X.suite a ((a, oe) :: pn)) (.Call (.Name "isinstance" p) [.Name n p1, .Name y p2] [] pos) (tIsX D b a cls d i) := by
  refine ⟨fun pins s σ H Q I h => ?_⟩
  obtain ⟨⟨rfl, rfl⟩, hv, q⟩ := h
  have z := pe_callB (X := X.suite a ((a, oe) :: pn)) (p := p) (pos := pos) (call_isE hD hz hf) hg hm (by decide +kernel) (pa_cons he (pa_cons (pe_gc (X := X.suite a ((a, oe) :: pn)) (x := y) (pos := p2) (v := .ref Y) hgy ⟨_, hmy, rfl⟩ hdb) pa_nil))
  exact z.run pins s σ H Q I ⟨_, hv, _, .ref Y, b, rfl, fun u hu => hu, hY, q⟩
end
def rStrI : List V → Hp → VK → Prop := fun xs H Q => ∃ i : Int, xs = [.int i] ∧ i.natAbs.log2 < 1920 ∧ Q (.str (toString i)) H
def rIntS : List V → Hp → VK → Prop := fun xs H Q => ∃ (a : Str) (n : Int), xs = [.str a] ∧ PySem.intText? a = some n ∧ a.length ≤ 640 ∧ Q (.int n) H
theorem takes0 {X : Cx} : Takes X (fun _ _ _ _ => False) := fun _ _ ⟨_, _, _, _, _, _, _, _, _, _, _, _, _, _, _, _, h⟩ => h.elim
/-- 'c' * n -/
def repS (x : Str) (n : Int) : Str := ⟨(List.replicate n.toNat x.cps).foldl (· ++ ·) #[]⟩
def rMulS : R2 := fun x y H Q => ∃ (z : Str) (n : Int), x = .str z ∧ y = .int n ∧ z.length = 1 ∧ 2 ≤ n ∧ n ≤ 1000 ∧ (repS z n).length ≤ 1000 ∧ Q (.str (repS z n)) H
theorem op_mulS {X : Cx} : OpR X (binaryOp .Mult) rMulS := by
  intro pins s σ H x y v u Q I rx ry h
  obtain ⟨z, n, rfl, rfl, hz, h2, h3, hl, q⟩ := h
  obtain ⟨t, rfl⟩ := rx
  obtain ⟨t', rfl⟩ := ry
  have hn : ¬ n < 1 := by omega
  have he : (n == 1 || z.length == 0) = false := by
    rw [hz]
    simp
    omega
  refine PySem.P.mul_str (by rw [decide_eq_false (by omega), decide_eq_false (by omega)]; rfl) (fun _ _ => ?_) (fun _ _ => ?_) ?_
  · rw [hz]
    have : (1000 : Int) ≤ (2 ^ 63 - 1) / n := by
      rw [Int.le_ediv_iff_mul_le (by omega)]
      omega
    omega
  · unfold Builtin.Str.tooLong
    rw [hz, sizeLine_eq]
    simp
    omega
  · rw [if_neg hn, if_neg (by rw [he]; exact Bool.false_ne_true)]
    exact ⟨by show (repS z n).length ≤ sizeLine; rw [sizeLine_eq]; omega, .str (repS z n), H, I.tok _, ⟨_, rfl⟩, q⟩
end T9

set_option maxHeartbeats 1000000
/-! KitI: pop -/
namespace T9
open PySem PySem.Spec PyProof.Rows L2
section
variable {K : PySem.W.Frag} {fs : Fm} {tt : TT} {P : Po} {d : PyData} {b : Bool}
theorem et_le {gs : Fm} (l : Le fs gs) (h : EvT K gs tt b) : EvT K fs tt b := fun B H0 H σ F Q q => h B H0 H σ (F.le l) Q q
theorem StabAll.snoc {B H : Hp} : ∀ {ds : List PyData} {vs : List V}, StabAll K B H vs (ds ++ [d]) → ∃ vs0 v, vs = vs0 ++ [v] ∧ StabAll K B H vs0 ds ∧ Stab K B H v d
  | [], vs, h => by
    cases h with
    | cons h1 h2 =>
      cases h2
      exact ⟨[], _, rfl, .nil, h1⟩
  | x :: r, vs, h => by
    cases h with
    | cons h1 h2 =>
      obtain ⟨vs0, v, rfl, k1, k2⟩ := StabAll.snoc h2
      exact ⟨_ :: vs0, v, rfl, .cons h1 k1, k2⟩
theorem pop_at {i : Nat} {a : Addr} {ds : List PyData} (hi : fs[i]? = some (some (.ob a (.lst (ds ++ [d]))))) {B H0 H : Hp} {σ : L2.St} (F : Fr K B H0 H σ fs) (hd : imm d = true) (Q : VK)
    (q : ∀ v H1, Fr K B H0 H1 σ (fs.set i (some (.ob a (.lst ds)))) → Dp K H1 v d → Q v H1) : tBM0 K "list" rPop (tVar i) σ H Q := by
  obtain ⟨h1, h2, vs, h3, h4⟩ := F.own hi
  obtain ⟨vs0, v, rfl, k1, k2⟩ := h4.snoc
  refine ⟨_, h1, .inl ⟨rfl, _, Evl.sq_of h3⟩, a, _, v, rfl, rfl, h3, by simp, ?_⟩
  rw [List.dropLast_concat]
  have ej : Ej H (upd H a (.lst vs0)) := Ej.upd h3 (fun _ e => nomatch e) (fun _ _ e => nomatch e)
  have eb : Ex B (upd H a (.lst vs0)) := F.exB.trans (Evl.Ex.mut F.ex h2)
  exact q v _ (F.put hi ⟨vs0, upd_same, k1.mono ej eb⟩) (dp_ej ej _ _ hd k2.1)
theorem sf_pop {i : Nat} {a : Addr} {ds : List PyData} (hi : fs[i]? = some (some (.ob a (.lst (ds ++ [d]))))) (hd : imm d = true) (k : P.nx (fs.set i (some (.ob a (.lst ds))))) : StF K (tDrop (tBM0 K "list" rPop (tVar i))) fs P := fun B H0 H σ D F n r b c =>
  pop_at hi F hd _ fun v H1 F1 _ => n _ _ _ k F1
/-- group = [xs.pop()] + group -/
theorem sf_popcat {i j : Nat} {a c : Addr} {ds es : List PyData} (hi : fs[i]? = some (some (.ob a (.lst (ds ++ [d]))))) (hj : fs[j]? = some (some (.ob c (.lst es)))) (hij : i ≠ j) (hd : imm d = true) (he : immAll es = true) (hl : es.length < 90000)
    (k : ∀ c', P.nx ((fs.set i (some (.ob a (.lst ds)))).set j (some (.ob c' (.lst (d :: es)))))) : StF K (tAsg (tOp (rAddU K) (tLst (tCons (tBM0 K "list" rPop (tVar i)) tNil)) (tVar j)) (gName j)) fs P := fun B H0 H σ D F n r b c0 => by
  have hj2 : (fs.set i (some (.ob a (.lst ds))))[j]? = some (some (.ob c (.lst es))) := by rw [List.getElem?_set_ne hij]; exact hj
  have hjl : j < (fs.set i (some (.ob a (.lst ds)))).length := (List.getElem?_eq_some_iff.mp hj2).1
  refine pop_at hi F hd _ fun v H1 F1 hv => ?_
  refine ⟨Evl.sz_of (by show 1 ≤ 100000; decide), fun p hp => ?_⟩
  have e2 : Ex H1 (upd H1 p (.lst [v])) := Evl.Ex.new hp
  have F2 := F1.mono e2
  obtain ⟨g1, g2, ys, g3, g4⟩ := F2.own hj2
  refine ⟨_, g1, .inr (.inr (.inl ⟨p, c, [v], ys, rfl, rfl, upd_same, g3, Evl.sz_of (by rw [g4.len]; show 1 + es.length ≤ 100000; omega), fun p2 hp2 => ?_⟩))⟩
  have e3 : Ex (upd H1 p (.lst [v])) (upd (upd H1 p (.lst [v])) p2 (.lst ([v] ++ ys))) := Evl.Ex.new hp2
  refine n _ _ _ (k p2) (F2.setN e3 hjl hp2 ⟨_, upd_same, ?_⟩)
  exact .of (.cons (dp_ex (e2.trans e3) _ _ hv) (dpAll_ex e3 _ _ g4.now)) (by show (imm d && immAll es) = true; rw [hd, he]; rfl)
end
end T9

set_option maxHeartbeats 1000000
/-! KitJ: xs[i] = v on a list of one's own; xs[:i]; 'c' * n -/
namespace T9
open PySem PySem.Spec PyProof.Rows L2
section
variable {K : PySem.W.Frag} {fs : Fm} {te ti : TE} {P : Po} {d : PyData}
theorem sf_setitem {i j : Nat} {a : Addr} {ds : List PyData} {k : Int} (hi : fs[i]? = some (some (.ob a (.lst ds)))) (h : EvC K fs te d) (hd : imm d = true) (hk : EvC K fs ti (.int k)) (hj : ixN ds.length k = some j) (kk : P.nx (fs.set i (some (.ob a (.lst (ds.set j d)))))) :
    StF K (tAsg te (gSub (tVar i) ti rSetL)) fs P := fun B H0 H σ D F n r b c =>
  h B H0 H σ F _ fun v H1 e1 hv => by
    have F1 := F.mono e1
    obtain ⟨h1, h2, vs1, h3, h4⟩ := F1.own hi
    refine ⟨_, h1, hk B H0 H1 σ F1 _ fun iv H2 e2 hiv => ?_⟩
    cases dp_int hiv
    have F2 := F1.mono e2
    obtain ⟨g1, g2, vs, g3, g4⟩ := F2.own hi
    refine ⟨a, vs, k, j, rfl, rfl, g3, by rw [g4.len]; exact hj, n _ _ _ kk (F2.put hi ?_)⟩
    have ej : Ej H2 (upd H2 a (.lst (vs.set j v))) := Ej.upd g3 (fun _ e => nomatch e) (fun _ _ e => nomatch e)
    have eb : Ex B (upd H2 a (.lst (vs.set j v))) := F2.exB.trans (Evl.Ex.mut F2.ex g2)
    exact ⟨_, upd_same, (g4.mono ej eb).set ⟨dp_ej ej _ _ hd (dp_ex e2 _ _ hv), .inl hd⟩ j⟩
theorem cut_take {α : Type} (ds : List α) (n : Nat) : T9.cutD ds none (some (n : Int)) = ds.take n := by
  unfold T9.cutD
  have h1 : HT.sIx ds.length ds.length (some (n : Int)) = min n ds.length := by
    unfold HT.sIx
    simp
    try omega
  have h2 : HT.sIx ds.length 0 none = 0 := rfl
  rw [h1, h2, List.drop_zero, Nat.sub_zero]
  by_cases h : n ≤ ds.length
  · rw [Nat.min_eq_left h]
  · rw [Nat.min_eq_right (by omega), List.take_of_length_le (Nat.le_refl _), List.take_of_length_le (by omega)]
theorem rd_mulS {z : Str} {n : Int} (h1 : z.length = 1) (h2 : 2 ≤ n) (h3 : n ≤ 1000) (h4 : (repS z n).length ≤ 1000) : RD K rMulS (.str z) (.int n) (.str (repS z n)) := fun x y H hx hy Q q => by
  cases dp_str hx
  cases dp_int hy
  exact ⟨z, n, rfl, rfl, h1, h2, h3, h4, q _ H (Evl.Ex.refl H) (.str _)⟩
end
end T9

set_option maxHeartbeats 1000000
/-! what the defs of law_k95 reckon that are law_k94's too -/
namespace T95
open PySem PySem.Spec PyProof.Rows L2 T9 TL
def letters : Str := "abcdefghijklmnopqrstuvwxyz0123456789"
def slash : Str := "/"
def nameOk (z : Str) : Bool := (decide ((1 : Int) ≤ z.length) && decide ((z.length : Int) ≤ 12)) && z.cps.toList.all fun c => decide (c ∈ letters.cps.toList)
def pathOk (z : Str) : Bool := decide (z = "") || (decide (((Txt.split z slash).length : Int) ≤ 6) && (Txt.split z slash).all nameOk)
theorem spl_le (S : List Nat) : ∀ (x : List Nat) (k : Nat) (acc : List Nat), ∀ p ∈ spl S k acc x, p.length ≤ acc.length + x.length
  | [], k, acc, p, h => by
    rw [spl_nil] at h
    rw [List.mem_singleton.mp h]
    exact Nat.le_add_right _ _
  | c :: r, 0, acc, p, h => by
    have h' : p ∈ (if pre S (c :: r) = true then acc :: spl S (S.length - 1) [] r else spl S 0 (acc ++ [c]) r) := h
    by_cases hp : pre S (c :: r) = true
    · rw [if_pos hp] at h'
      rcases List.mem_cons.mp h' with e | e
      · rw [e]
        exact Nat.le_add_right _ _
      · have := spl_le S r _ [] p e
        rw [List.length_nil] at this
        rw [List.length_cons]
        omega
    · rw [if_neg hp] at h'
      have := spl_le S r 0 _ p h'
      rw [List.length_append, List.length_singleton] at this
      rw [List.length_cons]
      omega
  | c :: r, k + 1, acc, p, h => by
    have := spl_le S r k acc p h
    rw [List.length_cons]
    omega
theorem spl_few (S : List Nat) : ∀ (x : List Nat) (k : Nat) (acc : List Nat), (spl S k acc x).length ≤ x.length + 1
  | [], k, acc => by
    rw [spl_nil]
    simp
  | c :: r, 0, acc => by
    show (if pre S (c :: r) = true then acc :: spl S (S.length - 1) [] r else spl S 0 (acc ++ [c]) r).length ≤ _
    by_cases hp : pre S (c :: r) = true
    · rw [if_pos hp, List.length_cons, List.length_cons]
      exact Nat.succ_le_succ (spl_few S r _ [])
    · rw [if_neg hp, List.length_cons]
      exact Nat.le_succ_of_le (spl_few S r _ _)
  | c :: r, k + 1, acc => by
    rw [List.length_cons]
    exact Nat.le_succ_of_le (spl_few S r k acc)
theorem split_tl (z : Str) : (Txt.split z slash).map tl = spl (tl slash) 0 [] (tl z) := split_spl z slash (by decide +kernel) (kind_ok (by decide +kernel))
theorem split_le (z : Str) : ∀ p ∈ Txt.split z slash, p.length ≤ z.length := fun p hp => by
  have h : tl p ∈ spl (tl slash) 0 [] (tl z) := by
    rw [← split_tl]
    exact List.mem_map.mpr ⟨p, hp, rfl⟩
  have := spl_le _ _ _ _ _ h
  rw [len_tl, len_tl]
  simpa using this
theorem split_few (z : Str) : (Txt.split z slash).length ≤ z.length + 1 := by
  have h := spl_few (tl slash) (tl z) 0 []
  rw [← split_tl, List.length_map, ← len_tl] at h
  exact h
inductive Exp where
  | path (p : Str) | num (n : Int) | two (k : Str) (a b : Exp) | three (k : Str) (a b c : Exp) | shift (a : Exp) (o : List Int)
def enc : Exp → PyData
  | .path p => .tuple [.str "path", .str p]
  | .num n => .tuple [.str "number", .int n]
  | .two k a b => .tuple [.str k, enc a, enc b]
  | .three k a b c => .tuple [.str k, enc a, enc b, enc c]
  | .shift a o => .tuple [.str "shift", enc a, .tuple (o.map .int)]
theorem imm_enc : ∀ e, imm (enc e) = true
  | .path p => rfl
  | .num n => rfl
  | .two k a b => by
    show (true && (imm (enc a) && (imm (enc b) && true))) = true
    rw [imm_enc a, imm_enc b]
    rfl
  | .three k a b c => by
    show (true && (imm (enc a) && (imm (enc b) && (imm (enc c) && true)))) = true
    rw [imm_enc a, imm_enc b, imm_enc c]
    rfl
  | .shift a o => by
    show (true && (imm (enc a) && (immAll (o.map .int) && true))) = true
    rw [imm_enc a, immAll_ints]
    rfl
/-- the kinds that mean something else -/
def Free (k : Str) : Prop := k ≠ "path" ∧ k ≠ "number" ∧ k ≠ "shift"
def Good : Exp → Prop
  | .path p => p.length ≤ 80000 ∧ PyData.strOk p = true
  | .num _ => True
  | .two k a b => Free k ∧ Good a ∧ Good b
  | .three k a b c => Free k ∧ Good a ∧ Good b ∧ Good c
  | .shift a o => Good a ∧ o.length ≤ 90000
def parts : Exp → List Exp
  | .path _ => []
  | .num _ => []
  | .two _ a b => [a, b]
  | .three _ a b c => [a, b, c]
  | .shift a _ => [a]
def dep : Exp → Nat
  | .path _ => 1
  | .num _ => 1
  | .two _ a b => 1 + max (dep a) (dep b)
  | .three _ a b c => 1 + max (dep a) (max (dep b) (dep c))
  | .shift a _ => 1 + dep a
theorem dep_pos (e : Exp) : 1 ≤ dep e := by cases e <;> simp only [dep] <;> omega
theorem good_parts {e p : Exp} (h : Good e) (hp : p ∈ parts e) : Good p := by
  cases e <;> simp only [parts, List.mem_cons, List.not_mem_nil, or_false] at hp <;> simp only [Good] at h
  · rcases hp with rfl | rfl
    · exact h.2.1
    · exact h.2.2
  · rcases hp with rfl | rfl | rfl
    · exact h.2.1
    · exact h.2.2.1
    · exact h.2.2.2
  · subst hp
    exact h.1
theorem dep_parts {e p : Exp} (hp : p ∈ parts e) : dep p + 1 ≤ dep e := by
  cases e <;> simp only [parts, List.mem_cons, List.not_mem_nil, or_false] at hp <;> simp only [dep]
  · rcases hp with rfl | rfl <;> omega
  · rcases hp with rfl | rfl | rfl <;> omega
  · subst hp
    omega
theorem parts_few (e : Exp) : (parts e).length ≤ 3 := by cases e <;> simp [parts]
theorem ad_allM {K : PySem.W.Frag} {α : Type} {xs : List α} {p : α → Bool} : AD K (rAll K) [.list (xs.map fun x => .bool (p x))] (.bool (xs.all p)) := by
  have z := ad_all (K := K) (bs := xs.map p)
  rwa [List.map_map, List.all_map] at z
/-! ### the draws -/
def dMix (c : Int) (k : Nat) : Int :=
  let m := (c * 48271 + ((k : Int) + 1) * 69621) % 2147483647
  let m := (m * m + m * 16807 + (k : Int) * 7919) % 2147483629
  (m * m + c + 13 * (k : Int)) % 2147483587
def dStep (c : Int) (s : List Int × Int) (k : Nat) : List Int × Int :=
  if (decide ((10 : Int) ^ 18 ≤ c) && decide (0 < s.2)) = true then (s.1 ++ [s.2 % 4096], s.2 / 4096) else (s.1 ++ [dMix c k / 7 % 4096], s.2)
def dSt (c : Int) (n : Nat) : List Int × Int := (List.range n).foldl (dStep c) ([], c)
theorem dSt_succ (c : Int) (n : Nat) : dSt c (n + 1) = dStep c (dSt c n) n := by
  unfold dSt
  rw [List.range_succ, List.foldl_append]
  rfl
def Lo (xs : List Int) : Prop := ∀ x ∈ xs, 0 ≤ x ∧ x < 4096
theorem Lo.app {xs ys : List Int} (h : Lo xs) (g : Lo ys) : Lo (xs ++ ys) := fun x hx => (List.mem_append.mp hx).elim (h x) (g x)
theorem Lo.one (x : Int) : Lo [x % 4096] := fun y hy => by
  rw [List.mem_singleton.mp hy]
  omega
theorem dSt_ok (c : Int) : ∀ n, (dSt c n).1.length = n ∧ Lo (dSt c n).1
  | 0 => ⟨rfl, fun x hx => absurd hx List.not_mem_nil⟩
  | n + 1 => by
    obtain ⟨h1, h2⟩ := dSt_ok c n
    rw [dSt_succ]
    unfold dStep
    split
    · exact ⟨by simp [h1], h2.app (Lo.one _)⟩
    · exact ⟨by simp [h1], h2.app (Lo.one _)⟩
def cell (sc : List Int) (k : Nat) : Int := if h : k < sc.length then sc[k] else 0
def sSt (sc : List Int) (n : Nat) : List Int := (List.range n).foldl (fun acc k => acc ++ (dSt (cell sc k + 7 * (k : Int)) 16).1) []
theorem sSt_succ (sc : List Int) (n : Nat) : sSt sc (n + 1) = sSt sc n ++ (dSt (cell sc n + 7 * (n : Int)) 16).1 := by
  unfold sSt
  rw [List.range_succ, List.foldl_append]
  rfl
theorem sSt_ok (sc : List Int) : ∀ n, (sSt sc n).length = 16 * n ∧ Lo (sSt sc n)
  | 0 => ⟨rfl, fun x hx => absurd hx List.not_mem_nil⟩
  | n + 1 => by
    obtain ⟨h1, h2⟩ := sSt_ok sc n
    obtain ⟨g1, g2⟩ := dSt_ok (cell sc n + 7 * (n : Int)) 16
    rw [sSt_succ]
    exact ⟨by rw [List.length_append, h1, g1]; omega, h2.app g2⟩
def draws (sc : List Int) : List Int := (sSt sc 4).take 48
structure Dr (D : List Int) : Prop where
  len : D.length = 48
  lo : Lo D
theorem draws_ok (sc : List Int) : Dr (draws sc) := by
  obtain ⟨h1, h2⟩ := sSt_ok sc 4
  exact ⟨by unfold draws; rw [List.length_take, h1]; rfl, fun x hx => h2 x (List.mem_of_mem_take hx)⟩
def at_ (D : List Int) (i : Int) : Int := (D[(i % 48).toNat]?).getD 0
theorem at_lo {D : List Int} (h : Dr D) (i : Int) : 0 ≤ at_ D i ∧ at_ D i < 4096 := by
  unfold at_
  cases e : D[(i % 48).toNat]? with
  | none => exact ⟨Int.le_refl _, (by decide)⟩
  | some x => exact h.lo x (List.mem_of_getElem? e)
theorem at_get {D : List Int} (h : Dr D) (i : Int) : atI (D.map PyData.int) (i % 48) = some (.int (at_ D i)) := by
  have h1 : (i % 48).toNat < D.length := by
    rw [h.len]
    omega
  unfold atI ixN
  rw [if_pos (by omega), if_pos (by rw [List.length_map, h.len]; omega)]
  show (D.map PyData.int)[(i % 48).toNat]? = _
  rw [List.getElem?_map]
  unfold at_
  rw [List.getElem?_eq_getElem h1]
  rfl
theorem at_get0 {D : List Int} (h : Dr D) {i : Int} (hi : i % 48 = i) : atI (D.map PyData.int) i = some (.int (at_ D i)) := by
  have z := at_get h i
  rwa [hi] at z
/-! ### texts -/
theorem strOk_iff {x : Str} : PyData.strOk x = true ↔ ∀ c ∈ tl x, c < 0x110000 := by
  unfold PyData.strOk tl
  rw [Array.all_eq_true']
  exact ⟨fun h c hc => of_decide_eq_true (h c (Array.mem_toList_iff.mp hc)), fun h c hc => decide_eq_true (h c (Array.mem_toList_iff.mpr hc))⟩
theorem len_app (x y : Str) : (x ++ y).length = x.length + y.length := by rw [len_tl, tl_append, List.length_append, ← len_tl, ← len_tl]
theorem ok_app {x y : Str} (h : PyData.strOk x = true) (g : PyData.strOk y = true) : PyData.strOk (x ++ y) = true := strOk_iff.mpr fun c hc => by
  rw [tl_append] at hc
  exact (List.mem_append.mp hc).elim (strOk_iff.mp h c) (strOk_iff.mp g c)
theorem ok_cut {x : Str} (h : PyData.strOk x = true) (lo hi : Option Int) : PyData.strOk (cutS x lo hi) = true := strOk_iff.mpr fun c hc => by
  have hc' : c ∈ (x.cps.toList.drop (HT.sIx x.length 0 lo)).take (HT.sIx x.length x.length hi - HT.sIx x.length 0 lo) := hc
  exact strOk_iff.mp h c (List.mem_of_mem_drop (List.mem_of_mem_take hc'))
theorem joinL_le {S : List Nat} {B : Nat} : ∀ {ps : List (List Nat)}, (∀ p ∈ ps, p.length ≤ B) → (joinL S ps).length ≤ ps.length * (B + S.length)
  | [], _ => Nat.zero_le _
  | [p], h => by
    have := h p (List.mem_cons_self ..)
    show p.length ≤ 1 * (B + S.length)
    omega
  | p :: q :: r, h => by
    have h1 := h p (List.mem_cons_self ..)
    have h2 := joinL_le (S := S) (B := B) (ps := q :: r) fun z hz => h z (List.mem_cons_of_mem _ hz)
    show (p ++ (S ++ joinL S (q :: r))).length ≤ (r.length + 1 + 1) * (B + S.length)
    rw [List.length_append, List.length_append, Nat.succ_mul]
    rw [List.length_cons] at h2
    omega
theorem joinL_mem {S : List Nat} {c : Nat} : ∀ {ps : List (List Nat)}, c ∈ joinL S ps → c ∈ S ∨ ∃ p ∈ ps, c ∈ p
  | [], h => absurd h List.not_mem_nil
  | [p], h => Or.inr ⟨p, List.mem_cons_self .., h⟩
  | p :: q :: r, h => by
    rcases List.mem_append.mp h with h | h
    · exact Or.inr ⟨p, List.mem_cons_self .., h⟩
    · rcases List.mem_append.mp h with h | h
      · exact Or.inl h
      · rcases joinL_mem h with h | ⟨z, hz, h⟩
        · exact Or.inl h
        · exact Or.inr ⟨z, List.mem_cons_of_mem _ hz, h⟩
theorem join_le {x : Str} {ys : List Str} {B : Nat} (h : ∀ y ∈ ys, y.length ≤ B) : (Txt.join x ys).length ≤ ys.length * (B + x.length) := by
  rw [join_eq, len_tl, tl_join, len_tl x]
  have z := joinL_le (S := tl x) (B := B) (ps := ys.map tl) fun p hp => by
    obtain ⟨y, hy, rfl⟩ := List.mem_map.mp hp
    rw [← len_tl]
    exact h y hy
  rwa [List.length_map] at z
theorem ok_join {x : Str} {ys : List Str} (h : PyData.strOk x = true) (g : ∀ y ∈ ys, PyData.strOk y = true) : PyData.strOk (Txt.join x ys) = true := strOk_iff.mpr fun c hc => by
  rw [join_eq, tl_join] at hc
  rcases joinL_mem hc with hc | ⟨p, hp, hc⟩
  · exact strOk_iff.mp h c hc
  · obtain ⟨y, hy, rfl⟩ := List.mem_map.mp hp
    exact strOk_iff.mp (g y hy) c hc
def nthC (z : Str) (i : Int) : Nat := z.cps.toList.getD i.toNat 97
theorem nthC_get {z : Str} {i : Int} (h0 : 0 ≤ i) (h1 : i < z.cps.toList.length) : atI z.cps.toList i = some (nthC z i) := by
  have h2 : i.toNat < z.cps.toList.length := by omega
  unfold atI ixN nthC
  rw [if_pos h0, if_pos h1]
  show z.cps.toList[i.toNat]? = _
  rw [List.getD_eq_getElem?_getD, List.getElem?_eq_getElem h2]
  rfl
theorem nthC_ok {z : Str} (h : PyData.strOk z = true) (i : Int) : PyData.strOk ⟨#[nthC z i]⟩ = true := strOk_iff.mpr fun c hc => by
  have hc' : c ∈ [nthC z i] := hc
  rw [List.mem_singleton.mp hc']
  unfold nthC
  rw [List.getD_eq_getElem?_getD]
  cases e : z.cps.toList[i.toNat]? with
  | none => show (97 : Nat) < 1114112; decide
  | some c => exact strOk_iff.mp h c (List.mem_of_getElem? e)
def nth {α : Type} (xs : List α) (i : Int) (d : α) : α := xs.getD i.toNat d
theorem nth_get {α : Type} {f : α → PyData} {xs : List α} {i : Int} {d : α} (h0 : 0 ≤ i) (h1 : i < xs.length) : atI (xs.map f) i = some (f (nth xs i d)) := by
  have h2 : i.toNat < xs.length := by omega
  unfold atI ixN nth
  rw [if_pos h0, if_pos (by rw [List.length_map]; exact h1)]
  show (xs.map f)[i.toNat]? = _
  rw [List.getElem?_map, List.getD_eq_getElem?_getD, List.getElem?_eq_getElem h2]
  rfl
theorem nth_mem {α : Type} {xs : List α} {i : Int} {d : α} (h0 : 0 ≤ i) (h1 : i < xs.length) : nth xs i d ∈ xs := by
  have h2 : i.toNat < xs.length := by omega
  unfold nth
  rw [List.getD_eq_getElem?_getD, List.getElem?_eq_getElem h2]
  exact List.getElem_mem h2
def numOk (n : Int) : Bool := decide (-1000000000000000000000000000000 < n) && decide (n < 1000000000000000000000000000000)
def pairs : List Str := ["add", "sub", "mul", "min", "max", "less"]
def kindOk (k : Str) : Bool := decide (k ∈ pairs) || decide (k ∈ (["pick", "shift"] : List Str))
def valid : Exp → Bool
  | .path p => pathOk p
  | .num n => numOk n
  | .two k a b => kindOk k && (valid a && (valid b && true))
  | .three k a b c => kindOk k && (valid a && (valid b && (valid c && true)))
  | .shift a o => o.all numOk && (valid a && true)
def draw (D : List Int) (a : Int) : Int := at_ D a + 31 * a
def leaf (w : Int) : Exp :=
  if w / 5 % 3 = 0 then .num (nth [w / 15 % 9 - 4, 100000000000000000000000000000 - w, -100000000000000000000 + w] (w / 135 % 3) 0) else .path (nth ["a", "b", "b/c"] (w / 15 % 3) "a")
def kinds : List Str := ["add", "sub", "mul", "min", "max", "less", "add"]
def offs (D : List Int) (dm : Nat) (a : Int) : List Int := (List.range dm).map fun k => at_ D (a + 5 + (k : Nat)) % 5 - 2
def expr (D : List Int) (dm : Nat) : Nat → Int → Exp
  | 0, a => leaf (draw D a)
  | d + 1, a => if draw D a % 5 = 0 then leaf (draw D a) else
    if draw D a / 5 % 9 = 7 then .three "pick" (expr D dm d (3 * a + 1 + 0)) (expr D dm d (3 * a + 1 + 1)) (expr D dm d (3 * a + 1 + 2))
    else if draw D a / 5 % 9 = 8 then .shift (expr D dm d (3 * a + 1 + 0)) (offs D dm a)
    else .two (nth kinds (draw D a / 5 % 9) "add") (expr D dm d (3 * a + 1 + 0)) (expr D dm d (3 * a + 1 + 1))
def bnd : Nat → Int | 3 => 1 | 2 => 6 | 1 => 21 | _ => 66
theorem kinds_all {P : Str → Prop} (h : P "add" ∧ P "sub" ∧ P "mul" ∧ P "min" ∧ P "max" ∧ P "less") {k : Str} (hk : k ∈ kinds) : P k := by
  simp only [kinds, List.mem_cons, List.not_mem_nil, or_false] at hk
  obtain ⟨h1, h2, h3, h4, h5, h6⟩ := h
  rcases hk with rfl | rfl | rfl | rfl | rfl | rfl | rfl <;> assumption
theorem kinds_ok {k : Str} (hk : k ∈ kinds) : kindOk k = true ∧ Free k := kinds_all (P := fun k => kindOk k = true ∧ Free k) (by unfold Free; decide +kernel) hk
theorem offs_ok {D : List Int} {dm : Nat} (h : Dr D) (a : Int) : (offs D dm a).all numOk = true := by
  rw [List.all_eq_true]
  intro x hx
  obtain ⟨k, _, rfl⟩ := List.mem_map.mp hx
  unfold numOk
  rw [decide_eq_true (by omega), decide_eq_true (by omega)]
  rfl
theorem leaf_ok {D : List Int} (h : Dr D) {a : Int} (h0 : 0 ≤ a) (h1 : a ≤ 66) : valid (leaf (draw D a)) = true := by
  have hw : 0 ≤ draw D a ∧ draw D a ≤ 10000 := by
    have := at_lo h a
    unfold draw
    omega
  generalize draw D a = w at hw
  unfold leaf
  split
  · have hm := nth_mem (xs := [w / 15 % 9 - 4, 100000000000000000000000000000 - w, -100000000000000000000 + w]) (i := w / 135 % 3) (d := 0) (by omega) (by show w / 135 % 3 < ((3 : Nat) : Int); omega)
    generalize nth [w / 15 % 9 - 4, 100000000000000000000000000000 - w, -100000000000000000000 + w] (w / 135 % 3) 0 = x at hm
    show numOk x = true
    simp only [List.mem_cons, List.not_mem_nil, or_false] at hm
    unfold numOk
    rw [decide_eq_true (by omega), decide_eq_true (by omega)]
    rfl
  · have hm := nth_mem (xs := (["a", "b", "b/c"] : List Str)) (i := w / 15 % 3) (d := "a") (by omega) (by show w / 15 % 3 < ((3 : Nat) : Int); omega)
    generalize nth (["a", "b", "b/c"] : List Str) (w / 15 % 3) "a" = x at hm
    show pathOk x = true
    simp only [List.mem_cons, List.not_mem_nil, or_false] at hm
    rcases hm with rfl | rfl | rfl <;> decide +kernel
theorem valid_expr {D : List Int} {dm : Nat} (h : Dr D) : ∀ (d : Nat) (a : Int), d ≤ 3 → 0 ≤ a → a ≤ bnd d → valid (expr D dm d a) = true
  | 0, a, _, h0, h1 => leaf_ok h h0 h1
  | d + 1, a, hd, h0, h1 => by
    have hb : ∀ k : Int, 0 ≤ k → k ≤ 2 → 3 * a + 1 + k ≤ bnd d := fun k hk hk2 => by
      match d, hd with
      | 0, _ => simp only [bnd] at h1 ⊢; omega
      | 1, _ => simp only [bnd] at h1 ⊢; omega
      | 2, _ => simp only [bnd] at h1 ⊢; omega
    have ih : ∀ k : Int, 0 ≤ k → k ≤ 2 → valid (expr D dm d (3 * a + 1 + k)) = true := fun k hk hk2 => valid_expr h d _ (by omega) (by omega) (hb k hk hk2)
    have h66 : a ≤ 66 := by
      match d, hd with
      | 0, _ => simp only [bnd] at h1; omega
      | 1, _ => simp only [bnd] at h1; omega
      | 2, _ => simp only [bnd] at h1; omega
    unfold expr
    split
    · exact leaf_ok h h0 h66
    · rename_i hw
      split
      · simp only [valid]
        rw [ih 0 (by omega) (by omega), ih 1 (by omega) (by omega), ih 2 (by omega) (by omega)]
        decide +kernel
      · split
        · simp only [valid]
          rw [ih 0 (by omega) (by omega), offs_ok (dm := dm) h]
          rfl
        · simp only [valid]
          rw [ih 0 (by omega) (by omega), ih 1 (by omega) (by omega), (kinds_ok (nth_mem (by omega) (by show draw D a / 5 % 9 < ((7 : Nat) : Int); omega))).1]
          rfl
end T95

set_option maxHeartbeats 1000000
/-! the two parsers agree -/
namespace T95
open PySem PySem.Spec PyProof.Rows L2 T9 TL
/-! ### words -/
def isAt (w : Str) : Bool := decide (cutS w none (some 1) = "@")
def rest (w : Str) : Str := cutS w (some 1) none
def digs (w : Str) : Str := if cutS w none (some 1) = "-" then rest w else w
def digits : Str := "0123456789"
def intWord (w : Str) : Bool := ((decide (1 ≤ (digs w).length) && decide ((digs w).length ≤ 30)) && (digs w).cps.toList.all fun c => decide (c ∈ digits.cps.toList)) && (decide (w = "0") || !decide ((⟨#[nthC (digs w) 0]⟩ : Str) = "0"))
def intOf (w : Str) : Int := (intText? w).getD 0
/-- a text's first sign -/
theorem cut1 (w : Str) : cutS w none (some 1) = ⟨(w.cps.toList.take 1).toArray⟩ := by
  unfold cutS
  congr 2
  show List.take (HT.sIx w.length w.length (some 1) - HT.sIx w.length 0 none) (List.drop 0 _) = _
  have h0 : HT.sIx w.length 0 none = 0 := rfl
  rw [h0, List.drop_zero, Nat.sub_zero]
  have h1 : HT.sIx w.length w.length (some 1) = min 1 w.length := by
    unfold HT.sIx
    simp
    try omega
  rw [h1]
  have hl : w.length = w.cps.toList.length := by rw [Array.length_toList]; rfl
  rw [hl]
  cases w.cps.toList with
  | nil => rfl
  | cons c r => simp
theorem cut_from1 (w : Str) : cutS w (some 1) none = ⟨(w.cps.toList.drop 1).toArray⟩ := by
  unfold cutS
  congr 1
  have h0 : HT.sIx w.length w.length none = w.length := rfl
  have h1 : HT.sIx w.length 0 (some 1) = min 1 w.length := by
    unfold HT.sIx
    simp
    try omega
  rw [h0, h1]
  have hl : w.length = w.cps.toList.length := by rw [Array.length_toList]; rfl
  rw [hl]
  cases w.cps.toList with
  | nil => rfl
  | cons c r => simp
theorem str_tl {a b : Str} (h : tl a = tl b) : a = b := by
  cases a
  cases b
  simp only [tl] at h
  rw [Array.toList_inj.mp h]
theorem isAt_iff {w : Str} : isAt w = true ↔ ∃ r, tl w = 64 :: r := by
  unfold isAt
  rw [decide_eq_true_eq, cut1]
  constructor
  · intro h
    have h2 : w.cps.toList.take 1 = [64] := congrArg tl h
    cases e : w.cps.toList with
    | nil => rw [e] at h2; cases h2
    | cons c r =>
      rw [e] at h2
      simp at h2
      exact ⟨r, by rw [show tl w = w.cps.toList from rfl, e, h2]⟩
  · rintro ⟨r, h⟩
    have h' : w.cps.toList = 64 :: r := h
    rw [h']
    rfl
theorem minus_iff {w : Str} : cutS w none (some 1) = "-" ↔ ∃ r, tl w = 45 :: r := by
  rw [cut1]
  constructor
  · intro h
    have h2 : w.cps.toList.take 1 = [45] := congrArg tl h
    cases e : w.cps.toList with
    | nil => rw [e] at h2; cases h2
    | cons c r =>
      rw [e] at h2
      simp at h2
      exact ⟨r, by rw [show tl w = w.cps.toList from rfl, e, h2]⟩
  · rintro ⟨r, h⟩
    have h' : w.cps.toList = 45 :: r := h
    rw [h']
    rfl
theorem tl_rest (w : Str) : tl (rest w) = (tl w).drop 1 := by
  unfold rest
  rw [cut_from1]
theorem mem_digits {c : Nat} : c ∈ digits.cps.toList ↔ 48 ≤ c ∧ c ≤ 57 := by
  have e : digits.cps.toList = [48, 49, 50, 51, 52, 53, 54, 55, 56, 57] := by decide +kernel
  rw [e]
  simp only [List.mem_cons, List.not_mem_nil, or_false]
  omega
structure IntW (w : Str) : Prop where
  val : intText? w = some (intOf w)
  len : w.length ≤ 31
  ok : numOk (intOf w) = true
  sign : ∀ c ∈ tl w, c = 45 ∨ (48 ≤ c ∧ c ≤ 57)
  ne : tl w ≠ []
theorem digitsVal_lt : ∀ {cs : List Nat}, NumText.AllDigits cs → NumText.digitsVal cs < 10 ^ cs.length := by
  have key : ∀ (cs : List Nat) (k : Nat), NumText.AllDigits cs → cs.foldl (fun t c => t * 10 + (c - 48)) k < (k + 1) * 10 ^ cs.length := by
    intro cs
    induction cs with
    | nil => intro k _; simp
    | cons c r ih =>
      intro k h
      have hc := h c (List.mem_cons_self ..)
      have := ih (k * 10 + (c - 48)) fun x hx => h x (List.mem_cons_of_mem _ hx)
      rw [List.foldl_cons, List.length_cons, Nat.pow_succ]
      refine Nat.lt_of_lt_of_le this ?_
      rw [Nat.mul_comm (10 ^ r.length) 10, ← Nat.mul_assoc]
      exact Nat.mul_le_mul_right _ (by omega)
  intro cs h
  have z := key cs 0 h
  first
    | simpa [NumText.digitsVal] using z
    | exact z
theorem intW {w : Str} (h : intWord w = true) : IntW w := by
  unfold intWord at h
  rw [Bool.and_eq_true, Bool.and_eq_true, Bool.and_eq_true, decide_eq_true_eq, decide_eq_true_eq, List.all_eq_true] at h
  obtain ⟨⟨⟨h1, h2⟩, h3⟩, _⟩ := h
  have h3' : ∀ c ∈ tl (digs w), 48 ≤ c ∧ c ≤ 57 := fun c hc => mem_digits.mp (of_decide_eq_true (h3 c hc))
  have hp : (10 : Nat) ^ 30 = 1000000000000000000000000000000 := by decide
  have bnd : ∀ cs : List Nat, NumText.AllDigits cs → cs.length ≤ 30 → NumText.digitsVal cs < 1000000000000000000000000000000 := fun cs hd hl => by
    rw [← hp]
    exact Nat.lt_of_lt_of_le (digitsVal_lt hd) (Nat.pow_le_pow_right (by decide) hl)
  by_cases hm : cutS w none (some 1) = "-"
  · have ed : digs w = rest w := if_pos hm
    rw [ed] at h1 h2 h3'
    obtain ⟨r, hr⟩ := minus_iff.mp hm
    have er : tl (rest w) = r := by rw [tl_rest, hr]; rfl
    rw [len_tl, er] at h1 h2
    rw [er] at h3'
    have hl : w.length ≤ 31 := by
      rw [len_tl, hr, List.length_cons]
      omega
    have hv := PySem.intText_neg hr h3' (by intro e; rw [e] at h1; simp at h1) (by omega)
    have eo : intOf w = -((NumText.digitsVal r : Nat) : Int) := by unfold intOf; rw [hv]; rfl
    have hb := bnd r h3' h2
    refine ⟨by rw [hv, eo], hl, ?_, fun c hc => ?_, by rw [hr]; simp⟩
    · rw [eo]
      unfold numOk
      rw [decide_eq_true (by omega), decide_eq_true (by omega)]
      rfl
    · rw [hr] at hc
      rcases List.mem_cons.mp hc with e | e
      · exact Or.inl e
      · exact Or.inr (h3' c e)
  · have ed : digs w = w := if_neg hm
    rw [ed] at h1 h2 h3'
    rw [len_tl] at h1 h2
    have hne : tl w ≠ [] := by
      intro e
      rw [e] at h1
      simp at h1
    have hv : intText? w = some ((NumText.digitsVal (tl w) : Nat) : Int) := PySem.intText_digits h3' hne (by rw [len_tl]; omega)
    have eo : intOf w = ((NumText.digitsVal (tl w) : Nat) : Int) := by unfold intOf; rw [hv]; rfl
    have hb := bnd (tl w) h3' h2
    refine ⟨by rw [hv, eo], by rw [len_tl]; omega, ?_, fun c hc => Or.inr (h3' c hc), hne⟩
    rw [eo]
    unfold numOk
    rw [decide_eq_true (by omega), decide_eq_true (by omega)]
    rfl
theorem int_not {w : Str} (h : intWord w = true) : isAt w = false ∧ w ≠ "(" ∧ w ≠ ")" ∧ w ≠ "" := by
  obtain ⟨_, _, _, hs, hne⟩ := intW h
  refine ⟨?_, fun e => ?_, fun e => ?_, fun e => ?_⟩
  · cases ha : isAt w with
    | false => rfl
    | true =>
      obtain ⟨r, hr⟩ := isAt_iff.mp ha
      have := hs 64 (by rw [hr]; exact List.mem_cons_self ..)
      omega
  · subst e
    have := hs 40 (by decide +kernel)
    omega
  · subst e
    have := hs 41 (by decide +kernel)
    omega
  · subst e
    exact hne rfl
end T95

set_option maxHeartbeats 1000000
namespace T95
open PySem PySem.Spec PyProof.Rows L2 T9 TL
/-! ### the grammar -/
inductive Der : List Str → Exp → Prop
  | path {w : Str} : isAt w = true → Der [w] (.path (rest w))
  | num {w : Str} : intWord w = true → Der [w] (.num (intOf w))
  | two {k : Str} {ta tb : List Str} {a b : Exp} : k ∈ pairs → Der ta a → Der tb b → Der (("(" : Str) :: k :: (ta ++ (tb ++ [(")" : Str)]))) (.two k a b)
  | three {ta tb tc : List Str} {a b c : Exp} : Der ta a → Der tb b → Der tc c → Der (("(" : Str) :: "pick" :: (ta ++ (tb ++ (tc ++ [(")" : Str)])))) (.three "pick" a b c)
  | shift {ta os : List Str} {a : Exp} : Der ta a → (∀ o ∈ os, intWord o = true) → Der (("(" : Str) :: "shift" :: (ta ++ (os ++ [(")" : Str)]))) (.shift a (os.map intOf))
def pvE : Exp → Bool
  | .path p => pathOk p
  | .num _ => true
  | .two _ a b => pvE a && pvE b
  | .three _ a b c => pvE a && (pvE b && pvE c)
  | .shift a _ => pvE a
theorem pairs_kind {k : Str} (h : k ∈ pairs) : kindOk k = true := by
  unfold kindOk
  rw [decide_eq_true h]
  rfl
theorem pairs_not {k : Str} (h : k ∈ pairs) : k ≠ "(" ∧ k ≠ ")" ∧ k ≠ "shift" ∧ k ≠ "pick" ∧ k ≠ "" ∧ Free k := by
  simp only [pairs, List.mem_cons, List.not_mem_nil, or_false] at h
  rcases h with rfl | rfl | rfl | rfl | rfl | rfl <;> (unfold Free; decide +kernel)
theorem der_valid {ts : List Str} {e : Exp} (h : Der ts e) : valid e = pvE e := by
  induction h with
  | path _ => rfl
  | num h => exact (intW h).ok
  | two hk _ _ ia ib =>
    show (kindOk _ && (valid _ && (valid _ && true))) = (pvE _ && pvE _)
    rw [pairs_kind hk, ia, ib, Bool.true_and, Bool.and_true]
  | three _ _ _ ia ib ic =>
    show (kindOk "pick" && (valid _ && (valid _ && (valid _ && true)))) = (pvE _ && (pvE _ && pvE _))
    rw [show kindOk "pick" = true by decide +kernel, ia, ib, ic, Bool.true_and, Bool.and_true]
  | shift _ ho ia =>
    rename_i os a _
    show ((os.map intOf).all numOk && (valid a && true)) = pvE a
    rw [show (os.map intOf).all numOk = true by
      rw [List.all_map, List.all_eq_true]
      exact fun o h => (intW (ho o h)).ok, ia, Bool.true_and, Bool.and_true]
theorem der_dep {ts : List Str} {e : Exp} (h : Der ts e) : dep e ≤ 1 + ts.count ("(" : Str) := by
  induction h with
  | path _ => exact Nat.le_add_right 1 _
  | num _ => exact Nat.le_add_right 1 _
  | two hk _ _ ia ib =>
    simp only [dep, List.count_cons, List.count_append, beq_self_eq_true, if_true]
    omega
  | three _ _ _ ia ib ic =>
    simp only [dep, List.count_cons, List.count_append, beq_self_eq_true, if_true]
    omega
  | shift _ _ ia =>
    simp only [dep, List.count_cons, List.count_append, beq_self_eq_true, if_true]
    omega
/-! ### the law's stack -/
inductive Item where
  | w (s : Str) | t (e : Exp)
def encI : Item → PyData
  | .w s => .str s
  | .t e => enc e
def isOpen : Item → Bool
  | .w s => decide (s = "(")
  | .t _ => false
def atomW (s : Str) : Option Exp := if isAt s = true then (if pathOk (rest s) = true then some (.path (rest s)) else none) else (if intWord s = true then some (.num (intOf s)) else none)
def atom : Item → Option Exp
  | .t e => some e
  | .w s => atomW s
def atoms : List Item → Option (List Exp)
  | [] => some []
  | i :: r => match atom i, atoms r with
    | some e, some es => some (e :: es)
    | _, _ => none
def numOfE : Exp → Int
  | .num n => n
  | _ => 0
def badOff : Item → Bool
  | .t _ => true
  | .w s => isAt s
def mkE (k : Str) : List Exp → Option Exp
  | [a, b] => if k ∈ pairs then some (.two k a b) else none
  | [a, b, c] => if k = "pick" then some (.three k a b c) else none
  | _ => none
def mkShift : List Exp → List Item → Option Exp
  | [], _ => none
  | a :: os, its => if (its.drop 1).any badOff = true then none else some (.shift a (os.map numOfE))
def grouped : List Item → Option Exp
  | [] => none
  | .t _ :: _ => none
  | .w k :: its => match atoms its with
    | none => none
    | some ps => if k = "shift" then mkShift ps its else mkE k ps
/-- the items above the last open sign; the stack's top comes first -/
def popG : List Item → List Item → List Item × List Item
  | [], g => ([], g)
  | i :: r, g => if isOpen i = true then (i :: r, g) else popG r (i :: g)
def pstep (rs : List Item) (tok : Str) : Option (List Item) :=
  if tok = "(" then some (.w ("(" : Str) :: rs) else if tok = ")" then (match popG rs [] with
    | ([], _) => none
    | (_ :: r, g) => match grouped g with
      | none => none
      | some e => some (.t e :: r)) else some (.w tok :: rs)
def prun : List Item → List Str → Option (List Item)
  | rs, [] => some rs
  | rs, t :: ts => match pstep rs t with
    | none => none
    | some rs' => prun rs' ts
def due0 (ts : List Str) : Option Exp := match prun [] ts with
  | some [i] => if isOpen i = true then none else atom i
  | _ => none
theorem prun_word {rs : List Item} {w : Str} {ts : List Str} (h1 : w ≠ "(") (h2 : w ≠ ")") : prun rs (w :: ts) = prun (.w w :: rs) ts := by
  show (match pstep rs w with | none => none | some rs' => prun rs' ts) = _
  unfold pstep
  rw [if_neg h1, if_neg h2]
theorem prun_open {rs : List Item} {ts : List Str} : prun rs (("(" : Str) :: ts) = prun (.w ("(" : Str) :: rs) ts := rfl
theorem prun_words : ∀ {os : List Str} {rs : List Item} {ts : List Str}, (∀ o ∈ os, intWord o = true) → prun rs (os ++ ts) = prun ((os.map Item.w).reverse ++ rs) ts
  | [], _, _, _ => rfl
  | o :: os, rs, ts, h => by
    have ho := int_not (h o (List.mem_cons_self ..))
    rw [List.cons_append, prun_word ho.2.1 ho.2.2.1, prun_words fun x hx => h x (List.mem_cons_of_mem _ hx)]
    simp
theorem popG_app : ∀ {is : List Item} {rs g : List Item}, (∀ i ∈ is, isOpen i = false) → popG (is ++ (.w ("(" : Str) :: rs)) g = (.w ("(" : Str) :: rs, is.reverse ++ g)
  | [], _, _, _ => rfl
  | i :: is, rs, g, h => by
    show (if isOpen i = true then _ else popG (is ++ _) (i :: g)) = _
    rw [if_neg (by rw [h i (List.mem_cons_self ..)]; exact Bool.false_ne_true), popG_app fun x hx => h x (List.mem_cons_of_mem _ hx)]
    simp
theorem prun_close {is rs g : List Item} {ts : List Str} {e : Exp} (h : ∀ i ∈ is, isOpen i = false) (hg : is.reverse = g) (he : grouped g = some e) : prun (is ++ (.w ("(" : Str) :: rs)) (")" :: ts) = prun (.t e :: rs) ts := by
  show (match pstep (is ++ (.w ("(" : Str) :: rs)) ")" with | none => none | some rs' => prun rs' ts) = _
  unfold pstep
  rw [if_neg (by decide +kernel), if_pos rfl, popG_app h, List.append_nil, hg]
  show (match (match grouped g with | none => none | some e => some (.t e :: rs)) with | none => none | some rs' => prun rs' ts) = _
  rw [he]
theorem word_open {k : Str} (h : k ≠ "(") : isOpen (.w k) = false := decide_eq_false h
theorem at_not {w : Str} (h : isAt w = true) : w ≠ "(" ∧ w ≠ ")" ∧ w ≠ "" := by
  obtain ⟨r, hr⟩ := isAt_iff.mp h
  refine ⟨fun e => ?_, fun e => ?_, fun e => ?_⟩
  · rw [e, show tl ("(" : Str) = [40] by decide +kernel] at hr
    cases hr
  · rw [e, show tl (")" : Str) = [41] by decide +kernel] at hr
    cases hr
  · rw [e, show tl ("" : Str) = [] by decide +kernel] at hr
    cases hr
theorem atoms_ints : ∀ {os : List Str}, (∀ o ∈ os, intWord o = true) → atoms (os.map Item.w) = some (os.map fun o => .num (intOf o)) ∧ (os.map Item.w).any badOff = false
  | [], _ => ⟨rfl, rfl⟩
  | o :: os, h => by
    have ho := h o (List.mem_cons_self ..)
    obtain ⟨i1, i2⟩ := atoms_ints (os := os) fun x hx => h x (List.mem_cons_of_mem _ hx)
    have ha : isAt o = false := (int_not ho).1
    constructor
    · show (match atomW o, atoms (os.map Item.w) with | some e, some es => some (e :: es) | _, _ => none) = _
      rw [i1, show atomW o = some (.num (intOf o)) by unfold atomW; rw [if_neg (by rw [ha]; exact Bool.false_ne_true), if_pos ho]]
      rfl
    · show (isAt o || (os.map Item.w).any badOff) = false
      rw [ha, i2]
      rfl
/-- what the grammar derives, the stack takes -/
theorem der_run {ts : List Str} {e : Exp} (h : Der ts e) : pvE e = true → ∃ i, atom i = some e ∧ isOpen i = false ∧ ∀ rs us, prun rs (ts ++ us) = prun (i :: rs) us := by
  induction h with
  | path h =>
    rename_i w
    intro hp
    obtain ⟨h1, h2, _⟩ := at_not h
    exact ⟨.w w, by show atomW w = _; unfold atomW; rw [if_pos h, if_pos (show pathOk (rest w) = true from hp)], word_open h1, fun rs us => prun_word h1 h2⟩
  | num h =>
    rename_i w
    intro _
    obtain ⟨h0, h1, h2, _⟩ := int_not h
    exact ⟨.w w, by show atomW w = _; unfold atomW; rw [if_neg (by rw [h0]; exact Bool.false_ne_true), if_pos h], word_open h1, fun rs us => prun_word h1 h2⟩
  | two hk _ _ ia ib =>
    rename_i k ta tb a b _ _
    intro hp
    obtain ⟨pa, pb⟩ := Bool.and_eq_true_iff.mp hp
    obtain ⟨i, i1, i2, i3⟩ := ia pa
    obtain ⟨j, j1, j2, j3⟩ := ib pb
    obtain ⟨k1, k2, k3, k4, _⟩ := pairs_not hk
    refine ⟨.t (.two k a b), rfl, rfl, fun rs us => ?_⟩
    rw [List.cons_append, List.cons_append, List.append_assoc, List.append_assoc, prun_open, prun_word k1 k2, i3, j3]
    refine prun_close (is := [j, i, .w k]) (g := [.w k, i, j]) (fun x hx => ?_) rfl ?_
    · simp only [List.mem_cons, List.not_mem_nil, or_false] at hx
      rcases hx with rfl | rfl | rfl
      · exact j2
      · exact i2
      · exact word_open k1
    · simp only [grouped, atoms, i1, j1, mkE]
      rw [if_neg k3, if_pos hk]
  | three _ _ _ ia ib ic =>
    rename_i ta tb tc a b c _ _ _
    intro hp
    obtain ⟨pa, pbc⟩ := Bool.and_eq_true_iff.mp hp
    obtain ⟨pb, pc⟩ := Bool.and_eq_true_iff.mp pbc
    obtain ⟨i, i1, i2, i3⟩ := ia pa
    obtain ⟨j, j1, j2, j3⟩ := ib pb
    obtain ⟨l, l1, l2, l3⟩ := ic pc
    refine ⟨.t (.three "pick" a b c), rfl, rfl, fun rs us => ?_⟩
    rw [List.cons_append, List.cons_append, List.append_assoc, List.append_assoc, List.append_assoc, prun_open, prun_word (by decide +kernel) (by decide +kernel), i3, j3, l3]
    refine prun_close (is := [l, j, i, .w "pick"]) (g := [.w "pick", i, j, l]) (fun x hx => ?_) rfl ?_
    · simp only [List.mem_cons, List.not_mem_nil, or_false] at hx
      rcases hx with rfl | rfl | rfl | rfl
      · exact l2
      · exact j2
      · exact i2
      · exact word_open (by decide +kernel)
    · simp only [grouped, atoms, i1, j1, l1, mkE]
      rw [if_neg (by decide +kernel), if_pos trivial]
  | shift _ ho ia =>
    rename_i ta os a _
    intro hp
    obtain ⟨i, i1, i2, i3⟩ := ia hp
    obtain ⟨o1, o2⟩ := atoms_ints ho
    refine ⟨.t (.shift a (os.map intOf)), rfl, rfl, fun rs us => ?_⟩
    rw [List.cons_append, List.cons_append, List.append_assoc, List.append_assoc, prun_open, prun_word (by decide +kernel) (by decide +kernel), i3, prun_words ho]
    rw [show (os.map Item.w).reverse ++ (i :: .w "shift" :: .w ("(" : Str) :: rs) = ((os.map Item.w).reverse ++ [i, .w "shift"]) ++ (.w ("(" : Str) :: rs) by simp]
    refine prun_close (g := .w "shift" :: i :: os.map Item.w) (fun x hx => ?_) (by simp) ?_
    · rcases List.mem_append.mp hx with hx | hx
      · obtain ⟨o, ho', rfl⟩ := List.mem_map.mp (List.mem_reverse.mp hx)
        exact word_open (int_not (ho o ho')).2.1
      · simp only [List.mem_cons, List.not_mem_nil, or_false] at hx
        rcases hx with rfl | rfl
        · exact i2
        · exact word_open (by decide +kernel)
    · simp only [grouped, atoms, i1, o1]
      rw [if_pos trivial]
      show (if (os.map Item.w).any badOff = true then none else _) = _
      rw [if_neg (by rw [o2]; exact Bool.false_ne_true), List.map_map]
      rfl
/-! ### what the stack takes, the grammar derives -/
inductive Yl : Item → List Str → Prop
  | w {s : Str} : s ≠ ")" → Yl (.w s) [s]
  | t {e : Exp} {ts : List Str} : Der ts e → pvE e = true → Yl (.t e) ts
inductive Ys : List Item → List Str → Prop
  | nil : Ys [] []
  | cons {i : Item} {rs : List Item} {ts us : List Str} : Ys rs ts → Yl i us → Ys (i :: rs) (ts ++ us)
/-- in the order of the text -/
inductive Yf : List Item → List Str → Prop
  | nil : Yf [] []
  | cons {i : Item} {g : List Item} {ts us : List Str} : Yl i us → Yf g ts → Yf (i :: g) (us ++ ts)
theorem popG_ys : ∀ {rs g : List Item} {ts us : List Str}, Ys rs ts → Yf g us → (popG rs g).1 = [] ∨ ∃ r ta tb, (popG rs g).1 = .w ("(" : Str) :: r ∧ Ys r ta ∧ Yf (popG rs g).2 tb ∧ ts ++ us = ta ++ (("(" : Str) :: tb)
  | [], g, ts, us, h, hg => Or.inl rfl
  | i :: rs, g, ts, us, h, hg => by
    cases h with
    | cons h1 h2 =>
      rename_i t1 t2
      unfold popG
      by_cases ho : isOpen i = true
      · rw [if_pos ho]
        cases i with
        | t e => cases ho
        | w s =>
          have es : s = "(" := of_decide_eq_true ho
          subst es
          cases h2
          exact Or.inr ⟨rs, t1, us, rfl, h1, hg, by rw [List.append_assoc]; rfl⟩
      · rw [if_neg ho]
        rcases popG_ys h1 (.cons h2 hg) with h | ⟨r, ta, tb, k1, k2, k3, k4⟩
        · exact Or.inl h
        · exact Or.inr ⟨r, ta, tb, k1, k2, k3, by rw [List.append_assoc]; exact k4⟩
theorem atom_der {i : Item} {ts : List Str} {e : Exp} (h : Yl i ts) (ha : atom i = some e) : Der ts e ∧ pvE e = true := by
  cases h with
  | t hd hp =>
    cases ha
    exact ⟨hd, hp⟩
  | w hne =>
    rename_i s
    have ha' : atomW s = some e := ha
    unfold atomW at ha'
    split at ha'
    · rename_i h1
      split at ha'
      · rename_i h2
        cases ha'
        exact ⟨.path h1, h2⟩
      · cases ha'
    · split at ha'
      · rename_i h2
        cases ha'
        exact ⟨.num h2, rfl⟩
      · cases ha'
theorem atoms_inv {i : Item} {g : List Item} {ps : List Exp} (h : atoms (i :: g) = some ps) : ∃ e es, atom i = some e ∧ atoms g = some es ∧ ps = e :: es := by
  unfold atoms at h
  split at h
  · rename_i e es h1 h2
    cases h
    exact ⟨e, es, h1, h2, rfl⟩
  · cases h
theorem offs_der : ∀ {g : List Item} {ts : List Str} {ps : List Exp}, Yf g ts → atoms g = some ps → g.any badOff = false → (∀ o ∈ ts, intWord o = true) ∧ ps.map numOfE = ts.map intOf
  | [], ts, ps, h, ha, _ => by
    cases h
    cases ha
    exact ⟨fun o ho => absurd ho List.not_mem_nil, rfl⟩
  | i :: g, ts, ps, h, ha, hb => by
    cases h with
    | cons h1 h2 =>
      obtain ⟨e, es, a1, a2, rfl⟩ := atoms_inv ha
      have hb' : badOff i = false ∧ g.any badOff = false := by
        rw [List.any_cons, Bool.or_eq_false_iff] at hb
        exact hb
      obtain ⟨k1, k2⟩ := offs_der h2 a2 hb'.2
      cases h1 with
      | t _ _ => cases hb'.1
      | w hne =>
        rename_i s
        have a1' : atomW s = some e := a1
        unfold atomW at a1'
        rw [if_neg (by rw [show isAt s = false from hb'.1]; exact Bool.false_ne_true)] at a1'
        split at a1'
        · rename_i hi
          cases a1'
          refine ⟨fun o ho => ?_, ?_⟩
          · rcases List.mem_cons.mp ho with e | e
            · rw [e]
              exact hi
            · exact k1 o e
          · show numOfE (.num (intOf s)) :: es.map numOfE = intOf s :: _
            rw [k2]
            rfl
        · cases a1'
theorem grouped_der {g : List Item} {ts : List Str} {e : Exp} (h : Yf g ts) (hg : grouped g = some e) : Der (("(" : Str) :: (ts ++ [(")" : Str)])) e ∧ pvE e = true := by
  cases h with
  | nil => cases hg
  | cons h1 h2 =>
    cases h1 with
    | t _ _ => cases hg
    | w hne =>
      rename_i its us k
      have hg : (match atoms its with
        | none => none
        | some ps => if k = "shift" then mkShift ps its else mkE k ps) = some e := hg
      cases ha : atoms its with
      | none => rw [ha] at hg; cases hg
      | some ps =>
        rw [ha] at hg
        dsimp only at hg
        split at hg
        · rename_i ek
          subst ek
          cases h2 with
          | nil =>
            cases ha
            cases hg
          | cons j1 j2 =>
            obtain ⟨a, os, a1, a2, rfl⟩ := atoms_inv ha
            unfold mkShift at hg
            dsimp only at hg
            split at hg
            · cases hg
            · rename_i hb
              cases hg
              obtain ⟨d1, d2⟩ := atom_der j1 a1
              obtain ⟨o1, o2⟩ := offs_der j2 a2 (by simpa using hb)
              rw [o2]
              refine ⟨?_, d2⟩
              have z := Der.shift d1 o1
              simpa using z
        · rename_i ek
          unfold mkE at hg
          split at hg
          · split at hg
            · rename_i hk
              cases hg
              cases h2 with
              | nil => cases ha
              | cons j1 j2 =>
                obtain ⟨a, os, a1, a2, e1⟩ := atoms_inv ha
                cases e1
                cases j2 with
                | nil => cases a2
                | cons l1 l2 =>
                  obtain ⟨b, os, b1, b2, e2⟩ := atoms_inv a2
                  cases e2
                  cases l2 with
                  | cons m1 m2 =>
                    obtain ⟨_, _, _, _, e3⟩ := atoms_inv b2
                    cases e3
                  | nil =>
                    obtain ⟨d1, p1⟩ := atom_der j1 a1
                    obtain ⟨d2, p2⟩ := atom_der l1 b1
                    refine ⟨?_, by show (pvE _ && pvE _) = true; rw [p1, p2]; rfl⟩
                    have z := Der.two hk d1 d2
                    simpa using z
            · cases hg
          · split at hg
            · rename_i hk
              cases hg
              subst hk
              cases h2 with
              | nil => cases ha
              | cons j1 j2 =>
                obtain ⟨a, os, a1, a2, e1⟩ := atoms_inv ha
                cases e1
                cases j2 with
                | nil => cases a2
                | cons l1 l2 =>
                  obtain ⟨b, os, b1, b2, e2⟩ := atoms_inv a2
                  cases e2
                  cases l2 with
                  | nil => cases b2
                  | cons m1 m2 =>
                    obtain ⟨c, os, c1, c2, e3⟩ := atoms_inv b2
                    cases e3
                    cases m2 with
                    | cons n1 n2 =>
                      obtain ⟨_, _, _, _, e4⟩ := atoms_inv c2
                      cases e4
                    | nil =>
                      obtain ⟨d1, p1⟩ := atom_der j1 a1
                      obtain ⟨d2, p2⟩ := atom_der l1 b1
                      obtain ⟨d3, p3⟩ := atom_der m1 c1
                      refine ⟨?_, by show (pvE _ && (pvE _ && pvE _)) = true; rw [p1, p2, p3]; rfl⟩
                      have z := Der.three d1 d2 d3
                      simpa using z
            · cases hg
          · cases hg
theorem pstep_ys {rs rs' : List Item} {ts : List Str} {t : Str} (h : Ys rs ts) (hp : pstep rs t = some rs') : Ys rs' (ts ++ [t]) := by
  unfold pstep at hp
  split at hp
  · rename_i e
    cases hp
    rw [e]
    exact .cons h (.w (by decide +kernel))
  · split at hp
    · rename_i e
      rcases popG_ys h .nil with hz | ⟨r, ta, tb, k1, k2, k3, k4⟩
      · split at hp
        · cases hp
        · rename_i heq
          rw [heq] at hz
          cases hz
      · split at hp
        · cases hp
        · rename_i i r2 g heq
          rw [heq] at k1 k3
          cases k1
          split at hp
          · cases hp
          · rename_i e2 hg
            cases hp
            obtain ⟨d, p⟩ := grouped_der k3 hg
            rw [List.append_nil] at k4
            rw [k4, e, List.append_assoc]
            exact .cons k2 (.t d p)
    · rename_i e1 e2
      cases hp
      exact .cons h (.w e2)
theorem prun_ys : ∀ {us : List Str} {rs rs' : List Item} {ts : List Str}, Ys rs ts → prun rs us = some rs' → Ys rs' (ts ++ us)
  | [], rs, rs', ts, h, hp => by
    cases hp
    rw [List.append_nil]
    exact h
  | t :: us, rs, rs', ts, h, hp => by
    have hp' : (match pstep rs t with | none => none | some rs' => prun rs' us) = some rs' := hp
    cases e : pstep rs t with
    | none => rw [e] at hp'; cases hp'
    | some r2 =>
      rw [e] at hp'
      have z := prun_ys (pstep_ys h e) hp'
      rw [List.append_assoc] at z
      exact z
theorem due0_iff {ts : List Str} {e : Exp} : due0 ts = some e ↔ Der ts e ∧ pvE e = true := by
  constructor
  · intro h
    unfold due0 at h
    split at h
    · rename_i i hp
      split at h
      · cases h
      · have z := prun_ys .nil hp
        rw [List.nil_append] at z
        cases z with
        | cons z1 z2 =>
          cases z1
          exact atom_der (by simpa using z2) h
    · cases h
  · rintro ⟨hd, hp⟩
    obtain ⟨i, i1, i2, i3⟩ := der_run hd hp
    have z := i3 [] []
    rw [List.append_nil] at z
    unfold due0
    rw [z]
    show (if isOpen i = true then none else atom i) = some e
    rw [if_neg (by rw [i2]; exact Bool.false_ne_true), i1]
/-! ### the reader -/
def offsR : List Str → Option (List Int × List Str)
  | [] => none
  | w :: ts => if w = ")" then some ([], ts) else if intWord w = true then (match offsR ts with
    | some (ns, r) => some (intOf w :: ns, r)
    | none => none) else none
def endR : List Str → Option (List Str)
  | [] => none
  | w :: r => if w = ")" then some r else none
def partsR (rd : List Str → Option (Exp × List Str)) : Nat → List Str → Option (List Exp × List Str)
  | 0, ts => some ([], ts)
  | n + 1, ts => match rd ts with
    | none => none
    | some (e, r) => match partsR rd n r with
      | none => none
      | some (es, r') => some (e :: es, r')
def closeR (f : List Exp → Exp) : Option (List Exp × List Str) → Option (Exp × List Str)
  | none => none
  | some (es, r) => match endR r with
    | none => none
    | some r' => some (f es, r')
def two_ (k : Str) : List Exp → Exp
  | [a, b] => .two k a b
  | _ => .num 0
def three_ (k : Str) : List Exp → Exp
  | [a, b, c] => .three k a b c
  | _ => .num 0
def rd : Nat → List Str → Option (Exp × List Str)
  | 0, _ => none
  | _ + 1, [] => none
  | f + 1, w :: ts => if w = "" then none else if isAt w = true then some (.path (rest w), ts)
    else if w = "(" then (match ts with
      | [] => none
      | k :: us => if k = "shift" then (match rd f us with
          | none => none
          | some (e, r) => match offsR r with
            | none => none
            | some (ns, r') => some (.shift e ns, r'))
        else if k ∈ pairs then closeR (two_ k) (partsR (rd f) 2 us)
        else if k = "pick" then closeR (three_ k) (partsR (rd f) 3 us) else none)
    else if intWord w = true then some (.num (intOf w), ts) else none
theorem offsR_app : ∀ {os : List Str} {r : List Str}, (∀ o ∈ os, intWord o = true) → offsR (os ++ ((")" : Str) :: r)) = some (os.map intOf, r)
  | [], _, _ => rfl
  | o :: os, r, h => by
    have ho := h o (List.mem_cons_self ..)
    rw [List.cons_append]
    unfold offsR
    rw [if_neg (int_not ho).2.2.1, if_pos ho, offsR_app fun x hx => h x (List.mem_cons_of_mem _ hx)]
    rfl
theorem offsR_inv : ∀ {ts : List Str} {ns : List Int} {r : List Str}, offsR ts = some (ns, r) → ∃ os, ts = os ++ ((")" : Str) :: r) ∧ (∀ o ∈ os, intWord o = true) ∧ ns = os.map intOf
  | [], _, _, h => nomatch h
  | w :: ts, ns, r, h => by
    unfold offsR at h
    split at h
    · rename_i e
      cases h
      exact ⟨[], by rw [e]; rfl, fun o ho => absurd ho List.not_mem_nil, rfl⟩
    · split at h
      · rename_i hi
        cases ho : offsR ts with
        | none => rw [ho] at h; cases h
        | some p =>
          obtain ⟨ms, q⟩ := p
          rw [ho] at h
          cases h
          obtain ⟨os, e1, e2, e3⟩ := offsR_inv ho
          refine ⟨w :: os, by rw [e1]; rfl, fun o hm => ?_, by rw [e3]; rfl⟩
          rcases List.mem_cons.mp hm with e | e
          · rw [e]
            exact hi
          · exact e2 o e
      · cases h
theorem rd_der {us : List Str} {e : Exp} (h : Der us e) : ∀ {f : Nat} {r : List Str}, dep e ≤ f → rd f (us ++ r) = some (e, r) := by
  induction h with
  | path h =>
    rename_i w
    intro f r hf
    obtain ⟨f, rfl⟩ : ∃ g, f = g + 1 := ⟨f - 1, by have := Nat.le_trans (dep_pos _) hf; omega⟩
    · skip
      show rd (f + 1) (w :: r) = _
      unfold rd
      rw [if_neg (at_not h).2.2, if_pos h]
  | num h =>
    rename_i w
    intro f r hf
    obtain ⟨h0, h1, h2, h3⟩ := int_not h
    obtain ⟨f, rfl⟩ : ∃ g, f = g + 1 := ⟨f - 1, by have := Nat.le_trans (dep_pos _) hf; omega⟩
    · skip
      show rd (f + 1) (w :: r) = _
      unfold rd
      rw [if_neg h3, if_neg (by rw [h0]; exact Bool.false_ne_true), if_neg h1, if_pos h]
  | two hk _ _ ia ib =>
    rename_i k ta tb a b _ _
    intro f r hf
    obtain ⟨k1, k2, k3, k4, k5, _⟩ := pairs_not hk
    obtain ⟨f, rfl⟩ : ∃ g, f = g + 1 := ⟨f - 1, by have := Nat.le_trans (dep_pos _) hf; omega⟩
    · skip
      have ha : dep a ≤ f := by simp only [dep] at hf; omega
      have hb : dep b ≤ f := by simp only [dep] at hf; omega
      rw [List.cons_append, List.cons_append, List.append_assoc, List.append_assoc]
      unfold rd
      rw [if_neg (by decide +kernel), if_neg (by decide +kernel), if_pos rfl]
      show (if k = "shift" then _ else _) = _
      rw [if_neg k3, if_pos hk]
      simp only [partsR, ia ha, ib hb]
      rfl
  | three _ _ _ ia ib ic =>
    rename_i ta tb tc a b c _ _ _
    intro f r hf
    obtain ⟨f, rfl⟩ : ∃ g, f = g + 1 := ⟨f - 1, by have := Nat.le_trans (dep_pos _) hf; omega⟩
    · skip
      have ha : dep a ≤ f := by simp only [dep] at hf; omega
      have hb : dep b ≤ f := by simp only [dep] at hf; omega
      have hc : dep c ≤ f := by simp only [dep] at hf; omega
      rw [List.cons_append, List.cons_append, List.append_assoc, List.append_assoc, List.append_assoc]
      unfold rd
      rw [if_neg (by decide +kernel), if_neg (by decide +kernel), if_pos rfl]
      show (if ("pick" : Str) = "shift" then _ else _) = _
      rw [if_neg (by decide +kernel), if_neg (by decide +kernel), if_pos rfl]
      simp only [partsR, ia ha, ib hb, ic hc]
      rfl
  | shift _ ho ia =>
    rename_i ta os a _
    intro f r hf
    obtain ⟨f, rfl⟩ : ∃ g, f = g + 1 := ⟨f - 1, by have := Nat.le_trans (dep_pos _) hf; omega⟩
    · skip
      have ha : dep a ≤ f := by simp only [dep] at hf; omega
      rw [List.cons_append, List.cons_append, List.append_assoc, List.append_assoc]
      unfold rd
      rw [if_neg (by decide +kernel), if_neg (by decide +kernel), if_pos rfl]
      show (if ("shift" : Str) = "shift" then _ else _) = _
      rw [if_pos rfl, ia ha]
      show (match offsR (os ++ ((")" : Str) :: r)) with | none => none | some (ns, r') => some (Exp.shift a ns, r')) = _
      rw [offsR_app ho]
theorem endR_inv {ts r : List Str} (h : endR ts = some r) : ts = (")" : Str) :: r := by
  unfold endR at h
  split at h
  · cases h
  · split at h
    · rename_i e
      cases h
      rw [e]
    · cases h
theorem rd_inv : ∀ {f : Nat} {ts : List Str} {e : Exp} {r : List Str}, rd f ts = some (e, r) → ∃ us, ts = us ++ r ∧ Der us e ∧ dep e ≤ f
  | 0, _, _, _, h => nomatch h
  | _ + 1, [], _, _, h => by
    unfold rd at h
    cases h
  | f + 1, w :: ts, e, r, h => by
    unfold rd at h
    split at h
    · cases h
    · split at h
      · rename_i ha
        cases h
        exact ⟨[w], rfl, .path ha, Nat.le_add_left 1 f⟩
      · split at h
        · rename_i hw
          subst hw
          cases ts with
          | nil => cases h
          | cons k us =>
            dsimp only at h
            split at h
            · rename_i hk
              subst hk
              cases h1 : rd f us with
              | none => rw [h1] at h; cases h
              | some p =>
                obtain ⟨a, q⟩ := p
                rw [h1] at h
                dsimp only at h
                cases h2 : offsR q with
                | none => rw [h2] at h; cases h
                | some p2 =>
                  obtain ⟨ns, q2⟩ := p2
                  rw [h2] at h
                  cases h
                  obtain ⟨ua, e1, d1, f1⟩ := rd_inv h1
                  obtain ⟨os, e2, o1, o2⟩ := offsR_inv h2
                  refine ⟨("(" : Str) :: "shift" :: (ua ++ (os ++ [(")" : Str)])), by rw [e1, e2]; simp, by rw [o2]; exact .shift d1 o1, by simp only [dep]; omega⟩
            · split at h
              · rename_i hk
                simp only [partsR] at h
                cases h1 : rd f us with
                | none => rw [h1] at h; cases h
                | some p =>
                  obtain ⟨a, q⟩ := p
                  rw [h1] at h
                  dsimp only at h
                  cases h2 : rd f q with
                  | none => rw [h2] at h; cases h
                  | some p2 =>
                    obtain ⟨b, q2⟩ := p2
                    rw [h2] at h
                    dsimp only [closeR] at h
                    cases h3 : endR q2 with
                    | none => rw [h3] at h; cases h
                    | some q3 =>
                      rw [h3] at h
                      cases h
                      obtain ⟨ua, e1, d1, f1⟩ := rd_inv h1
                      obtain ⟨ub, e2, d2, f2⟩ := rd_inv h2
                      have e3 := endR_inv h3
                      refine ⟨("(" : Str) :: k :: (ua ++ (ub ++ [(")" : Str)])), by rw [e1, e2, e3]; simp, .two hk d1 d2, by show 1 + max (dep a) (dep b) ≤ f + 1; omega⟩
              · split at h
                · rename_i hk
                  subst hk
                  simp only [partsR] at h
                  cases h1 : rd f us with
                  | none => rw [h1] at h; cases h
                  | some p =>
                    obtain ⟨a, q⟩ := p
                    rw [h1] at h
                    dsimp only at h
                    cases h2 : rd f q with
                    | none => rw [h2] at h; cases h
                    | some p2 =>
                      obtain ⟨b, q2⟩ := p2
                      rw [h2] at h
                      dsimp only at h
                      cases h2' : rd f q2 with
                      | none => rw [h2'] at h; cases h
                      | some p3 =>
                        obtain ⟨c, q2'⟩ := p3
                        rw [h2'] at h
                        dsimp only [closeR] at h
                        cases h3 : endR q2' with
                        | none => rw [h3] at h; cases h
                        | some q3 =>
                          rw [h3] at h
                          cases h
                          obtain ⟨ua, e1, d1, f1⟩ := rd_inv h1
                          obtain ⟨ub, e2, d2, f2⟩ := rd_inv h2
                          obtain ⟨uc, e2', d2', f2'⟩ := rd_inv h2'
                          have e3 := endR_inv h3
                          refine ⟨("(" : Str) :: "pick" :: (ua ++ (ub ++ (uc ++ [(")" : Str)]))), by rw [e1, e2, e2', e3]; simp, .three d1 d2 d2', by show 1 + max (dep a) (max (dep b) (dep c)) ≤ f + 1; omega⟩
                · cases h
        · split at h
          · rename_i hi
            cases h
            exact ⟨[w], rfl, .num hi, Nat.le_add_left 1 f⟩
          · cases h
/-- parse_expression of words; what the law says is due -/
def parse (ts : List Str) : Option Exp := match rd 12 ts with
  | some (e, []) => if (valid e && decide ((dep e : Int) ≤ 12)) = true then some e else none
  | _ => none
def due (ts : List Str) : Option Exp := match due0 ts with
  | some e => if (12 : Int) < dep e then none else some e
  | none => none
theorem parse_iff {ts : List Str} {e : Exp} : parse ts = some e ↔ Der ts e ∧ pvE e = true ∧ dep e ≤ 12 := by
  constructor
  · intro h
    unfold parse at h
    split at h
    · rename_i e2 hr
      split at h
      · rename_i hv
        cases h
        obtain ⟨us, e1, d, f⟩ := rd_inv hr
        rw [List.append_nil] at e1
        subst e1
        exact ⟨d, by rw [← der_valid d]; exact (Bool.and_eq_true_iff.mp hv).1, f⟩
      · cases h
    · cases h
  · rintro ⟨d, hp, hd⟩
    have z := rd_der d (f := 12) (r := []) hd
    rw [List.append_nil] at z
    unfold parse
    rw [z]
    show (if (valid e && decide ((dep e : Int) ≤ 12)) = true then some e else none) = some e
    rw [if_pos (by rw [der_valid d, hp, decide_eq_true (by omega)]; rfl)]
theorem due_iff {ts : List Str} {e : Exp} : due ts = some e ↔ Der ts e ∧ pvE e = true ∧ dep e ≤ 12 := by
  constructor
  · intro h
    unfold due at h
    split at h
    · rename_i e2 hr
      split at h
      · cases h
      · rename_i hn
        cases h
        obtain ⟨d, hp⟩ := due0_iff.mp hr
        exact ⟨d, hp, by omega⟩
    · cases h
  · rintro ⟨d, hp, hd⟩
    unfold due
    rw [due0_iff.mpr ⟨d, hp⟩]
    show (if (12 : Int) < dep e then none else some e) = some e
    rw [if_neg (by omega)]
theorem parse_due (ts : List Str) : parse ts = due ts := by
  cases h : due ts with
  | none =>
    cases h2 : parse ts with
    | none => rfl
    | some e =>
      rw [due_iff.mpr (parse_iff.mp h2)] at h
      cases h
  | some e => exact parse_iff.mpr (due_iff.mp h)
end T95

set_option maxHeartbeats 1000000
namespace T95
open PySem PySem.Spec PyProof.Rows L2 T9 TL
/-! ### numbers as words -/
def strI (i : Int) : Str := Str.ofString (toString i)
theorem tl_strI_neg (m : Nat) : tl (strI (Int.negSucc m)) = 45 :: numL (m + 1) := by
  unfold strI
  rw [← tl_num (m + 1), tl_ofString, tl_ofString]
  have e : toString (Int.negSucc m) = "-" ++ Nat.repr (m + 1) := rfl
  have e2 : toString (((m + 1 : Nat) : Int)) = Nat.repr (m + 1) := rfl
  rw [e, e2, String.toList_append, List.map_append]
  rfl
theorem numL_head : ∀ n : Nat, 1 ≤ n → ∃ c r, numL n = c :: r ∧ c ≠ 48 := by
  intro n
  induction n using Nat.strongRecOn with
  | _ n ih =>
    intro h1
    by_cases h : n < 10
    · exact ⟨48 + n, [], numL_lt h, by omega⟩
    · obtain ⟨c, r, e, hc⟩ := ih (n / 10) (by omega) (by omega)
      exact ⟨c, r ++ [48 + n % 10], by rw [numL_step (by omega), e]; rfl, hc⟩
theorem nthC_head {w : Str} {c : Nat} {r : List Nat} (h : tl w = c :: r) : nthC w 0 = c := by
  unfold nthC
  rw [show w.cps.toList = c :: r from h]
  rfl
theorem sign_ne {c : Nat} (h : c ≠ 48) : (⟨#[c]⟩ : Str) ≠ "0" := fun e => h (by
  have z := congrArg tl e
  rw [show tl (⟨#[c]⟩ : Str) = [c] from rfl, show tl ("0" : Str) = [48] by decide +kernel] at z
  exact List.head_eq_of_cons_eq z)
theorem intWord_of {w : Str} {ds : List Nat} (hd : tl (digs w) = ds) (h1 : ds ≠ []) (h2 : ds.length ≤ 30) (h3 : NumText.AllDigits ds) (h4 : w = "0" ∨ ∃ c r, ds = c :: r ∧ c ≠ 48) : intWord w = true := by
  unfold intWord
  have hl : (digs w).length = ds.length := by rw [len_tl, hd]
  have hp : 0 < ds.length := List.length_pos_iff.mpr h1
  rw [Bool.and_eq_true, Bool.and_eq_true, Bool.and_eq_true, decide_eq_true_eq, decide_eq_true_eq, List.all_eq_true, Bool.or_eq_true, decide_eq_true_eq, Bool.not_eq_true', decide_eq_false_iff_not]
  refine ⟨⟨⟨by omega, by omega⟩, fun c hc => decide_eq_true (mem_digits.mpr (h3 c (by rw [← hd]; exact hc)))⟩, ?_⟩
  rcases h4 with h4 | ⟨c, r, e, hc⟩
  · exact Or.inl h4
  · exact Or.inr (by rw [nthC_head (hd.trans e)]; exact sign_ne hc)
theorem digs_plain {w : Str} (h : ∀ r, tl w ≠ 45 :: r) : digs w = w := if_neg fun e => by
  obtain ⟨r, hr⟩ := minus_iff.mp e
  exact h r hr
theorem strI_ok {i : Int} (h : numOk i = true) : intWord (strI i) = true ∧ intOf (strI i) = i := by
  unfold numOk at h
  rw [Bool.and_eq_true, decide_eq_true_eq, decide_eq_true_eq] at h
  obtain ⟨h1, h2⟩ := h
  have hp : (10 : Nat) ^ 30 = 1000000000000000000000000000000 := by decide
  cases i with
  | ofNat n =>
    have ht : tl (strI (Int.ofNat n)) = numL n := tl_num n
    have hn : n < 10 ^ 30 := by
      rw [hp]
      have : ((n : Nat) : Int) < 1000000000000000000000000000000 := h2
      omega
    have hdg : digs (strI (Int.ofNat n)) = strI (Int.ofNat n) := digs_plain fun r hr => by
      have := numL_digits n 45 (by rw [← ht, hr]; exact List.mem_cons_self ..)
      omega
    have hl := numL_len (n := n) (k := 30) (by decide) hn
    refine ⟨intWord_of (ds := numL n) (by rw [hdg]; exact ht) (numL_ne n) hl (numL_digits n) ?_, ?_⟩
    · by_cases h0 : n = 0
      · subst h0
        exact Or.inl (by decide +kernel)
      · exact Or.inr (numL_head n (by omega))
    · unfold intOf
      have z : intText? (strI (Int.ofNat n)) = some (n : Int) := int_num (n := n) (by omega)
      rw [z]
      rfl
  | negSucc m =>
    have ht := tl_strI_neg m
    have hn : m + 1 < 10 ^ 30 := by
      rw [hp]
      omega
    have hdg : tl (digs (strI (Int.negSucc m))) = numL (m + 1) := by
      unfold digs
      rw [if_pos (minus_iff.mpr ⟨_, ht⟩), tl_rest, ht]
      rfl
    have hl := numL_len (n := m + 1) (k := 30) (by decide) hn
    refine ⟨intWord_of hdg (numL_ne _) hl (numL_digits _) (Or.inr (numL_head _ (by omega))), ?_⟩
    unfold intOf
    have z := PySem.intText_neg ht (numL_digits (m + 1)) (numL_ne _) (by rw [len_tl, ht, List.length_cons]; omega)
    rw [z, numL_val]
    rfl
/-! ### an expression's words -/
def wordsE : Exp → List Str
  | .path p => ["@" ++ p]
  | .num n => [strI n]
  | .two k a b => ("(" : Str) :: k :: (wordsE a ++ (wordsE b ++ [(")" : Str)]))
  | .three k a b c => ("(" : Str) :: k :: (wordsE a ++ (wordsE b ++ (wordsE c ++ [(")" : Str)])))
  | .shift a o => ("(" : Str) :: "shift" :: (wordsE a ++ (o.map strI ++ [(")" : Str)]))
/-- the kinds are the grammar's -/
def KindsOk : Exp → Prop
  | .path _ => True
  | .num _ => True
  | .two k a b => k ∈ pairs ∧ KindsOk a ∧ KindsOk b
  | .three k a b c => k = "pick" ∧ KindsOk a ∧ KindsOk b ∧ KindsOk c
  | .shift a _ => KindsOk a
theorem at_path (p : Str) : isAt ("@" ++ p) = true ∧ rest ("@" ++ p) = p := by
  have h : tl ("@" ++ p) = 64 :: tl p := by rw [tl_append]; rfl
  refine ⟨isAt_iff.mpr ⟨_, h⟩, str_tl ?_⟩
  rw [tl_rest, h]
  rfl
theorem words_der : ∀ {e : Exp}, valid e = true → KindsOk e → Der (wordsE e) e
  | .path p, _, _ => by
    obtain ⟨h1, h2⟩ := at_path p
    have z := Der.path h1
    rwa [h2] at z
  | .num n, h, _ => by
    obtain ⟨h1, h2⟩ := strI_ok (i := n) h
    have z := Der.num h1
    rwa [h2] at z
  | .two k a b, h, hk => by
    have h' : (kindOk k && (valid a && (valid b && true))) = true := h
    rw [Bool.and_eq_true, Bool.and_eq_true, Bool.and_eq_true] at h'
    exact .two hk.1 (words_der h'.2.1 hk.2.1) (words_der h'.2.2.1 hk.2.2)
  | .three k a b c, h, hk => by
    have h' : (kindOk k && (valid a && (valid b && (valid c && true)))) = true := h
    rw [Bool.and_eq_true, Bool.and_eq_true, Bool.and_eq_true, Bool.and_eq_true] at h'
    obtain ⟨rfl, k1, k2, k3⟩ := hk
    exact .three (words_der h'.2.1 k1) (words_der h'.2.2.1 k2) (words_der h'.2.2.2.1 k3)
  | .shift a o, h, hk => by
    have h' : (o.all numOk && (valid a && true)) = true := h
    rw [Bool.and_eq_true, Bool.and_eq_true] at h'
    have ho : ∀ x ∈ o, numOk x = true := List.all_eq_true.mp h'.1
    have z := Der.shift (os := o.map strI) (words_der h'.2.1 hk) fun w hw => by
      obtain ⟨x, hx, rfl⟩ := List.mem_map.mp hw
      exact (strI_ok (ho x hx)).1
    rw [List.map_map, show o.map (intOf ∘ strI) = o by
      conv => rhs; rw [← List.map_id o]
      exact List.map_congr_left fun x hx => (strI_ok (ho x hx)).2] at z
    exact z
end T95

set_option maxHeartbeats 1000000
/-! the text by places; the readings -/
namespace T95
open PySem PySem.Spec PyProof.Rows L2 T9
def top (i : Nat) : Stmt := PySem.Challenge.pw_tessera_k95_texts_of_expressions.main.body.getD i (.Pass ⟨0, 0, 0, 0⟩)
def mth (i j : Nat) : Stmt := (C8.clsBody (top i)).getD j (.Pass ⟨0, 0, 0, 0⟩)

structure Tx (K : PySem.W.Frag) (mg : Str → Option Value) : Prop where
  g_is_name : mg "is_name" = some (.ref (He.ga K "is_name"))
  f_is_name : ∃ fd, FunD K "is_name" "is_name" (defArgs (top 8)) (defBody (top 8)) (defScope (top 8)) [] [] (He.ga K "is_name") fd
  g_is_path : mg "is_path" = some (.ref (He.ga K "is_path"))
  f_is_path : ∃ fd, FunD K "is_path" "is_path" (defArgs (top 9)) (defBody (top 9)) (defScope (top 9)) [] [] (He.ga K "is_path") fd
  g_read_integer : mg "read_integer" = some (.ref (He.ga K "read_integer"))
  f_read_integer : ∃ fd, FunD K "read_integer" "read_integer" (defArgs (top 13)) (defBody (top 13)) (defScope (top 13)) [] [] (He.ga K "read_integer") fd
  g_parts_of : mg "parts_of" = some (.ref (He.ga K "parts_of"))
  f_parts_of : ∃ fd, FunD K "parts_of" "parts_of" (defArgs (top 18)) (defBody (top 18)) (defScope (top 18)) [] [] (He.ga K "parts_of") fd
  g_depth : mg "depth" = some (.ref (He.ga K "depth"))
  f_depth : ∃ fd, FunD K "depth" "depth" (defArgs (top 19)) (defBody (top 19)) (defScope (top 19)) [] [] (He.ga K "depth") fd
  g_is_integer : mg "is_integer" = some (.ref (He.ga K "is_integer"))
  f_is_integer : ∃ fd, FunD K "is_integer" "is_integer" (defArgs (top 20)) (defBody (top 20)) (defScope (top 20)) [] [] (He.ga K "is_integer") fd
  g_has_valid_names : mg "has_valid_names" = some (.ref (He.ga K "has_valid_names"))
  f_has_valid_names : ∃ fd, FunD K "has_valid_names" "has_valid_names" (defArgs (top 21)) (defBody (top 21)) (defScope (top 21)) [] [] (He.ga K "has_valid_names") fd
  g_is_expression : mg "is_expression" = some (.ref (He.ga K "is_expression"))
  f_is_expression : ∃ fd, FunD K "is_expression" "is_expression" (defArgs (top 22)) (defBody (top 22)) (defScope (top 22)) [] [] (He.ga K "is_expression") fd
  g_expression_words : mg "expression_words" = some (.ref (He.ga K "expression_words"))
  f_expression_words : ∃ fd, FunD K "expression_words" "expression_words" (defArgs (top 23)) (defBody (top 23)) (defScope (top 23)) [] [] (He.ga K "expression_words") fd
  g_format_expression : mg "format_expression" = some (.ref (He.ga K "format_expression"))
  f_format_expression : ∃ fd, FunD K "format_expression" "format_expression" (defArgs (top 24)) (defBody (top 24)) (defScope (top 24)) [] [] (He.ga K "format_expression") fd
  f___init__ : ∃ fd, FunD K "__init__" "ExpressionReader.__init__" (defArgs (mth 25 0)) (defBody (mth 25 0)) (defScope (mth 25 0)) [] [] (He.ma K (He.ga K "ExpressionReader") "__init__") fd
  g_ExpressionReader : mg "ExpressionReader" = some (.ref (He.ga K "ExpressionReader"))
  l_ExpressionReader : Cls K (He.ga K "ExpressionReader")
  mk_ExpressionReader : Mk K (He.ga K "ExpressionReader") (He.ma K (He.ga K "ExpressionReader") "__init__")
  f_step : ∃ fd, FunD K "step" "ExpressionReader.step" (defArgs (mth 25 1)) (defBody (mth 25 1)) (defScope (mth 25 1)) [] [] (He.ma K (He.ga K "ExpressionReader") "step") fd
  m_step : Meth K (He.ga K "ExpressionReader") "step" (He.ma K (He.ga K "ExpressionReader") "step")
  f_read_offsets : ∃ fd, FunD K "read_offsets" "ExpressionReader.read_offsets" (defArgs (mth 25 2)) (defBody (mth 25 2)) (defScope (mth 25 2)) [] [] (He.ma K (He.ga K "ExpressionReader") "read_offsets") fd
  m_read_offsets : Meth K (He.ga K "ExpressionReader") "read_offsets" (He.ma K (He.ga K "ExpressionReader") "read_offsets")
  f_read_parts : ∃ fd, FunD K "read_parts" "ExpressionReader.read_parts" (defArgs (mth 25 3)) (defBody (mth 25 3)) (defScope (mth 25 3)) [] [] (He.ma K (He.ga K "ExpressionReader") "read_parts") fd
  m_read_parts : Meth K (He.ga K "ExpressionReader") "read_parts" (He.ma K (He.ga K "ExpressionReader") "read_parts")
  f_read_end : ∃ fd, FunD K "read_end" "ExpressionReader.read_end" (defArgs (mth 25 4)) (defBody (mth 25 4)) (defScope (mth 25 4)) [] [] (He.ma K (He.ga K "ExpressionReader") "read_end") fd
  m_read_end : Meth K (He.ga K "ExpressionReader") "read_end" (He.ma K (He.ga K "ExpressionReader") "read_end")
  f_read : ∃ fd, FunD K "read" "ExpressionReader.read" (defArgs (mth 25 5)) (defBody (mth 25 5)) (defScope (mth 25 5)) [] [] (He.ma K (He.ga K "ExpressionReader") "read") fd
  m_read : Meth K (He.ga K "ExpressionReader") "read" (He.ma K (He.ga K "ExpressionReader") "read")
  g_parse_expression : mg "parse_expression" = some (.ref (He.ga K "parse_expression"))
  f_parse_expression : ∃ fd, FunD K "parse_expression" "parse_expression" (defArgs (top 26)) (defBody (top 26)) (defScope (top 26)) [] [] (He.ga K "parse_expression") fd
  g__law_cell : mg "_law_cell" = some (.ref (He.ga K "_law_cell"))
  f__law_cell : ∃ fd, FunD K "_law_cell" "_law_cell" (defArgs (top 28)) (defBody (top 28)) (defScope (top 28)) [] [] (He.ga K "_law_cell") fd
  g__law_draws : mg "_law_draws" = some (.ref (He.ga K "_law_draws"))
  f__law_draws : ∃ fd, FunD K "_law_draws" "_law_draws" (defArgs (top 29)) (defBody (top 29)) (defScope (top 29)) [] [] (He.ga K "_law_draws") fd
  g__law_is_text : mg "_law_is_text" = some (.ref (He.ga K "_law_is_text"))
  f__law_is_text : ∃ fd, FunD K "_law_is_text" "_law_is_text" (defArgs (top 30)) (defBody (top 30)) (defScope (top 30)) [] [] (He.ga K "_law_is_text") fd
  g__law_stream : mg "_law_stream" = some (.ref (He.ga K "_law_stream"))
  f__law_stream : ∃ fd, FunD K "_law_stream" "_law_stream" (defArgs (top 31)) (defBody (top 31)) (defScope (top 31)) [] [] (He.ga K "_law_stream") fd
  g__law_letters : mg "_law_letters" = some (.ref (He.ga K "_law_letters"))
  f__law_letters : ∃ fd, FunD K "_law_letters" "_law_letters" (defArgs (top 32)) (defBody (top 32)) (defScope (top 32)) [] [] (He.ga K "_law_letters") fd
  g__law_is_name_due : mg "_law_is_name_due" = some (.ref (He.ga K "_law_is_name_due"))
  f__law_is_name_due : ∃ fd, FunD K "_law_is_name_due" "_law_is_name_due" (defArgs (top 33)) (defBody (top 33)) (defScope (top 33)) [] [] (He.ga K "_law_is_name_due") fd
  g__law_is_path_due : mg "_law_is_path_due" = some (.ref (He.ga K "_law_is_path_due"))
  f__law_is_path_due : ∃ fd, FunD K "_law_is_path_due" "_law_is_path_due" (defArgs (top 34)) (defBody (top 34)) (defScope (top 34)) [] [] (He.ga K "_law_is_path_due") fd
  g__law_expression : mg "_law_expression" = some (.ref (He.ga K "_law_expression"))
  f__law_expression : ∃ fd, FunD K "_law_expression" "_law_expression" (defArgs (top 35)) (defBody (top 35)) (defScope (top 35)) [] [] (He.ga K "_law_expression") fd
  g__law_parts : mg "_law_parts" = some (.ref (He.ga K "_law_parts"))
  f__law_parts : ∃ fd, FunD K "_law_parts" "_law_parts" (defArgs (top 36)) (defBody (top 36)) (defScope (top 36)) [] [] (He.ga K "_law_parts") fd
  g__law_depth : mg "_law_depth" = some (.ref (He.ga K "_law_depth"))
  f__law_depth : ∃ fd, FunD K "_law_depth" "_law_depth" (defArgs (top 37)) (defBody (top 37)) (defScope (top 37)) [] [] (He.ga K "_law_depth") fd
  g__law_words : mg "_law_words" = some (.ref (He.ga K "_law_words"))
  f__law_words : ∃ fd, FunD K "_law_words" "_law_words" (defArgs (top 38)) (defBody (top 38)) (defScope (top 38)) [] [] (He.ga K "_law_words") fd
  g__law_integer_word : mg "_law_integer_word" = some (.ref (He.ga K "_law_integer_word"))
  f__law_integer_word : ∃ fd, FunD K "_law_integer_word" "_law_integer_word" (defArgs (top 39)) (defBody (top 39)) (defScope (top 39)) [] [] (He.ga K "_law_integer_word") fd
  g__law_parsed : mg "_law_parsed" = some (.ref (He.ga K "_law_parsed"))
  f__law_parsed : ∃ fd, FunD K "_law_parsed" "_law_parsed" (defArgs (top 40)) (defBody (top 40)) (defScope (top 40)) [] [] (He.ga K "_law_parsed") fd
  g__law_atom : mg "_law_atom" = some (.ref (He.ga K "_law_atom"))
  f__law_atom : ∃ fd, FunD K "_law_atom" "_law_atom" (defArgs (top 41)) (defBody (top 41)) (defScope (top 41)) [] [] (He.ga K "_law_atom") fd
  g__law_grouped : mg "_law_grouped" = some (.ref (He.ga K "_law_grouped"))
  f__law_grouped : ∃ fd, FunD K "_law_grouped" "_law_grouped" (defArgs (top 42)) (defBody (top 42)) (defScope (top 42)) [] [] (He.ga K "_law_grouped") fd
  g_law : mg "law" = some (.ref (He.ga K "law"))
  f_law : ∃ fd, FunD K "law" "law" (defArgs (top 43)) (defBody (top 43)) (defScope (top 43)) [] [] (He.ga K "law") fd
  g_InvalidExpression : mg "InvalidExpression" = some (.ref (He.ga K "InvalidExpression"))
  g_TesseraError : mg "TesseraError" = some (.ref (He.ga K "TesseraError"))
  g_InvalidDump : mg "InvalidDump" = some (.ref (He.ga K "InvalidDump"))
  n_ExpressionReader_words : NoAttr K (He.ga K "ExpressionReader") "words"
  n_ExpressionReader_at : NoAttr K (He.ga K "ExpressionReader") "at"
  b_len : mg "len" = none
  b_all : mg "all" = none
  b_int : mg "int" = none
  b_list : mg "list" = none
  b_max : mg "max" = none
  b_str : mg "str" = none
  b_tuple : mg "tuple" = none
  b_range : mg "range" = none
  b_isinstance : mg "isinstance" = none
  c_LONGEST_NAME : ∃ u, mg "LONGEST_NAME" = some u ∧ RelV (.int 12) u
  c_LETTERS : ∃ u, mg "LETTERS" = some u ∧ RelV (.str "abcdefghijklmnopqrstuvwxyz0123456789") u
  c_MOST_NAMES : ∃ u, mg "MOST_NAMES" = some u ∧ RelV (.int 6) u
  c_MOST_DIGITS : ∃ u, mg "MOST_DIGITS" = some u ∧ RelV (.int 30) u
  c_DIGITS : ∃ u, mg "DIGITS" = some u ∧ RelV (.str "0123456789") u
  c_GREATEST : ∃ u, mg "GREATEST" = some u ∧ RelV (.int 1000000000000000000000000000000) u
  c_PAIRS : ∃ u, mg "PAIRS" = some u ∧ RelV (.ref (He.ga K "PAIRS")) u
  k_PAIRS : ∀ H, SqT K H (He.ga K "PAIRS") ([(V.str "add"), (V.str "sub"), (V.str "mul"), (V.str "min"), (V.str "max"), (V.str "less")])
  c_DEEPEST : ∃ u, mg "DEEPEST" = some u ∧ RelV (.int 12) u
  x_InvalidExpression : PySem.W.excIn K (He.ga K "InvalidExpression") He.veBase "ValueError.__new__" = true ∧ PySem.W.keepIn K (.ref (He.ga K "InvalidExpression")) = true ∧ PySem.W.subIn K (.ref (He.ga K "InvalidExpression")) (.type "BaseException") = some true ∧ PySem.W.typeIn K (.ref (He.ga K "InvalidExpression")) = some (.type "type")
  e_InvalidExpression : ExcC K (He.ga K "InvalidExpression")
  i_InvalidExpression_TesseraError : PySem.W.kitOne K (.ref (He.ga K "InvalidExpression")) (.ref (He.ga K "TesseraError")) = some true
  i_InvalidExpression_InvalidDump : PySem.W.kitOne K (.ref (He.ga K "InvalidExpression")) (.ref (He.ga K "InvalidDump")) = some false
  m_InvalidExpression : PySem.W.exmOne K (.ref (He.ga K "InvalidExpression")) (.ref (He.ga K "InvalidExpression")) = some true

def t_is_name (K : PySem.W.Frag) : TS :=
  (tRet (tAndV (tChain rLeI rLeI (tC (.int 1)) (tCB (rLen K) (tCons (tVar 0) tNil)) (tC (.int 12))) (tCB (rAll K) (tCons (tLc (iStr (tVar 0)) (gName 1) tYes (tOp (rInU K) (tVar 1) (tC (.str "abcdefghijklmnopqrstuvwxyz0123456789"))) [1]) tNil))))

def t_is_path (K : PySem.W.Frag) (s_is_name : Sp) : TS :=
  (tSeq (tIfS (tTest (tOp (rEqU K) (tVar 0) (tC (.str "")))) (tRet (tC (.bl true))) tNext)
  (tSeq (tAsg (tM1 rSplitU (tVar 0) (tC (.str "/"))) (gName 1))
  (tRet (tAndV (tOp rLeI (tCB (rLen K) (tCons (tVar 1) tNil)) (tC (.int 6))) (tCB (rAll K) (tCons (tLc (iList K (tVar 1)) (gName 2) tYes (tCall s_is_name [] E0 (tCons (tVar 2) tNil)) [2]) tNil))))))

def t_read_integer (K : PySem.W.Frag) : TS :=
  (tSeq (tAsg (tVar 0) (gName 1))
  (tSeq (tIfS (tTest (tOp (rEqU K) (tSl (rSlU K) (tVar 0) tNoPart (tPart (tC (.int 1)))) (tC (.str "-")))) (tAsg (tSl (rSlU K) (tVar 0) (tPart (tC (.int 1))) tNoPart) (gName 1)) tNext)
  (tSeq (tIfS (tOr (tTest (tOp (rLtU K) (tCB (rLen K) (tCons (tVar 1) tNil)) (tC (.int 1)))) (tOr (tTest (tOp rGtI (tCB (rLen K) (tCons (tVar 1) tNil)) (tC (.int 30)))) (tNot (tB (tCB (rAll K) (tCons (tLc (iStr (tVar 1)) (gName 2) tYes (tOp (rInU K) (tVar 2) (tC (.str "0123456789"))) [2]) tNil)))))) (tRet (tC .non)) tNext)
  (tSeq (tIfS (tAnd (tTest (tOp (rEqU K) (tOp (rIx K) (tVar 1) (tC (.int 0))) (tC (.str "0")))) (tTest (tOp (rNeU K) (tVar 0) (tC (.str "0"))))) (tRet (tC .non)) tNext)
  (tRet (tCB rIntS (tCons (tVar 0) tNil)))))))

def t_parts_of (K : PySem.W.Frag) : TS :=
  (tSeq (tAsg (tOp (rIx K) (tVar 0) (tC (.int 0))) (gName 1))
  (tSeq (tIfS (tOr (tTest (tOp (rEqU K) (tVar 1) (tC (.str "path")))) (tTest (tOp (rEqU K) (tVar 1) (tC (.str "number"))))) (tRet (tLst tNil)) tNext)
  (tSeq (tIfS (tTest (tOp (rEqU K) (tVar 1) (tC (.str "shift")))) (tRet (tLst (tCons (tOp (rIx K) (tVar 0) (tC (.int 1))) tNil))) tNext)
  (tRet (tCB (rListU K) (tCons (tSl (rSlU K) (tVar 0) (tPart (tC (.int 1))) tNoPart) tNil))))))

def t_depth (K : PySem.W.Frag) (s_parts_of : Sp) (s_depth : Sp) : TS :=
  (tRet (tOp (rAddU K) (tC (.int 1)) (tCKw (rMaxD K) (tCons (tLc (iList K (tCall s_parts_of [] E0 (tCons (tVar 0) tNil))) (gName 1) tYes (tCall s_depth [] E0 (tCons (tVar 1) tNil)) [1]) tNil) (tCons (tC (.int 0)) tNil))))

def t_is_integer (K : PySem.W.Frag) : TS :=
  (tRet (tChain (rLtU K) (rLtU K) (tUn rNegU (tC (.int (1000000000000000000000000000000)))) (tVar 0) (tC (.int (1000000000000000000000000000000)))))

def t_has_valid_names (K : PySem.W.Frag) (s_parts_of : Sp) (s_has_valid_names : Sp) (s_is_integer : Sp) (s_is_path : Sp) : TS :=
  (tSeq (tAsg (tOp (rIx K) (tVar 0) (tC (.int 0))) (gName 1))
  (tSeq (tIfS (tTest (tOp (rEqU K) (tVar 1) (tC (.str "path")))) (tRet (tCall s_is_path [] E0 (tCons (tOp (rIx K) (tVar 0) (tC (.int 1))) tNil))) tNext)
  (tSeq (tIfS (tTest (tOp (rEqU K) (tVar 1) (tC (.str "number")))) (tRet (tCall s_is_integer [] E0 (tCons (tOp (rIx K) (tVar 0) (tC (.int 1))) tNil))) tNext)
  (tSeq (tIfS (tAnd (tTest (tOp (rEqU K) (tVar 1) (tC (.str "shift")))) (tNot (tB (tCB (rAll K) (tCons (tLc (iTup K (tOp (rIx K) (tVar 0) (tC (.int 2)))) (gName 3) tYes (tCall s_is_integer [] E0 (tCons (tVar 3) tNil)) [3]) tNil))))) (tRet (tC (.bl false))) tNext)
  (tSeq (tIfS (tAnd (tTest (tOp (rNinU K) (tVar 1) (tC (.ref (He.ga K "PAIRS"))))) (tTest (tOp (rNinU K) (tVar 1) (tTup (tCons (tC (.str "pick")) (tCons (tC (.str "shift")) tNil)))))) (tRet (tC (.bl false))) tNext)
  (tRet (tCB (rAll K) (tCons (tLc (iList K (tCall s_parts_of [] E0 (tCons (tVar 0) tNil))) (gName 2) tYes (tCall s_has_valid_names [] E0 (tCons (tVar 2) tNil)) [2]) tNil))))))))

def t_is_expression (K : PySem.W.Frag) (s_has_valid_names : Sp) (s_depth : Sp) : TS :=
  (tRet (tAndV (tCall s_has_valid_names [] E0 (tCons (tVar 0) tNil)) (tOp rLeI (tCall s_depth [] E0 (tCons (tVar 0) tNil)) (tC (.int 12)))))

def t_expression_words (K : PySem.W.Frag) (s_parts_of : Sp) (s_expression_words : Sp) : TS :=
  (tSeq (tAsg (tOp (rIx K) (tVar 0) (tC (.int 0))) (gName 1))
  (tSeq (tIfS (tTest (tOp (rEqU K) (tVar 1) (tC (.str "path")))) (tRet (tLst (tCons (tOp (rAddU K) (tC (.str "@")) (tOp (rIx K) (tVar 0) (tC (.int 1)))) tNil))) tNext)
  (tSeq (tIfS (tTest (tOp (rEqU K) (tVar 1) (tC (.str "number")))) (tRet (tLst (tCons (tCB rStrI (tCons (tOp (rIx K) (tVar 0) (tC (.int 1))) tNil)) tNil))) tNext)
  (tSeq (tAsg (tLst (tCons (tC (.str "(")) (tCons (tVar 1) tNil))) (gName 2))
  (tSeq (tFor (iList K (tCall s_parts_of [] E0 (tCons (tVar 0) tNil))) (gName 3) (tDrop (tBM K "list" rExtend (tVar 2) (tCons (tCall s_expression_words [] E0 (tCons (tVar 3) tNil)) tNil))))
  (tSeq (tIfS (tTest (tOp (rEqU K) (tVar 1) (tC (.str "shift")))) (tDrop (tBM K "list" rExtend (tVar 2) (tCons (tLc (iTup K (tOp (rIx K) (tVar 0) (tC (.int 2)))) (gName 4) tYes (tCB rStrI (tCons (tVar 4) tNil)) [4]) tNil))) tNext)
  (tRet (tOp (rAddU K) (tVar 2) (tLst (tCons (tC (.str ")")) tNil))))))))))

def t_format_expression (K : PySem.W.Frag) (s_expression_words : Sp) : TS :=
  (tRet (tM1 (rJoinU K) (tC (.str " ")) (tCall s_expression_words [] E0 (tCons (tVar 0) tNil))))

def t___init__ (K : PySem.W.Frag) : TS :=
  (tSeq (sFld K (tVar 0) (tVar 1) "words")
  (sFld K (tVar 0) (tC (.int 0)) "at"))

def t_step (K : PySem.W.Frag) : TS :=
  (tSeq (sFldAug K (tVar 0) (tC (.int 1)) rAdd "at")
  (tSeq (tIfS (tTest (tOp rLeI (tFld K (tVar 0) "at") (tCB (rLen K) (tCons (tFld K (tVar 0) "words") tNil)))) (tRet (tOp (rIx K) (tFld K (tVar 0) "words") (tOp rSubU (tFld K (tVar 0) "at") (tC (.int 1))))) tNext)
  (tRet (tC (.str "")))))

def t_read_offsets (K : PySem.W.Frag) (s_read_integer : Sp) (s_step : Sp) (E : XK) : TS :=
  (tSeq (tAsg (tLst tNil) (gName 1))
  (tSeq (tAsg (tMeth (He.ga K "ExpressionReader") "step" s_step [] E0 (tVar 0) tNil) (gName 2))
  (tSeq (tWhile (tTest (tOp (rNeU K) (tVar 2) (tC (.str ")")))) (tSeq (tAsg (tCall s_read_integer [] E0 (tCons (tVar 2) tNil)) (gName 3))
  (tSeq (tIfS (tTest (tOp rIsNo (tVar 3) (tC .non))) (tRaiseI (fun cls d _ H => E cls d H) (He.ga K "InvalidExpression")) tNext)
  (tSeq (tDrop (tBM K "list" rAppend (tVar 1) (tCons (tVar 3) tNil)))
  (tAsg (tMeth (He.ga K "ExpressionReader") "step" s_step [] E0 (tVar 0) tNil) (gName 2))))))
  (tRet (tCB (rTupleU K) (tCons (tVar 1) tNil))))))

def t_read_parts (K : PySem.W.Frag) (s_read : Sp) (E : XK) : TS :=
  (tRet (tLc (iRng1 (tCons (tVar 1) tNil)) (gName 3) tYes (tMeth (He.ga K "ExpressionReader") "read" s_read [] E (tVar 0) (tCons (tOp (rAddU K) (tVar 2) (tC (.int 1))) tNil)) [3]))

def t_read_end (K : PySem.W.Frag) (s_step : Sp) (E : XK) : TS :=
  (tIfS (tTest (tOp (rNeU K) (tMeth (He.ga K "ExpressionReader") "step" s_step [] E0 (tVar 0) tNil) (tC (.str ")")))) (tRaiseI (fun cls d _ H => E cls d H) (He.ga K "InvalidExpression")) tNext)

def t_read (K : PySem.W.Frag) (s_read_integer : Sp) (s_read_end : Sp) (s_read_parts : Sp) (s_read_offsets : Sp) (s_read : Sp) (s_step : Sp) (E : XK) : TS :=
  (tSeq (tAsg (tMeth (He.ga K "ExpressionReader") "step" s_step [] E0 (tVar 0) tNil) (gName 2))
  (tSeq (tIfS (tOr (tTest (tOp rGtI (tVar 1) (tC (.int 12)))) (tTest (tOp (rEqU K) (tVar 2) (tC (.str ""))))) (tRaiseI (fun cls d _ H => E cls d H) (He.ga K "InvalidExpression")) tNext)
  (tSeq (tIfS (tTest (tOp (rEqU K) (tOp (rIx K) (tVar 2) (tC (.int 0))) (tC (.str "@")))) (tRet (tTup (tCons (tC (.str "path")) (tCons (tSl (rSlU K) (tVar 2) (tPart (tC (.int 1))) tNoPart) tNil)))) tNext)
  (tSeq (tIfS (tTest (tOp (rNeU K) (tVar 2) (tC (.str "(")))) (tSeq (tAsg (tCall s_read_integer [] E0 (tCons (tVar 2) tNil)) (gName 3))
  (tSeq (tIfS (tTest (tOp rIsNo (tVar 3) (tC .non))) (tRaiseI (fun cls d _ H => E cls d H) (He.ga K "InvalidExpression")) tNext)
  (tRet (tTup (tCons (tC (.str "number")) (tCons (tVar 3) tNil)))))) tNext)
  (tSeq (tAsg (tMeth (He.ga K "ExpressionReader") "step" s_step [] E0 (tVar 0) tNil) (gName 4))
  (tSeq (tIfS (tTest (tOp (rEqU K) (tVar 4) (tC (.str "shift")))) (tSeq (tAsg (tMeth (He.ga K "ExpressionReader") "read" s_read [] E (tVar 0) (tCons (tOp (rAddU K) (tVar 1) (tC (.int 1))) tNil)) (gName 5))
  (tRet (tTup (tCons (tC (.str "shift")) (tCons (tVar 5) (tCons (tMeth (He.ga K "ExpressionReader") "read_offsets" s_read_offsets [] E (tVar 0) tNil) tNil)))))) tNext)
  (tSeq (tIfS (tTest (tOp (rInU K) (tVar 4) (tC (.ref (He.ga K "PAIRS"))))) (tAsg (tMeth (He.ga K "ExpressionReader") "read_parts" s_read_parts [] E (tVar 0) (tCons (tC (.int 2)) (tCons (tVar 1) tNil))) (gName 6)) (tIfS (tTest (tOp (rEqU K) (tVar 4) (tC (.str "pick")))) (tAsg (tMeth (He.ga K "ExpressionReader") "read_parts" s_read_parts [] E (tVar 0) (tCons (tC (.int 3)) (tCons (tVar 1) tNil))) (gName 6)) (tRaiseI (fun cls d _ H => E cls d H) (He.ga K "InvalidExpression"))))
  (tSeq (tDrop (tMeth (He.ga K "ExpressionReader") "read_end" s_read_end [] E (tVar 0) tNil))
  (tRet (tTup (tCons (tVar 4) (StX.tStar K (tVar 6) tNil))))))))))))

def t_parse_expression (K : PySem.W.Frag) (s_is_expression : Sp) (s_read : Sp) (s_mk_ExpressionReader : Sp) (E : XK) : TS :=
  (tSeq (tAsg (tMake (He.ga K "ExpressionReader") s_mk_ExpressionReader [] E0 (tCons (tM1 rSplitU (tVar 0) (tC (.str " "))) tNil)) (gName 1))
  (tSeq (tAsg (tMeth (He.ga K "ExpressionReader") "read" s_read [] E (tVar 1) (tCons (tC (.int 1)) tNil)) (gName 2))
  (tSeq (tIfS (tOr (tTest (tOp (rNeU K) (tFld K (tVar 1) "at") (tCB (rLen K) (tCons (tFld K (tVar 1) "words") tNil)))) (tNot (tB (tCall s_is_expression [] E0 (tCons (tVar 2) tNil))))) (tRaiseI (fun cls d _ H => E cls d H) (He.ga K "InvalidExpression")) tNext)
  (tRet (tVar 2)))))

def t__law_cell (K : PySem.W.Frag) : TS :=
  (tSeq (tIfS (tTest (tOp (rLtU K) (tVar 1) (tCB (rLen K) (tCons (tVar 0) tNil)))) (tRet (tOp (rIx K) (tVar 0) (tVar 1))) tNext)
  (tRet (tC (.int 0))))

def t__law_draws (K : PySem.W.Frag) : TS :=
  (tSeq (tAsg (tLst tNil) (gName 2))
  (tSeq (tAsg (tVar 0) (gName 3))
  (tSeq (tFor (iRng1 (tCons (tVar 1) tNil)) (gName 4) (tIfS (tAnd (tTest (tOp rGeI (tVar 0) (tOp rPowU (tC (.int 10)) (tC (.int 18))))) (tTest (tOp rGtI (tVar 3) (tC (.int 0))))) (tSeq (tDrop (tBM K "list" rAppend (tVar 2) (tCons (tOp rModU (tCB rIntU (tCons (tVar 3) tNil)) (tC (.int 4096))) tNil)))
  (tAsg (tOp rDivU (tVar 3) (tC (.int 4096))) (gName 3))) (tSeq (tAsg (tOp rModU (tCB rIntU (tCons (tOp (rAddU K) (tOp rMulU (tVar 0) (tC (.int 48271))) (tOp rMulU (tOp (rAddU K) (tVar 4) (tC (.int 1))) (tC (.int 69621)))) tNil)) (tC (.int 2147483647))) (gName 5))
  (tSeq (tAsg (tOp rModU (tCB rIntU (tCons (tOp (rAddU K) (tOp (rAddU K) (tOp rMulU (tVar 5) (tVar 5)) (tOp rMulU (tVar 5) (tC (.int 16807)))) (tOp rMulU (tVar 4) (tC (.int 7919)))) tNil)) (tC (.int 2147483629))) (gName 5))
  (tSeq (tAsg (tOp rModU (tCB rIntU (tCons (tOp (rAddU K) (tOp (rAddU K) (tOp rMulU (tVar 5) (tVar 5)) (tVar 0)) (tOp rMulU (tC (.int 13)) (tVar 4))) tNil)) (tC (.int 2147483587))) (gName 5))
  (tDrop (tBM K "list" rAppend (tVar 2) (tCons (tOp rModU (tOp rDivU (tVar 5) (tC (.int 7))) (tC (.int 4096))) tNil))))))))
  (tRet (tVar 2)))))

def t__law_is_text (K : PySem.W.Frag) : TS :=
  (tRet (tAndV (tCB (rIsi K) (tCons (tVar 0) (tCons (tC (.ty "str")) tNil))) (tOp (rEqU K) (tVar 0) (tVar 1))))

def t__law_stream (K : PySem.W.Frag) (s__law_draws : Sp) (s__law_cell : Sp) : TS :=
  (tSeq (tAsg (tLst tNil) (gName 2))
  (tSeq (tFor (iRng1 (tCons (tOp (rAddU K) (tC (.int 1)) (tOp rDivU (tVar 1) (tC (.int 16)))) tNil)) (gName 3) (tAsg (tOp (rAddU K) (tVar 2) (tCall s__law_draws [] E0 (tCons (tOp (rAddU K) (tCall s__law_cell [] E0 (tCons (tVar 0) (tCons (tVar 3) tNil))) (tOp rMulU (tC (.int 7)) (tVar 3))) (tCons (tC (.int 16)) tNil)))) (gName 2)))
  (tRet (tSl (rSlU K) (tVar 2) tNoPart (tPart (tVar 1))))))

def t__law_letters (K : PySem.W.Frag) : TS :=
  (tRet (tC (.str "abcdefghijklmnopqrstuvwxyz0123456789")))

def t__law_is_name_due (K : PySem.W.Frag) (s__law_letters : Sp) : TS :=
  (tSeq (tIfS (tOr (tTest (tOp (rLtU K) (tCB (rLen K) (tCons (tVar 0) tNil)) (tC (.int 1)))) (tTest (tOp rGtI (tCB (rLen K) (tCons (tVar 0) tNil)) (tC (.int 12))))) (tRet (tC (.bl false))) tNext)
  (tRet (tOp (rEqU K) (tCB (rLen K) (tCons (tLc (iStr (tVar 0)) (gName 1) (tTest (tOp (rNinU K) (tVar 1) (tCall s__law_letters [] E0 tNil))) (tVar 1) [1]) tNil)) (tC (.int 0)))))

def t__law_is_path_due (K : PySem.W.Frag) (s__law_is_name_due : Sp) : TS :=
  (tSeq (tIfS (tTest (tOp (rEqU K) (tVar 0) (tC (.str "")))) (tRet (tC (.bl true))) tNext)
  (tSeq (tAsg (tM1 rSplitU (tVar 0) (tC (.str "/"))) (gName 1))
  (tRet (tAndV (tOp rLeI (tCB (rLen K) (tCons (tVar 1) tNil)) (tC (.int 6))) (tOp (rEqU K) (tCB (rLen K) (tCons (tLc (iList K (tVar 1)) (gName 2) (tNot (tB (tCall s__law_is_name_due [] E0 (tCons (tVar 2) tNil)))) (tVar 2) [2]) tNil)) (tC (.int 0)))))))

def t__law_expression (K : PySem.W.Frag) (s__law_expression : Sp) : TS :=
  (tSeq (tAsg (tOp (rAddU K) (tOp (rIx K) (tVar 0) (tOp rModU (tVar 1) (tCB (rLen K) (tCons (tVar 0) tNil)))) (tOp rMulU (tC (.int 31)) (tVar 1))) (gName 4))
  (tSeq (tIfS (tOr (tTest (tOp (rEqU K) (tVar 2) (tC (.int 0)))) (tTest (tOp (rEqU K) (tOp rModU (tVar 4) (tC (.int 5))) (tC (.int 0))))) (tSeq (tIfS (tTest (tOp (rEqU K) (tOp rModU (tOp rDivU (tVar 4) (tC (.int 5))) (tC (.int 3))) (tC (.int 0)))) (tRet (tTup (tCons (tC (.str "number")) (tCons (tOp (rIx K) (tLst (tCons (tOp rSubU (tOp rModU (tOp rDivU (tVar 4) (tC (.int 15))) (tC (.int 9))) (tC (.int 4))) (tCons (tOp rSubU (tOp rPowU (tC (.int 10)) (tC (.int 29))) (tVar 4)) (tCons (tOp (rAddU K) (tUn rNegU (tOp rPowU (tC (.int 10)) (tC (.int 20)))) (tVar 4)) tNil)))) (tOp rModU (tOp rDivU (tVar 4) (tC (.int 135))) (tC (.int 3)))) tNil)))) tNext)
  (tRet (tTup (tCons (tC (.str "path")) (tCons (tOp (rIx K) (tLst (tCons (tC (.str "a")) (tCons (tC (.str "b")) (tCons (tC (.str "b/c")) tNil)))) (tOp rModU (tOp rDivU (tVar 4) (tC (.int 15))) (tC (.int 3)))) tNil))))) tNext)
  (tSeq (tAsg (tOp rModU (tOp rDivU (tVar 4) (tC (.int 5))) (tC (.int 9))) (gName 5))
  (tSeq (tAsg (tLc (iRng1 (tCons (tC (.int 3)) tNil)) (gName 7) tYes (tCall s__law_expression [] E0 (tCons (tVar 0) (tCons (tOp (rAddU K) (tOp (rAddU K) (tOp rMulU (tC (.int 3)) (tVar 1)) (tC (.int 1))) (tVar 7)) (tCons (tOp rSubU (tVar 2) (tC (.int 1))) (tCons (tVar 3) tNil))))) [7]) (gName 6))
  (tSeq (tIfS (tTest (tOp (rEqU K) (tVar 5) (tC (.int 7)))) (tRet (tTup (tCons (tC (.str "pick")) (tCons (tOp (rIx K) (tVar 6) (tC (.int 0))) (tCons (tOp (rIx K) (tVar 6) (tC (.int 1))) (tCons (tOp (rIx K) (tVar 6) (tC (.int 2))) tNil)))))) tNext)
  (tSeq (tIfS (tTest (tOp (rEqU K) (tVar 5) (tC (.int 8)))) (tRet (tTup (tCons (tC (.str "shift")) (tCons (tOp (rIx K) (tVar 6) (tC (.int 0))) (tCons (tCB (rTupleU K) (tCons (tLc (iRng1 (tCons (tVar 3) tNil)) (gName 7) tYes (tOp rSubU (tOp rModU (tOp (rIx K) (tVar 0) (tOp rModU (tOp (rAddU K) (tOp (rAddU K) (tVar 1) (tC (.int 5))) (tVar 7)) (tCB (rLen K) (tCons (tVar 0) tNil)))) (tC (.int 5))) (tC (.int 2))) [7]) tNil)) tNil))))) tNext)
  (tRet (tTup (tCons (tOp (rIx K) (tLst (tCons (tC (.str "add")) (tCons (tC (.str "sub")) (tCons (tC (.str "mul")) (tCons (tC (.str "min")) (tCons (tC (.str "max")) (tCons (tC (.str "less")) (tCons (tC (.str "add")) tNil)))))))) (tVar 5)) (tCons (tOp (rIx K) (tVar 6) (tC (.int 0))) (tCons (tOp (rIx K) (tVar 6) (tC (.int 1))) tNil)))))))))))

def t__law_parts (K : PySem.W.Frag) : TS :=
  (tSeq (tIfS (tTest (tOp (rInU K) (tOp (rIx K) (tVar 0) (tC (.int 0))) (tTup (tCons (tC (.str "path")) (tCons (tC (.str "number")) tNil))))) (tRet (tLst tNil)) tNext)
  (tSeq (tIfS (tTest (tOp (rEqU K) (tOp (rIx K) (tVar 0) (tC (.int 0))) (tC (.str "shift")))) (tRet (tLst (tCons (tOp (rIx K) (tVar 0) (tC (.int 1))) tNil))) tNext)
  (tRet (tCB (rListU K) (tCons (tSl (rSlU K) (tVar 0) (tPart (tC (.int 1))) tNoPart) tNil)))))

def t__law_depth (K : PySem.W.Frag) (s__law_parts : Sp) (s__law_depth : Sp) : TS :=
  (tRet (tOp (rAddU K) (tC (.int 1)) (tCB (rMax K) (tCons (tOp (rAddU K) (tLc (iList K (tCall s__law_parts [] E0 (tCons (tVar 0) tNil))) (gName 1) tYes (tCall s__law_depth [] E0 (tCons (tVar 1) tNil)) [1]) (tLst (tCons (tC (.int 0)) tNil))) tNil))))

def t__law_words (K : PySem.W.Frag) (s__law_parts : Sp) (s__law_words : Sp) : TS :=
  (tSeq (tIfS (tTest (tOp (rEqU K) (tOp (rIx K) (tVar 0) (tC (.int 0))) (tC (.str "path")))) (tRet (tLst (tCons (tOp (rAddU K) (tC (.str "@")) (tOp (rIx K) (tVar 0) (tC (.int 1)))) tNil))) tNext)
  (tSeq (tIfS (tTest (tOp (rEqU K) (tOp (rIx K) (tVar 0) (tC (.int 0))) (tC (.str "number")))) (tRet (tLst (tCons (tCB rStrI (tCons (tOp (rIx K) (tVar 0) (tC (.int 1))) tNil)) tNil))) tNext)
  (tSeq (tAsg (tLst (tCons (tC (.str "(")) (tCons (tOp (rIx K) (tVar 0) (tC (.int 0))) tNil))) (gName 1))
  (tSeq (tFor (iList K (tCall s__law_parts [] E0 (tCons (tVar 0) tNil))) (gName 2) (tAsg (tOp (rAddU K) (tVar 1) (tCall s__law_words [] E0 (tCons (tVar 2) tNil))) (gName 1)))
  (tSeq (tIfS (tTest (tOp (rEqU K) (tOp (rIx K) (tVar 0) (tC (.int 0))) (tC (.str "shift")))) (tAsg (tOp (rAddU K) (tVar 1) (tLc (iTup K (tOp (rIx K) (tVar 0) (tC (.int 2)))) (gName 3) tYes (tCB rStrI (tCons (tVar 3) tNil)) [3])) (gName 1)) tNext)
  (tRet (tOp (rAddU K) (tVar 1) (tLst (tCons (tC (.str ")")) tNil)))))))))

def t__law_integer_word (K : PySem.W.Frag) : TS :=
  (tSeq (tAsg (tIf (tTest (tOp (rEqU K) (tSl (rSlU K) (tVar 0) tNoPart (tPart (tC (.int 1)))) (tC (.str "-")))) (tSl (rSlU K) (tVar 0) (tPart (tC (.int 1))) tNoPart) (tVar 0)) (gName 1))
  (tSeq (tIfS (tOr (tTest (tOp (rLtU K) (tCB (rLen K) (tCons (tVar 1) tNil)) (tC (.int 1)))) (tOr (tTest (tOp rGtI (tCB (rLen K) (tCons (tVar 1) tNil)) (tC (.int 30)))) (tTest (tOp rGtI (tCB (rLen K) (tCons (tLc (iStr (tVar 1)) (gName 2) (tTest (tOp (rNinU K) (tVar 2) (tC (.str "0123456789")))) (tVar 2) [2]) tNil)) (tC (.int 0)))))) (tRet (tC (.bl false))) tNext)
  (tRet (tOrV (tOp (rEqU K) (tVar 0) (tC (.str "0"))) (tOp (rNeU K) (tOp (rIx K) (tVar 1) (tC (.int 0))) (tC (.str "0")))))))

def t__law_parsed (K : PySem.W.Frag) (s__law_atom : Sp) (s__law_grouped : Sp) : TS :=
  (tSeq (tAsg (tLst tNil) (gName 1))
  (tSeq (tFor (iList K (tVar 0)) (gName 2) (tIfS (tTest (tOp (rEqU K) (tVar 2) (tC (.str "(")))) (tDrop (tBM K "list" rAppend (tVar 1) (tCons (tC (.str "(")) tNil))) (tIfS (tTest (tOp (rEqU K) (tVar 2) (tC (.str ")")))) (tSeq (tAsg (tLst tNil) (gName 3))
  (tSeq (tWhile (tAnd (tTest (tOp rGtI (tCB (rLen K) (tCons (tVar 1) tNil)) (tC (.int 0)))) (tTest (tOp (rNeU K) (tOp (rIx K) (tVar 1) (tUn rNegU (tC (.int 1)))) (tC (.str "("))))) (tAsg (tOp (rAddU K) (tLst (tCons (tBM0 K "list" rPop (tVar 1)) tNil)) (tVar 3)) (gName 3)))
  (tSeq (tIfS (tTest (tOp (rEqU K) (tCB (rLen K) (tCons (tVar 1) tNil)) (tC (.int 0)))) (tRet (tC .non)) tNext)
  (tSeq (tDrop (tBM0 K "list" rPop (tVar 1)))
  (tSeq (tAsg (tCall s__law_grouped [] E0 (tCons (tVar 3) tNil)) (gName 4))
  (tSeq (tIfS (tTest (tOp rIsNo (tVar 4) (tC .non))) (tRet (tC .non)) tNext)
  (tDrop (tBM K "list" rAppend (tVar 1) (tCons (tVar 4) tNil))))))))) (tDrop (tBM K "list" rAppend (tVar 1) (tCons (tVar 2) tNil))))))
  (tSeq (tIfS (tOr (tTest (tOp (rNeU K) (tCB (rLen K) (tCons (tVar 1) tNil)) (tC (.int 1)))) (tTest (tOp (rEqU K) (tOp (rIx K) (tVar 1) (tC (.int 0))) (tC (.str "("))))) (tRet (tC .non)) tNext)
  (tRet (tCall s__law_atom [] E0 (tCons (tOp (rIx K) (tVar 1) (tC (.int 0))) tNil))))))

def t__law_atom (K : PySem.W.Frag) (s__law_integer_word : Sp) (s__law_is_path_due : Sp) : TS :=
  (tSeq (tIfS (tB (tCB (rIsi K) (tCons (tVar 0) (tCons (tC (.ty "tuple")) tNil)))) (tRet (tVar 0)) tNext)
  (tSeq (tIfS (tTest (tOp (rEqU K) (tSl (rSlU K) (tVar 0) tNoPart (tPart (tC (.int 1)))) (tC (.str "@")))) (tRet (tIf (tB (tCall s__law_is_path_due [] E0 (tCons (tSl (rSlU K) (tVar 0) (tPart (tC (.int 1))) tNoPart) tNil))) (tTup (tCons (tC (.str "path")) (tCons (tSl (rSlU K) (tVar 0) (tPart (tC (.int 1))) tNoPart) tNil))) (tC .non))) tNext)
  (tRet (tIf (tB (tCall s__law_integer_word [] E0 (tCons (tVar 0) tNil))) (tTup (tCons (tC (.str "number")) (tCons (tCB rIntS (tCons (tVar 0) tNil)) tNil))) (tC .non)))))

def t__law_grouped (K : PySem.W.Frag) (s__law_atom : Sp) : TS :=
  (tSeq (tIfS (tOr (tTest (tOp (rEqU K) (tCB (rLen K) (tCons (tVar 0) tNil)) (tC (.int 0)))) (tB (tCB (rIsi K) (tCons (tOp (rIx K) (tVar 0) (tC (.int 0))) (tCons (tC (.ty "tuple")) tNil))))) (tRet (tC .non)) tNext)
  (tSeq (tAsg (tLc (iList K (tSl (rSlU K) (tVar 0) (tPart (tC (.int 1))) tNoPart)) (gName 2) tYes (tCall s__law_atom [] E0 (tCons (tVar 2) tNil)) [2]) (gName 1))
  (tSeq (tIfS (tTest (tOp (rInD K) (tC .non) (tVar 1))) (tRet (tC .non)) tNext)
  (tSeq (tIfS (tTest (tOp (rEqU K) (tOp (rIx K) (tVar 0) (tC (.int 0))) (tC (.str "shift")))) (tSeq (tIfS (tOr (tTest (tOp (rLtU K) (tCB (rLen K) (tCons (tVar 1) tNil)) (tC (.int 1)))) (tTest (tOp rGtI (tCB (rLen K) (tCons (tLc (iList K (tSl (rSlU K) (tVar 0) (tPart (tC (.int 2))) tNoPart)) (gName 2) (tOr (tB (tCB (rIsi K) (tCons (tVar 2) (tCons (tC (.ty "tuple")) tNil)))) (tTest (tOp (rEqU K) (tSl (rSlU K) (tVar 2) tNoPart (tPart (tC (.int 1)))) (tC (.str "@"))))) (tVar 2) [2]) tNil)) (tC (.int 0))))) (tRet (tC .non)) tNext)
  (tRet (tTup (tCons (tC (.str "shift")) (tCons (tOp (rIx K) (tVar 1) (tC (.int 0))) (tCons (tCB (rTupleU K) (tCons (tLc (iList K (tSl (rSlU K) (tVar 1) (tPart (tC (.int 1))) tNoPart)) (gName 3) tYes (tOp (rIx K) (tVar 3) (tC (.int 1))) [3]) tNil)) tNil)))))) tNext)
  (tSeq (tIfS (tOr (tAnd (tTest (tOp (rInU K) (tOp (rIx K) (tVar 0) (tC (.int 0))) (tTup (tCons (tC (.str "add")) (tCons (tC (.str "sub")) (tCons (tC (.str "mul")) (tCons (tC (.str "min")) (tCons (tC (.str "max")) (tCons (tC (.str "less")) tNil))))))))) (tTest (tOp (rEqU K) (tCB (rLen K) (tCons (tVar 1) tNil)) (tC (.int 2))))) (tAnd (tTest (tOp (rEqU K) (tOp (rIx K) (tVar 0) (tC (.int 0))) (tC (.str "pick")))) (tTest (tOp (rEqU K) (tCB (rLen K) (tCons (tVar 1) tNil)) (tC (.int 3)))))) (tRet (tOp (rAddU K) (tTup (tCons (tOp (rIx K) (tVar 0) (tC (.int 0))) tNil)) (tCB (rTupleU K) (tCons (tVar 1) tNil)))) tNext)
  (tRet (tC .non)))))))

def t_law (K : PySem.W.Frag) (s_parse_expression : Sp) (s__law_depth : Sp) (s__law_parsed : Sp) (s__law_is_text : Sp) (s_format_expression : Sp) (s__law_words : Sp) (s__law_expression : Sp) (s__law_stream : Sp) : TS :=
  (tSeq (tAsg (tCall s__law_stream [] E0 (tCons (tVar 0) (tCons (tC (.int 48)) tNil))) (gName 1))
  (tSeq (tAsg (tCall s__law_expression [] E0 (tCons (tVar 1) (tCons (tC (.int 1)) (tCons (tOp rModU (tOp (rIx K) (tVar 1) (tC (.int 0))) (tC (.int 4))) (tCons (tOp rModU (tOp (rIx K) (tVar 1) (tC (.int 1))) (tC (.int 3))) tNil))))) (gName 2))
  (tSeq (tAsg (tOp (rIx K) (tLst (tCons (tC (.int 0)) (tCons (tC (.int 0)) (tCons (tC (.int 0)) (tCons (tC (.int 11)) (tCons (tC (.int 12)) (tCons (tC (.int 13)) tNil))))))) (tOp rModU (tOp (rIx K) (tVar 1) (tC (.int 2))) (tC (.int 6)))) (gName 3))
  (tSeq (tFor (iRng1 (tCons (tC (.int 13)) tNil)) (gName 4) (tIfS (tTest (tOp (rLtU K) (tCall s__law_depth [] E0 (tCons (tVar 2) tNil)) (tVar 3))) (tAsg (tIf (tTest (tOp (rEqU K) (tOp rModU (tOp (rIx K) (tVar 1) (tOp (rAddU K) (tC (.int 7)) (tVar 4))) (tC (.int 2))) (tC (.int 0)))) (tTup (tCons (tC (.str "shift")) (tCons (tVar 2) (tCons (tTup (tCons (tC (.int 1)) tNil)) tNil)))) (tTup (tCons (tC (.str "mul")) (tCons (tVar 2) (tCons (tTup (tCons (tC (.str "number")) (tCons (tUn rNegU (tVar 4)) tNil))) tNil))))) (gName 2)) tNext))
  (tSeq (tAsg (tCall s__law_words [] E0 (tCons (tVar 2) tNil)) (gName 5))
  (tSeq (tAsg (tCall s__law_depth [] E0 (tCons (tVar 2) tNil)) (gName 6))
  (tSeq (tAsg (tM1 (rJoinU K) (tC (.str " ")) (tVar 5)) (gName 7))
  (tSeq (tIfS (tAnd (tTest (tOp rLeI (tVar 6) (tC (.int 12)))) (tOr (tNot (tB (tCall s__law_is_text [] E0 (tCons (tCall s_format_expression [] E0 (tCons (tVar 2) tNil)) (tCons (tVar 7) tNil))))) (tTest (tOp (rNeU K) (tCall s_parse_expression [] E0 (tCons (tVar 7) tNil)) (tVar 2))))) (tRet (tC (.bl false))) tNext)
  (tSeq (tAsg (tOp rModU (tOp (rIx K) (tVar 1) (tC (.int 3))) (tCB (rLen K) (tCons (tVar 5) tNil))) (gName 8))
  (tSeq (tAsg (tOp rModU (tOp (rIx K) (tVar 1) (tC (.int 4))) (tC (.int 8))) (gName 9))
  (tSeq (tIfS (tTest (tOp (rEqU K) (tVar 9) (tC (.int 0)))) (tAsg (tOp (rAddU K) (tSl (rSlU K) (tVar 5) tNoPart (tPart (tVar 8))) (tSl (rSlU K) (tVar 5) (tPart (tOp (rAddU K) (tVar 8) (tC (.int 1)))) tNoPart)) (gName 5)) (tIfS (tTest (tOp (rEqU K) (tVar 9) (tC (.int 1)))) (tAsg (tOp (rAddU K) (tOp (rAddU K) (tSl (rSlU K) (tVar 5) tNoPart (tPart (tVar 8))) (tLst (tCons (tOp (rIx K) (tVar 5) (tVar 8)) tNil))) (tSl (rSlU K) (tVar 5) (tPart (tVar 8)) tNoPart)) (gName 5)) (tIfS (tTest (tOp (rEqU K) (tVar 9) (tC (.int 2)))) (tAsg (tOp (rIx K) (tLst (tCons (tC (.str "(")) (tCons (tC (.str ")")) (tCons (tC (.str "add")) (tCons (tC (.str "@a")) (tCons (tC (.str "@")) (tCons (tC (.str "@A")) (tCons (tC (.str "7")) (tCons (tC (.str "-0")) (tCons (tC (.str "007")) (tCons (tC (.str "")) (tCons (tC (.str "shift")) (tCons (tC (.str "pick")) (tCons (tC (.str "Add")) (tCons (tC (.str "-")) (tCons (tOp rMulS (tC (.str "1")) (tC (.int 31))) (tCons (tOp rMulS (tC (.str "9")) (tC (.int 30))) tNil))))))))))))))))) (tOp rModU (tOp (rIx K) (tVar 1) (tC (.int 5))) (tC (.int 16)))) (gSub (tVar 5) (tVar 8) rSetL)) (tIfS (tTest (tOp (rEqU K) (tVar 9) (tC (.int 3)))) (tAsg (tOp (rAddU K) (tOp (rIx K) (tVar 5) (tVar 8)) (tC (.str " "))) (gSub (tVar 5) (tVar 8) rSetL)) (tIfS (tTest (tOp (rEqU K) (tVar 9) (tC (.int 4)))) (tAsg (tOp (rAddU K) (tVar 5) (tLst (tCons (tOp (rIx K) (tLst (tCons (tC (.str ")")) (tCons (tC (.str "1")) (tCons (tC (.str "@a")) (tCons (tC (.str "")) tNil))))) (tOp rModU (tOp (rIx K) (tVar 1) (tC (.int 5))) (tC (.int 4)))) tNil))) (gName 5)) tNext)))))
  (tSeq (tAsg (tCall s__law_parsed [] E0 (tCons (tM1 rSplitU (tM1 (rJoinU K) (tC (.str " ")) (tVar 5)) (tC (.str " "))) tNil)) (gName 10))
  (tSeq (tIfS (tAnd (tTest (tOp rNotNo (tVar 10) (tC .non))) (tTest (tOp rGtI (tCall s__law_depth [] E0 (tCons (tVar 10) tNil)) (tC (.int 12))))) (tAsg (tC .non) (gName 10)) tNext)
  (tSeq (tTryAs K (He.ga K "InvalidExpression") 12 (fun W => (tAsg (tCallS s_parse_expression (WE W) (tCons (tM1 (rJoinU K) (tC (.str " ")) (tVar 5)) tNil)) (gName 11))) fun a cls d => (tRet (tAndV (tOp rIsNo (tVar 10) (tC .non)) (tAndV (tIsX (He.ga K "InvalidExpression") true a cls d 12) (tNotV (tIsX (He.ga K "InvalidExpression") false a cls d 12))))))
  (tRet (tAndV (tOp rNotNo (tVar 10) (tC .non)) (tOp (rEqU K) (tVar 11) (tVar 10))))))))))))))))))

end T95

set_option maxHeartbeats 4000000
/-! the derivations -/
namespace T95
open PySem PySem.Spec PyProof.Rows L2 T9
section
variable {P : Program} {w : World} {K : PySem.W.Frag} {mg : Str → Option Value} {base : Heap}

abbrev s_is_name_ : Stmt := top 8
theorem sc_is_name : FnScope ["name", "letter"] ["name"] (defScope s_is_name_) := ⟨rfl, rfl, rfl, by decide +kernel, rfl, by decide +kernel, by decide +kernel⟩
theorem ok_is_name {sp : Sp} {k : Nat} (T : Tx K mg) (len : ∀ vs H Q E, sp vs H Q E → vs.length = 1)
    (pure : ∀ vs H Q E, sp vs H Q E → t_is_name K { nx := fun _ H' => Q .non H', rt := Q } (L2.start ["name", "letter"] vs) H) : Cl P w K mg base CX0 (k + 1) "is_name" sp := by
  obtain ⟨fd, F⟩ := T.f_is_name
  refine ⟨_, fd, ["name"], T.g_is_name, F.kp, FunD.bindsN F fun _ _ _ _ _ _ us hl => match us, hl with | [_], _ => rfl, F.ok sc_is_name len fun cdv A outer s H vs Q E hr h => ⟨t_is_name K, PSs.nox ?_, pure vs H Q E h⟩⟩
  exact (pss_one (ps_ret (pe_and (pe_chain op_le op_le pe_int (pe_callB call_len (by rfl) T.b_len (by decide +kernel) (pa_cons (pv 0) pa_nil)) (pe_gc (by rfl) T.c_LONGEST_NAME)) (pe_one (pe_callB (cr_all rfl) (by rfl) T.b_all (by decide +kernel) (pa_cons (pe_lc (own := [("letter", 1)]) rfl sc_is_name.nd (pi_str (pv 0)) (blkOk_by (own := [("letter", 1)]) (N := ["name", "letter"]) (sc := defScope s_is_name_) (by decide +kernel)) (fun _ _ _ _ _ => (pg_name (i := 1) sc_is_name.nd rfl (by first | exact Or.inl rfl | exact Or.inr rfl))) (fun _ _ _ _ _ => pts_nil) (fun _ _ _ _ _ => (pe_cmpR op_inU (pv 1) (pe_gc (by rfl) T.c_LETTERS) (by rfl)))) pa_nil))))))

abbrev s_is_path_ : Stmt := top 9
theorem sc_is_path : FnScope ["path", "names", "name"] ["path"] (defScope s_is_path_) := ⟨rfl, rfl, rfl, by decide +kernel, rfl, by decide +kernel, by decide +kernel⟩
theorem ok_is_path {s_is_name : Sp} {sp : Sp} {k : Nat} (T : Tx K mg) (G_is_name : Cl P w K mg base CX0 k "is_name" s_is_name) (len : ∀ vs H Q E, sp vs H Q E → vs.length = 1)
    (pure : ∀ vs H Q E, sp vs H Q E → t_is_path K s_is_name { nx := fun _ H' => Q .non H', rt := Q } (L2.start ["path", "names", "name"] vs) H) : Cl P w K mg base CX0 (k + 1) "is_path" sp := by
  obtain ⟨fd, F⟩ := T.f_is_path
  refine ⟨_, fd, ["path"], T.g_is_path, F.kp, FunD.bindsN F fun _ _ _ _ _ _ us hl => match us, hl with | [_], _ => rfl, F.ok sc_is_path len fun cdv A outer s H vs Q E hr h => ⟨t_is_path K s_is_name, PSs.nox ?_, pure vs H Q E h⟩⟩
  exact (pss_cons (ps_if (pt_cmpR (op_eqU hr.units) (pv 0) pe_str (nomark _)) (pss_one (ps_ret pe_bl)) pss_nil)
    (pss_cons (ps_set (i := 1) sc_is_path.nd rfl (by first | exact Or.inl rfl | exact Or.inr rfl) (pe_split (pv 0) pe_str))
    (pss_one (ps_ret (pe_and (pe_cmpR op_le (pe_callB call_len (by rfl) T.b_len (by decide +kernel) (pa_cons (pv 1) pa_nil)) (pe_gc (by rfl) T.c_MOST_NAMES) (nomark _)) (pe_one (pe_callB (cr_all rfl) (by rfl) T.b_all (by decide +kernel) (pa_cons (pe_lc (own := [("name", 2)]) rfl sc_is_path.nd (pi_list (pv 1)) (blkOk_by (own := [("name", 2)]) (N := ["path", "names", "name"]) (sc := defScope s_is_path_) (by decide +kernel)) (fun _ _ _ _ _ => (pg_name (i := 2) sc_is_path.nd rfl (by first | exact Or.inl rfl | exact Or.inr rfl))) (fun _ _ _ _ _ => pts_nil) (fun _ _ _ _ _ => (pe_cl G_is_name hr (by rfl) pass0 (pa_cons (pv 2) pa_nil)))) pa_nil))))))))

abbrev s_read_integer_ : Stmt := top 13
theorem sc_read_integer : FnScope ["word", "digits", "letter"] ["word"] (defScope s_read_integer_) := ⟨rfl, rfl, rfl, by decide +kernel, rfl, by decide +kernel, by decide +kernel⟩
theorem ok_read_integer {sp : Sp} {k : Nat} (T : Tx K mg) (len : ∀ vs H Q E, sp vs H Q E → vs.length = 1)
    (pure : ∀ vs H Q E, sp vs H Q E → t_read_integer K { nx := fun _ H' => Q .non H', rt := Q } (L2.start ["word", "digits", "letter"] vs) H) : Cl P w K mg base CX0 (k + 1) "read_integer" sp := by
  obtain ⟨fd, F⟩ := T.f_read_integer
  refine ⟨_, fd, ["word"], T.g_read_integer, F.kp, FunD.bindsN F fun _ _ _ _ _ _ us hl => match us, hl with | [_], _ => rfl, F.ok sc_read_integer len fun cdv A outer s H vs Q E hr h => ⟨t_read_integer K, PSs.nox ?_, pure vs H Q E h⟩⟩
  exact (pss_cons (ps_set (i := 1) sc_read_integer.nd rfl (by first | exact Or.inl rfl | exact Or.inr rfl) (pv 0))
    (pss_cons (ps_if (pt_cmpR (op_eqU hr.units) (pe_slice sl_U (pv 0) po_none (po_some pe_int)) pe_str (nomark _)) (pss_one (ps_set (i := 1) sc_read_integer.nd rfl (by first | exact Or.inl rfl | exact Or.inr rfl) (pe_slice sl_U (pv 0) (po_some pe_int) po_none))) pss_nil)
    (pss_cons (ps_if (PW.pt (pw_or (pt_cmpR (op_ltU hr.units0) (pe_callB call_len (by rfl) T.b_len (by decide +kernel) (pa_cons (pv 1) pa_nil)) pe_int (nomark _)) (pw_or (pt_cmpR op_gt (pe_callB call_len (by rfl) T.b_len (by decide +kernel) (pa_cons (pv 1) pa_nil)) (pe_gc (by rfl) T.c_MOST_DIGITS) (nomark _)) (pw_or1 (pt_not (pt_val (pe_callB (cr_all rfl) (by rfl) T.b_all (by decide +kernel) (pa_cons (pe_lc (own := [("letter", 2)]) rfl sc_read_integer.nd (pi_str (pv 1)) (blkOk_by (own := [("letter", 2)]) (N := ["word", "digits", "letter"]) (sc := defScope s_read_integer_) (by decide +kernel)) (fun _ _ _ _ _ => (pg_name (i := 2) sc_read_integer.nd rfl (by first | exact Or.inl rfl | exact Or.inr rfl))) (fun _ _ _ _ _ => pts_nil) (fun _ _ _ _ _ => (pe_cmpR op_inU (pv 2) (pe_gc (by rfl) T.c_DIGITS) (by rfl)))) pa_nil)))))))) (pss_one (ps_ret pe_non)) pss_nil)
    (pss_cons (ps_if (PW.pt (pw_and (pt_cmpR (op_eqU hr.units) (pe_ix ix_seq (pv 1) pe_int (fun _ _ => rfl)) pe_str (nomark _)) (pw_and1 (pt_cmpR (op_neU hr.units) (pv 0) pe_str (nomark _))))) (pss_one (ps_ret pe_non)) pss_nil)
    (pss_one (ps_ret (pe_callTy call_int_str (by rfl) T.b_int (by decide +kernel) (pa_cons (pv 0) pa_nil))))))))

abbrev s_parts_of_ : Stmt := top 18
theorem sc_parts_of : FnScope ["expression", "kind"] ["expression"] (defScope s_parts_of_) := ⟨rfl, rfl, rfl, by decide +kernel, rfl, by decide +kernel, by decide +kernel⟩
theorem ok_parts_of {sp : Sp} {k : Nat} (T : Tx K mg) (len : ∀ vs H Q E, sp vs H Q E → vs.length = 1)
    (pure : ∀ vs H Q E, sp vs H Q E → t_parts_of K { nx := fun _ H' => Q .non H', rt := Q } (L2.start ["expression", "kind"] vs) H) : Cl P w K mg base CX0 (k + 1) "parts_of" sp := by
  obtain ⟨fd, F⟩ := T.f_parts_of
  refine ⟨_, fd, ["expression"], T.g_parts_of, F.kp, FunD.bindsN F fun _ _ _ _ _ _ us hl => match us, hl with | [_], _ => rfl, F.ok sc_parts_of len fun cdv A outer s H vs Q E hr h => ⟨t_parts_of K, PSs.nox ?_, pure vs H Q E h⟩⟩
  exact (pss_cons (ps_set (i := 1) sc_parts_of.nd rfl (by first | exact Or.inl rfl | exact Or.inr rfl) (pe_ix ix_seq (pv 0) pe_int (fun _ _ => rfl)))
    (pss_cons (ps_if (PW.pt (pw_or (pt_cmpR (op_eqU hr.units) (pv 1) pe_str (nomark _)) (pw_or1 (pt_cmpR (op_eqU hr.units) (pv 1) pe_str (nomark _))))) (pss_one (ps_ret (pe_lst pa_nil))) pss_nil)
    (pss_cons (ps_if (pt_cmpR (op_eqU hr.units) (pv 1) pe_str (nomark _)) (pss_one (ps_ret (pe_lst (pa_cons (pe_ix ix_seq (pv 0) pe_int (fun _ _ => rfl)) pa_nil)))) pss_nil)
    (pss_one (ps_ret (pe_callTy call_list_of (by rfl) T.b_list (by decide +kernel) (pa_cons (pe_slice sl_U (pv 0) (po_some pe_int) po_none) pa_nil)))))))

abbrev s_depth_ : Stmt := top 19
theorem sc_depth : FnScope ["expression", "part"] ["expression"] (defScope s_depth_) := ⟨rfl, rfl, rfl, by decide +kernel, rfl, by decide +kernel, by decide +kernel⟩
theorem ok_depth {s_parts_of : Sp} {s_depth : Sp} {sp : Sp} {k : Nat} (T : Tx K mg) (G_parts_of : Cl P w K mg base CX0 k "parts_of" s_parts_of) (G_depth : Cl P w K mg base CX0 k "depth" s_depth) (len : ∀ vs H Q E, sp vs H Q E → vs.length = 1)
    (pure : ∀ vs H Q E, sp vs H Q E → t_depth K s_parts_of s_depth { nx := fun _ H' => Q .non H', rt := Q } (L2.start ["expression", "part"] vs) H) : Cl P w K mg base CX0 (k + 1) "depth" sp := by
  obtain ⟨fd, F⟩ := T.f_depth
  refine ⟨_, fd, ["expression"], T.g_depth, F.kp, FunD.bindsN F fun _ _ _ _ _ _ us hl => match us, hl with | [_], _ => rfl, F.ok sc_depth len fun cdv A outer s H vs Q E hr h => ⟨t_depth K s_parts_of s_depth, PSs.nox ?_, pure vs H Q E h⟩⟩
  exact (pss_one (ps_ret (pe_op op_addU pe_int (pe_callBK (cr_maxDft rfl) (by rfl) T.b_max (by decide +kernel) (pa_cons (pe_lc (own := [("part", 1)]) rfl sc_depth.nd (pi_list (pe_cl G_parts_of hr (by rfl) pass0 (pa_cons (pv 0) pa_nil))) (blkOk_by (own := [("part", 1)]) (N := ["expression", "part"]) (sc := defScope s_depth_) (by decide +kernel)) (fun _ _ _ _ _ => (pg_name (i := 1) sc_depth.nd rfl (by first | exact Or.inl rfl | exact Or.inr rfl))) (fun _ _ _ _ _ => pts_nil) (fun _ _ _ _ _ => (pe_cl G_depth hr (by rfl) pass0 (pa_cons (pv 1) pa_nil)))) pa_nil) (pk_cons pe_int pk_nil)))))

abbrev s_is_integer_ : Stmt := top 20
theorem sc_is_integer : FnScope ["number"] ["number"] (defScope s_is_integer_) := ⟨rfl, rfl, rfl, by decide +kernel, rfl, by decide +kernel, by decide +kernel⟩
theorem ok_is_integer {sp : Sp} {k : Nat} (T : Tx K mg) (len : ∀ vs H Q E, sp vs H Q E → vs.length = 1)
    (pure : ∀ vs H Q E, sp vs H Q E → t_is_integer K { nx := fun _ H' => Q .non H', rt := Q } (L2.start ["number"] vs) H) : Cl P w K mg base CX0 (k + 1) "is_integer" sp := by
  obtain ⟨fd, F⟩ := T.f_is_integer
  refine ⟨_, fd, ["number"], T.g_is_integer, F.kp, FunD.bindsN F fun _ _ _ _ _ _ us hl => match us, hl with | [_], _ => rfl, F.ok sc_is_integer len fun cdv A outer s H vs Q E hr h => ⟨t_is_integer K, PSs.nox ?_, pure vs H Q E h⟩⟩
  exact (pss_one (ps_ret (pe_chain (op_ltU hr.units0) (op_ltU hr.units0) (pe_un un_neg (pe_gc (by rfl) T.c_GREATEST)) (pv 0) (pe_gc (by rfl) T.c_GREATEST))))

abbrev s_has_valid_names_ : Stmt := top 21
theorem sc_has_valid_names : FnScope ["expression", "kind", "part", "number"] ["expression"] (defScope s_has_valid_names_) := ⟨rfl, rfl, rfl, by decide +kernel, rfl, by decide +kernel, by decide +kernel⟩
theorem ok_has_valid_names {s_parts_of : Sp} {s_has_valid_names : Sp} {s_is_integer : Sp} {s_is_path : Sp} {sp : Sp} {k : Nat} (T : Tx K mg) (G_parts_of : Cl P w K mg base CX0 k "parts_of" s_parts_of) (G_has_valid_names : Cl P w K mg base CX0 k "has_valid_names" s_has_valid_names) (G_is_integer : Cl P w K mg base CX0 k "is_integer" s_is_integer) (G_is_path : Cl P w K mg base CX0 k "is_path" s_is_path) (len : ∀ vs H Q E, sp vs H Q E → vs.length = 1)
    (pure : ∀ vs H Q E, sp vs H Q E → t_has_valid_names K s_parts_of s_has_valid_names s_is_integer s_is_path { nx := fun _ H' => Q .non H', rt := Q } (L2.start ["expression", "kind", "part", "number"] vs) H) : Cl P w K mg base CX0 (k + 1) "has_valid_names" sp := by
  obtain ⟨fd, F⟩ := T.f_has_valid_names
  refine ⟨_, fd, ["expression"], T.g_has_valid_names, F.kp, FunD.bindsN F fun _ _ _ _ _ _ us hl => match us, hl with | [_], _ => rfl, F.ok sc_has_valid_names len fun cdv A outer s H vs Q E hr h => ⟨t_has_valid_names K s_parts_of s_has_valid_names s_is_integer s_is_path, PSs.nox ?_, pure vs H Q E h⟩⟩
  exact (pss_cons (ps_set (i := 1) sc_has_valid_names.nd rfl (by first | exact Or.inl rfl | exact Or.inr rfl) (pe_ix ix_seq (pv 0) pe_int (fun _ _ => rfl)))
    (pss_cons (ps_if (pt_cmpR (op_eqU hr.units) (pv 1) pe_str (nomark _)) (pss_one (ps_ret (pe_cl G_is_path hr (by rfl) pass0 (pa_cons (pe_ix ix_seq (pv 0) pe_int (fun _ _ => rfl)) pa_nil)))) pss_nil)
    (pss_cons (ps_if (pt_cmpR (op_eqU hr.units) (pv 1) pe_str (nomark _)) (pss_one (ps_ret (pe_cl G_is_integer hr (by rfl) pass0 (pa_cons (pe_ix ix_seq (pv 0) pe_int (fun _ _ => rfl)) pa_nil)))) pss_nil)
    (pss_cons (ps_if (PW.pt (pw_and (pt_cmpR (op_eqU hr.units) (pv 1) pe_str (nomark _)) (pw_and1 (pt_not (pt_val (pe_callB (cr_all rfl) (by rfl) T.b_all (by decide +kernel) (pa_cons (pe_lc (own := [("number", 3)]) rfl sc_has_valid_names.nd (pi_tup (pe_ix ix_seq (pv 0) pe_int (fun _ _ => rfl))) (blkOk_by (own := [("number", 3)]) (N := ["expression", "kind", "part", "number"]) (sc := defScope s_has_valid_names_) (by decide +kernel)) (fun _ _ _ _ _ => (pg_name (i := 3) sc_has_valid_names.nd rfl (by first | exact Or.inl rfl | exact Or.inr rfl))) (fun _ _ _ _ _ => pts_nil) (fun _ _ _ _ _ => (pe_cl G_is_integer hr (by rfl) pass0 (pa_cons (pv 3) pa_nil)))) pa_nil))))))) (pss_one (ps_ret pe_bl)) pss_nil)
    (pss_cons (ps_if (PW.pt (pw_and (pt_cmpR op_ninU (pv 1) (pe_gc (by rfl) T.c_PAIRS) (by rfl)) (pw_and1 (pt_cmpR op_ninU (pv 1) (pe_tup (pa_cons pe_str (pa_cons pe_str pa_nil))) (by rfl))))) (pss_one (ps_ret pe_bl)) pss_nil)
    (pss_one (ps_ret (pe_callB (cr_all rfl) (by rfl) T.b_all (by decide +kernel) (pa_cons (pe_lc (own := [("part", 2)]) rfl sc_has_valid_names.nd (pi_list (pe_cl G_parts_of hr (by rfl) pass0 (pa_cons (pv 0) pa_nil))) (blkOk_by (own := [("part", 2)]) (N := ["expression", "kind", "part", "number"]) (sc := defScope s_has_valid_names_) (by decide +kernel)) (fun _ _ _ _ _ => (pg_name (i := 2) sc_has_valid_names.nd rfl (by first | exact Or.inl rfl | exact Or.inr rfl))) (fun _ _ _ _ _ => pts_nil) (fun _ _ _ _ _ => (pe_cl G_has_valid_names hr (by rfl) pass0 (pa_cons (pv 2) pa_nil)))) pa_nil)))))))))

abbrev s_is_expression_ : Stmt := top 22
theorem sc_is_expression : FnScope ["expression"] ["expression"] (defScope s_is_expression_) := ⟨rfl, rfl, rfl, by decide +kernel, rfl, by decide +kernel, by decide +kernel⟩
theorem ok_is_expression {s_has_valid_names : Sp} {s_depth : Sp} {sp : Sp} {k : Nat} (T : Tx K mg) (G_has_valid_names : Cl P w K mg base CX0 k "has_valid_names" s_has_valid_names) (G_depth : Cl P w K mg base CX0 k "depth" s_depth) (len : ∀ vs H Q E, sp vs H Q E → vs.length = 1)
    (pure : ∀ vs H Q E, sp vs H Q E → t_is_expression K s_has_valid_names s_depth { nx := fun _ H' => Q .non H', rt := Q } (L2.start ["expression"] vs) H) : Cl P w K mg base CX0 (k + 1) "is_expression" sp := by
  obtain ⟨fd, F⟩ := T.f_is_expression
  refine ⟨_, fd, ["expression"], T.g_is_expression, F.kp, FunD.bindsN F fun _ _ _ _ _ _ us hl => match us, hl with | [_], _ => rfl, F.ok sc_is_expression len fun cdv A outer s H vs Q E hr h => ⟨t_is_expression K s_has_valid_names s_depth, PSs.nox ?_, pure vs H Q E h⟩⟩
  exact (pss_one (ps_ret (pe_and (pe_cl G_has_valid_names hr (by rfl) pass0 (pa_cons (pv 0) pa_nil)) (pe_one (pe_cmpR op_le (pe_cl G_depth hr (by rfl) pass0 (pa_cons (pv 0) pa_nil)) (pe_gc (by rfl) T.c_DEEPEST) (nomark _))))))

abbrev s_expression_words_ : Stmt := top 23
theorem sc_expression_words : FnScope ["expression", "kind", "words", "part", "number"] ["expression"] (defScope s_expression_words_) := ⟨rfl, rfl, rfl, by decide +kernel, rfl, by decide +kernel, by decide +kernel⟩
theorem ok_expression_words {s_parts_of : Sp} {s_expression_words : Sp} {sp : Sp} {k : Nat} (T : Tx K mg) (G_parts_of : Cl P w K mg base CX0 k "parts_of" s_parts_of) (G_expression_words : Cl P w K mg base CX0 k "expression_words" s_expression_words) (len : ∀ vs H Q E, sp vs H Q E → vs.length = 1)
    (pure : ∀ vs H Q E, sp vs H Q E → t_expression_words K s_parts_of s_expression_words { nx := fun _ H' => Q .non H', rt := Q } (L2.start ["expression", "kind", "words", "part", "number"] vs) H) : Cl P w K mg base CX0 (k + 1) "expression_words" sp := by
  obtain ⟨fd, F⟩ := T.f_expression_words
  refine ⟨_, fd, ["expression"], T.g_expression_words, F.kp, FunD.bindsN F fun _ _ _ _ _ _ us hl => match us, hl with | [_], _ => rfl, F.ok sc_expression_words len fun cdv A outer s H vs Q E hr h => ⟨t_expression_words K s_parts_of s_expression_words, PSs.nox ?_, pure vs H Q E h⟩⟩
  exact (pss_cons (ps_set (i := 1) sc_expression_words.nd rfl (by first | exact Or.inl rfl | exact Or.inr rfl) (pe_ix ix_seq (pv 0) pe_int (fun _ _ => rfl)))
    (pss_cons (ps_if (pt_cmpR (op_eqU hr.units) (pv 1) pe_str (nomark _)) (pss_one (ps_ret (pe_lst (pa_cons (pe_op op_addU pe_str (pe_ix ix_seq (pv 0) pe_int (fun _ _ => rfl))) pa_nil)))) pss_nil)
    (pss_cons (ps_if (pt_cmpR (op_eqU hr.units) (pv 1) pe_str (nomark _)) (pss_one (ps_ret (pe_lst (pa_cons (pe_callTy call_str_int (by rfl) T.b_str (by decide +kernel) (pa_cons (pe_ix ix_seq (pv 0) pe_int (fun _ _ => rfl)) pa_nil)) pa_nil)))) pss_nil)
    (pss_cons (ps_set (i := 2) sc_expression_words.nd rfl (by first | exact Or.inl rfl | exact Or.inr rfl) (pe_lst (pa_cons pe_str (pa_cons (pv 1) pa_nil))))
    (pss_cons (ps_for PassesOwn.never rfl (pi_list (pe_cl G_parts_of hr (by rfl) pass0 (pa_cons (pv 0) pa_nil))) (pg_name (i := 3) sc_expression_words.nd rfl (by first | exact Or.inl rfl | exact Or.inr rfl)) (pss_one (ps_expr (pe_bm PySem.F.plainAttrs_list PySem.F.slot_list_extend PySem.F.type_list_extend mt_extend (pv 2) (pa_cons (pe_cl G_expression_words hr (by rfl) pass0 (pa_cons (pv 3) pa_nil)) pa_nil)))))
    (pss_cons (ps_if (pt_cmpR (op_eqU hr.units) (pv 1) pe_str (nomark _)) (pss_one (ps_expr (pe_bm PySem.F.plainAttrs_list PySem.F.slot_list_extend PySem.F.type_list_extend mt_extend (pv 2) (pa_cons (pe_lc (own := [("number", 4)]) rfl sc_expression_words.nd (pi_tup (pe_ix ix_seq (pv 0) pe_int (fun _ _ => rfl))) (blkOk_by (own := [("number", 4)]) (N := ["expression", "kind", "words", "part", "number"]) (sc := defScope s_expression_words_) (by decide +kernel)) (fun _ _ _ _ _ => (pg_name (i := 4) sc_expression_words.nd rfl (by first | exact Or.inl rfl | exact Or.inr rfl))) (fun _ _ _ _ _ => pts_nil) (fun _ _ _ _ _ => (pe_callTy call_str_int (by rfl) T.b_str (by decide +kernel) (pa_cons (pv 4) pa_nil)))) pa_nil)))) pss_nil)
    (pss_one (ps_ret (pe_op op_addU (pv 2) (pe_lst (pa_cons pe_str pa_nil)))))))))))

abbrev s_format_expression_ : Stmt := top 24
theorem sc_format_expression : FnScope ["expression"] ["expression"] (defScope s_format_expression_) := ⟨rfl, rfl, rfl, by decide +kernel, rfl, by decide +kernel, by decide +kernel⟩
theorem ok_format_expression {s_expression_words : Sp} {sp : Sp} {k : Nat} (T : Tx K mg) (G_expression_words : Cl P w K mg base CX0 k "expression_words" s_expression_words) (len : ∀ vs H Q E, sp vs H Q E → vs.length = 1)
    (pure : ∀ vs H Q E, sp vs H Q E → t_format_expression K s_expression_words { nx := fun _ H' => Q .non H', rt := Q } (L2.start ["expression"] vs) H) : Cl P w K mg base CX0 (k + 1) "format_expression" sp := by
  obtain ⟨fd, F⟩ := T.f_format_expression
  refine ⟨_, fd, ["expression"], T.g_format_expression, F.kp, FunD.bindsN F fun _ _ _ _ _ _ us hl => match us, hl with | [_], _ => rfl, F.ok sc_format_expression len fun cdv A outer s H vs Q E hr h => ⟨t_format_expression K s_expression_words, PSs.nox ?_, pure vs H Q E h⟩⟩
  exact (pss_one (ps_ret (pe_join pe_str (pe_cl G_expression_words hr (by rfl) pass0 (pa_cons (pv 0) pa_nil)))))

abbrev s___init___ : Stmt := mth 25 0
theorem sc___init__ : FnScope ["self", "words"] ["self", "words"] (defScope s___init___) := ⟨rfl, rfl, rfl, by decide +kernel, rfl, by decide +kernel, by decide +kernel⟩
theorem ok___init__ {sp : Sp} {k : Nat} (T : Tx K mg) (len : ∀ vs H Q E, sp vs H Q E → vs.length = 2)
    (pure : ∀ vs H Q E, sp vs H Q E → t___init__ K { nx := fun _ H' => Q .non H', rt := Q } (L2.start ["self", "words"] vs) H) : Mi P w K mg base CX0 (k + 1) (He.ga K "ExpressionReader") sp := by
  obtain ⟨fd, F⟩ := T.f___init__
  refine ⟨_, fd, ["self", "words"], T.mk_ExpressionReader, FunD.bindsN F fun _ _ _ _ _ _ us hl => match us, hl with | [_, _], _ => rfl, F.ok sc___init__ len fun cdv A outer s H vs Q E hr h => ⟨t___init__ K, PSs.nox ?_, pure vs H Q E h⟩⟩
  exact (pss_cons (ps_fld (pv 0) (pv 1) rfl)
    (pss_one (ps_fld (pv 0) pe_int rfl)))

abbrev s_step_ : Stmt := mth 25 1
theorem sc_step : FnScope ["self"] ["self"] (defScope s_step_) := ⟨rfl, rfl, rfl, by decide +kernel, rfl, by decide +kernel, by decide +kernel⟩
theorem ok_step {sp : Sp} {k : Nat} (T : Tx K mg) (len : ∀ vs H Q E, sp vs H Q E → vs.length = 1)
    (pure : ∀ vs H Q E, sp vs H Q E → t_step K { nx := fun _ H' => Q .non H', rt := Q } (L2.start ["self"] vs) H) : Me P w K mg base CX0 (k + 1) (He.ga K "ExpressionReader") "step" sp := by
  obtain ⟨fd, F⟩ := T.f_step
  refine ⟨_, fd, ["self"], T.m_step, FunD.bindsN F fun _ _ _ _ _ _ us hl => match us, hl with | [_], _ => rfl, F.ok sc_step len fun cdv A outer s H vs Q E hr h => ⟨t_step K, PSs.nox ?_, pure vs H Q E h⟩⟩
  exact (pss_cons (ps_fldaug (pv 0) pe_int in_add)
    (pss_cons (ps_if (pt_cmpR op_le (pe_fld (pv 0) rfl) (pe_callB call_len (by rfl) T.b_len (by decide +kernel) (pa_cons (pe_fld (pv 0) rfl) pa_nil)) (nomark _)) (pss_one (ps_ret (pe_ix ix_seq (pe_fld (pv 0) rfl) (pe_op op_sub (pe_fld (pv 0) rfl) pe_int) (fun _ _ => rfl)))) pss_nil)
    (pss_one (ps_ret pe_str))))

abbrev s_read_offsets_ : Stmt := mth 25 2
theorem sc_read_offsets : FnScope ["self", "numbers", "word", "number"] ["self"] (defScope s_read_offsets_) := ⟨rfl, rfl, rfl, by decide +kernel, rfl, by decide +kernel, by decide +kernel⟩
theorem ok_read_offsets {s_read_integer : Sp} {s_step : Sp} {sp : Sp} {k : Nat} (T : Tx K mg) (G_read_integer : Cl P w K mg base CX0 k "read_integer" s_read_integer) (M_step : Me P w K mg base CX0 k (He.ga K "ExpressionReader") "step" s_step) (len : ∀ vs H Q E, sp vs H Q E → vs.length = 1)
    (pure : ∀ vs H Q E, sp vs H Q E → t_read_offsets K s_read_integer s_step E { nx := fun _ H' => Q .non H', rt := Q } (L2.start ["self", "numbers", "word", "number"] vs) H) : Me P w K mg base (L2.CX P w) (k + 1) (He.ga K "ExpressionReader") "read_offsets" sp := by
  obtain ⟨fd, F⟩ := T.f_read_offsets
  refine ⟨_, fd, ["self"], T.m_read_offsets, FunD.bindsN F fun _ _ _ _ _ _ us hl => match us, hl with | [_], _ => rfl, F.ok sc_read_offsets len fun cdv A outer s H vs Q E hr h => ⟨t_read_offsets K s_read_integer s_step E, ?_, pure vs H Q E h⟩⟩
  exact (pss_cons (ps_set (i := 1) sc_read_offsets.nd rfl (by first | exact Or.inl rfl | exact Or.inr rfl) (pe_lst pa_nil))
    (pss_cons (ps_set (i := 2) sc_read_offsets.nd rfl (by first | exact Or.inl rfl | exact Or.inr rfl) (pe_me0 M_step hr T.l_ExpressionReader pass0 (pv 0)))
    (pss_cons (ps_while (passes_of rfl) (pt_cmpR (op_neU hr.units) (pv 2) pe_str (nomark _)) (pss_cons (ps_set (i := 3) sc_read_offsets.nd rfl (by first | exact Or.inl rfl | exact Or.inr rfl) (pe_cl G_read_integer hr (by rfl) pass0 (pa_cons (pv 2) pa_nil)))
    (pss_cons (ps_if (pt_cmpR op_isNo (pv 3) pe_non (nomark _)) (pss_one (ps_raiseI rfl (takes_of rfl rfl rfl rfl) T.x_InvalidExpression T.g_InvalidExpression (by rfl))) pss_nil)
    (pss_cons (ps_expr (pe_bm PySem.F.plainAttrs_list PySem.F.slot_list_append PySem.F.type_list_append mt_append (pv 1) (pa_cons (pv 3) pa_nil)))
    (pss_one (ps_set (i := 2) sc_read_offsets.nd rfl (by first | exact Or.inl rfl | exact Or.inr rfl) (pe_me0 M_step hr T.l_ExpressionReader pass0 (pv 0))))))))
    (pss_one (ps_ret (pe_callTy call_tuple_of (by rfl) T.b_tuple (by decide +kernel) (pa_cons (pv 1) pa_nil)))))))

abbrev s_read_parts_ : Stmt := mth 25 3
theorem sc_read_parts : FnScope ["self", "count", "level", "k"] ["self", "count", "level"] (defScope s_read_parts_) := ⟨rfl, rfl, rfl, by decide +kernel, rfl, by decide +kernel, by decide +kernel⟩
theorem ok_read_parts {s_read : Sp} {sp : Sp} {k : Nat} (T : Tx K mg) (M_read : Me P w K mg base (L2.CX P w) k (He.ga K "ExpressionReader") "read" s_read) (len : ∀ vs H Q E, sp vs H Q E → vs.length = 3)
    (pure : ∀ vs H Q E, sp vs H Q E → t_read_parts K s_read E { nx := fun _ H' => Q .non H', rt := Q } (L2.start ["self", "count", "level", "k"] vs) H) : Me P w K mg base (L2.CX P w) (k + 1) (He.ga K "ExpressionReader") "read_parts" sp := by
  obtain ⟨fd, F⟩ := T.f_read_parts
  refine ⟨_, fd, ["self", "count", "level"], T.m_read_parts, FunD.bindsN F fun _ _ _ _ _ _ us hl => match us, hl with | [_, _, _], _ => rfl, F.ok sc_read_parts len fun cdv A outer s H vs Q E hr h => ⟨t_read_parts K s_read E, ?_, pure vs H Q E h⟩⟩
  exact (pss_one (ps_ret (pe_lcX (W := fun cls d _ H => E cls d H) (E := E) (own := [("k", 3)]) rfl sc_read_parts.nd (pi_range1 (by rfl) T.b_range (pa_cons (pv 1) pa_nil)) (blkOk_by (own := [("k", 3)]) (N := ["self", "count", "level", "k"]) (sc := defScope s_read_parts_) (by decide +kernel)) (fun _ _ _ _ _ => (pg_name (i := 3) sc_read_parts.nd rfl (by first | exact Or.inl rfl | exact Or.inr rfl))) (fun _ _ _ _ _ => pts_nil) (fun _ _ _ _ _ _ hx => (pe_me M_read hr T.l_ExpressionReader hx (pv 0) (pa_cons (pe_op op_addU (pv 2) pe_int) pa_nil))) rfl rfl (takes_of rfl rfl rfl rfl) fun _ _ _ _ h => h)))

abbrev s_read_end_ : Stmt := mth 25 4
theorem sc_read_end : FnScope ["self"] ["self"] (defScope s_read_end_) := ⟨rfl, rfl, rfl, by decide +kernel, rfl, by decide +kernel, by decide +kernel⟩
theorem ok_read_end {s_step : Sp} {sp : Sp} {k : Nat} (T : Tx K mg) (M_step : Me P w K mg base CX0 k (He.ga K "ExpressionReader") "step" s_step) (len : ∀ vs H Q E, sp vs H Q E → vs.length = 1)
    (pure : ∀ vs H Q E, sp vs H Q E → t_read_end K s_step E { nx := fun _ H' => Q .non H', rt := Q } (L2.start ["self"] vs) H) : Me P w K mg base (L2.CX P w) (k + 1) (He.ga K "ExpressionReader") "read_end" sp := by
  obtain ⟨fd, F⟩ := T.f_read_end
  refine ⟨_, fd, ["self"], T.m_read_end, FunD.bindsN F fun _ _ _ _ _ _ us hl => match us, hl with | [_], _ => rfl, F.ok sc_read_end len fun cdv A outer s H vs Q E hr h => ⟨t_read_end K s_step E, ?_, pure vs H Q E h⟩⟩
  exact (pss_one (ps_if (pt_cmpR (op_neU hr.units) (pe_me0 M_step hr T.l_ExpressionReader pass0 (pv 0)) pe_str (nomark _)) (pss_one (ps_raiseI rfl (takes_of rfl rfl rfl rfl) T.x_InvalidExpression T.g_InvalidExpression (by rfl))) pss_nil))

abbrev s_read_ : Stmt := mth 25 5
theorem sc_read : FnScope ["self", "level", "word", "number", "kind", "inner", "parts"] ["self", "level"] (defScope s_read_) := ⟨rfl, rfl, rfl, by decide +kernel, rfl, by decide +kernel, by decide +kernel⟩
theorem ok_read {s_read_integer : Sp} {s_read_end : Sp} {s_read_parts : Sp} {s_read_offsets : Sp} {s_read : Sp} {s_step : Sp} {sp : Sp} {k : Nat} (T : Tx K mg) (G_read_integer : Cl P w K mg base CX0 k "read_integer" s_read_integer) (M_read_end : Me P w K mg base (L2.CX P w) k (He.ga K "ExpressionReader") "read_end" s_read_end) (M_read_parts : Me P w K mg base (L2.CX P w) k (He.ga K "ExpressionReader") "read_parts" s_read_parts) (M_read_offsets : Me P w K mg base (L2.CX P w) k (He.ga K "ExpressionReader") "read_offsets" s_read_offsets) (M_read : Me P w K mg base (L2.CX P w) k (He.ga K "ExpressionReader") "read" s_read) (M_step : Me P w K mg base CX0 k (He.ga K "ExpressionReader") "step" s_step) (len : ∀ vs H Q E, sp vs H Q E → vs.length = 2)
    (pure : ∀ vs H Q E, sp vs H Q E → t_read K s_read_integer s_read_end s_read_parts s_read_offsets s_read s_step E { nx := fun _ H' => Q .non H', rt := Q } (L2.start ["self", "level", "word", "number", "kind", "inner", "parts"] vs) H) : Me P w K mg base (L2.CX P w) (k + 1) (He.ga K "ExpressionReader") "read" sp := by
  obtain ⟨fd, F⟩ := T.f_read
  refine ⟨_, fd, ["self", "level"], T.m_read, FunD.bindsN F fun _ _ _ _ _ _ us hl => match us, hl with | [_, _], _ => rfl, F.ok sc_read len fun cdv A outer s H vs Q E hr h => ⟨t_read K s_read_integer s_read_end s_read_parts s_read_offsets s_read s_step E, ?_, pure vs H Q E h⟩⟩
  exact (pss_cons (ps_set (i := 2) sc_read.nd rfl (by first | exact Or.inl rfl | exact Or.inr rfl) (pe_me0 M_step hr T.l_ExpressionReader pass0 (pv 0)))
    (pss_cons (ps_if (PW.pt (pw_or (pt_cmpR op_gt (pv 1) (pe_gc (by rfl) T.c_DEEPEST) (nomark _)) (pw_or1 (pt_cmpR (op_eqU hr.units) (pv 2) pe_str (nomark _))))) (pss_one (ps_raiseI rfl (takes_of rfl rfl rfl rfl) T.x_InvalidExpression T.g_InvalidExpression (by rfl))) pss_nil)
    (pss_cons (ps_if (pt_cmpR (op_eqU hr.units) (pe_ix ix_seq (pv 2) pe_int (fun _ _ => rfl)) pe_str (nomark _)) (pss_one (ps_ret (pe_tup (pa_cons pe_str (pa_cons (pe_slice sl_U (pv 2) (po_some pe_int) po_none) pa_nil))))) pss_nil)
    (pss_cons (ps_if (pt_cmpR (op_neU hr.units) (pv 2) pe_str (nomark _)) (pss_cons (ps_set (i := 3) sc_read.nd rfl (by first | exact Or.inl rfl | exact Or.inr rfl) (pe_cl G_read_integer hr (by rfl) pass0 (pa_cons (pv 2) pa_nil)))
    (pss_cons (ps_if (pt_cmpR op_isNo (pv 3) pe_non (nomark _)) (pss_one (ps_raiseI rfl (takes_of rfl rfl rfl rfl) T.x_InvalidExpression T.g_InvalidExpression (by rfl))) pss_nil)
    (pss_one (ps_ret (pe_tup (pa_cons pe_str (pa_cons (pv 3) pa_nil))))))) pss_nil)
    (pss_cons (ps_set (i := 4) sc_read.nd rfl (by first | exact Or.inl rfl | exact Or.inr rfl) (pe_me0 M_step hr T.l_ExpressionReader pass0 (pv 0)))
    (pss_cons (ps_if (pt_cmpR (op_eqU hr.units) (pv 4) pe_str (nomark _)) (pss_cons (ps_set (i := 5) sc_read.nd rfl (by first | exact Or.inl rfl | exact Or.inr rfl) (pe_me M_read hr T.l_ExpressionReader (passR (takes_of rfl rfl rfl rfl)) (pv 0) (pa_cons (pe_op op_addU (pv 1) pe_int) pa_nil)))
    (pss_one (ps_ret (pe_tup (pa_cons pe_str (pa_cons (pv 5) (pa_cons (pe_me0 M_read_offsets hr T.l_ExpressionReader (passR (takes_of rfl rfl rfl rfl)) (pv 0)) pa_nil))))))) pss_nil)
    (pss_cons (ps_if (pt_cmpR op_inU (pv 4) (pe_gc (by rfl) T.c_PAIRS) (by rfl)) (pss_one (ps_set (i := 6) sc_read.nd rfl (by first | exact Or.inl rfl | exact Or.inr rfl) (pe_me M_read_parts hr T.l_ExpressionReader (passR (takes_of rfl rfl rfl rfl)) (pv 0) (pa_cons pe_int (pa_cons (pv 1) pa_nil))))) (pss_one (ps_if (pt_cmpR (op_eqU hr.units) (pv 4) pe_str (nomark _)) (pss_one (ps_set (i := 6) sc_read.nd rfl (by first | exact Or.inl rfl | exact Or.inr rfl) (pe_me M_read_parts hr T.l_ExpressionReader (passR (takes_of rfl rfl rfl rfl)) (pv 0) (pa_cons pe_int (pa_cons (pv 1) pa_nil))))) (pss_one (ps_raiseI rfl (takes_of rfl rfl rfl rfl) T.x_InvalidExpression T.g_InvalidExpression (by rfl))))))
    (pss_cons (ps_expr (pe_me0 M_read_end hr T.l_ExpressionReader (passR (takes_of rfl rfl rfl rfl)) (pv 0)))
    (pss_one (ps_ret (pe_tup (pa_cons (pv 4) (StX.pa_star (pv 6) pa_nil)))))))))))))

abbrev s_parse_expression_ : Stmt := top 26
theorem sc_parse_expression : FnScope ["text", "reader", "expression"] ["text"] (defScope s_parse_expression_) := ⟨rfl, rfl, rfl, by decide +kernel, rfl, by decide +kernel, by decide +kernel⟩
theorem ok_parse_expression {s_is_expression : Sp} {s_read : Sp} {s_mk_ExpressionReader : Sp} {sp : Sp} {k : Nat} (T : Tx K mg) (G_is_expression : Cl P w K mg base CX0 (k + 1) "is_expression" s_is_expression) (M_read : Me P w K mg base (L2.CX P w) (k + 1) (He.ga K "ExpressionReader") "read" s_read) (MK_ExpressionReader : Mi P w K mg base CX0 k (He.ga K "ExpressionReader") s_mk_ExpressionReader) (len : ∀ vs H Q E, sp vs H Q E → vs.length = 1)
    (pure : ∀ vs H Q E, sp vs H Q E → t_parse_expression K s_is_expression s_read s_mk_ExpressionReader E { nx := fun _ H' => Q .non H', rt := Q } (L2.start ["text", "reader", "expression"] vs) H) : Cl P w K mg base (L2.CX P w) (k + 2) "parse_expression" sp := by
  obtain ⟨fd, F⟩ := T.f_parse_expression
  refine ⟨_, fd, ["text"], T.g_parse_expression, F.kp, FunD.bindsN F fun _ _ _ _ _ _ us hl => match us, hl with | [_], _ => rfl, F.ok sc_parse_expression len fun cdv A outer s H vs Q E hr h => ⟨t_parse_expression K s_is_expression s_read s_mk_ExpressionReader E, ?_, pure vs H Q E h⟩⟩
  exact (pss_cons (ps_set (i := 1) sc_parse_expression.nd rfl (by first | exact Or.inl rfl | exact Or.inr rfl) (pe_mk MK_ExpressionReader hr (by rfl) T.g_ExpressionReader pass0 (pa_cons (pe_split (pv 0) pe_str) pa_nil)))
    (pss_cons (ps_set (i := 2) sc_parse_expression.nd rfl (by first | exact Or.inl rfl | exact Or.inr rfl) (pe_me M_read hr T.l_ExpressionReader (passR (takes_of rfl rfl rfl rfl)) (pv 1) (pa_cons pe_int pa_nil)))
    (pss_cons (ps_if (PW.pt (pw_or (pt_cmpR (op_neU hr.units) (pe_fld (pv 1) rfl) (pe_callB call_len (by rfl) T.b_len (by decide +kernel) (pa_cons (pe_fld (pv 1) rfl) pa_nil)) (nomark _)) (pw_or1 (pt_not (pt_val (pe_cl G_is_expression hr (by rfl) pass0 (pa_cons (pv 2) pa_nil))))))) (pss_one (ps_raiseI rfl (takes_of rfl rfl rfl rfl) T.x_InvalidExpression T.g_InvalidExpression (by rfl))) pss_nil)
    (pss_one (ps_ret (pv 2))))))

abbrev s__law_cell_ : Stmt := top 28
theorem sc__law_cell : FnScope ["_law_script", "_law_k"] ["_law_script", "_law_k"] (defScope s__law_cell_) := ⟨rfl, rfl, rfl, by decide +kernel, rfl, by decide +kernel, by decide +kernel⟩
theorem ok__law_cell {sp : Sp} {k : Nat} (T : Tx K mg) (len : ∀ vs H Q E, sp vs H Q E → vs.length = 2)
    (pure : ∀ vs H Q E, sp vs H Q E → t__law_cell K { nx := fun _ H' => Q .non H', rt := Q } (L2.start ["_law_script", "_law_k"] vs) H) : Cl P w K mg base CX0 (k + 1) "_law_cell" sp := by
  obtain ⟨fd, F⟩ := T.f__law_cell
  refine ⟨_, fd, ["_law_script", "_law_k"], T.g__law_cell, F.kp, FunD.bindsN F fun _ _ _ _ _ _ us hl => match us, hl with | [_, _], _ => rfl, F.ok sc__law_cell len fun cdv A outer s H vs Q E hr h => ⟨t__law_cell K, PSs.nox ?_, pure vs H Q E h⟩⟩
  exact (pss_cons (ps_if (pt_cmpR (op_ltU hr.units0) (pv 1) (pe_callB call_len (by rfl) T.b_len (by decide +kernel) (pa_cons (pv 0) pa_nil)) (nomark _)) (pss_one (ps_ret (pe_ix ix_seq (pv 0) (pv 1) (fun _ _ => rfl)))) pss_nil)
    (pss_one (ps_ret pe_int)))

abbrev s__law_draws_ : Stmt := top 29
theorem sc__law_draws : FnScope ["_law_cell_here", "_law_count", "_law_rows", "_law_left", "_law_k", "_law_mixed"] ["_law_cell_here", "_law_count"] (defScope s__law_draws_) := ⟨rfl, rfl, rfl, by decide +kernel, rfl, by decide +kernel, by decide +kernel⟩
theorem ok__law_draws {sp : Sp} {k : Nat} (T : Tx K mg) (len : ∀ vs H Q E, sp vs H Q E → vs.length = 2)
    (pure : ∀ vs H Q E, sp vs H Q E → t__law_draws K { nx := fun _ H' => Q .non H', rt := Q } (L2.start ["_law_cell_here", "_law_count", "_law_rows", "_law_left", "_law_k", "_law_mixed"] vs) H) : Cl P w K mg base CX0 (k + 1) "_law_draws" sp := by
  obtain ⟨fd, F⟩ := T.f__law_draws
  refine ⟨_, fd, ["_law_cell_here", "_law_count"], T.g__law_draws, F.kp, FunD.bindsN F fun _ _ _ _ _ _ us hl => match us, hl with | [_, _], _ => rfl, F.ok sc__law_draws len fun cdv A outer s H vs Q E hr h => ⟨t__law_draws K, PSs.nox ?_, pure vs H Q E h⟩⟩
  exact (pss_cons (ps_set (i := 2) sc__law_draws.nd rfl (by first | exact Or.inl rfl | exact Or.inr rfl) (pe_lst pa_nil))
    (pss_cons (ps_set (i := 3) sc__law_draws.nd rfl (by first | exact Or.inl rfl | exact Or.inr rfl) (pv 0))
    (pss_cons (ps_for PassesOwn.never rfl (pi_range1 (by rfl) T.b_range (pa_cons (pv 1) pa_nil)) (pg_name (i := 4) sc__law_draws.nd rfl (by first | exact Or.inl rfl | exact Or.inr rfl)) (pss_one (ps_if (PW.pt (pw_and (pt_cmpR op_ge (pv 0) (pe_op op_pow pe_int pe_int) (nomark _)) (pw_and1 (pt_cmpR op_gt (pv 3) pe_int (nomark _))))) (pss_cons (ps_expr (pe_bm PySem.F.plainAttrs_list PySem.F.slot_list_append PySem.F.type_list_append mt_append (pv 2) (pa_cons (pe_op op_mod (pe_callTy call_int1 (by rfl) T.b_int (by decide +kernel) (pa_cons (pv 3) pa_nil)) pe_int) pa_nil)))
    (pss_one (ps_set (i := 3) sc__law_draws.nd rfl (by first | exact Or.inl rfl | exact Or.inr rfl) (pe_op op_fdiv (pv 3) pe_int)))) (pss_cons (ps_set (i := 5) sc__law_draws.nd rfl (by first | exact Or.inl rfl | exact Or.inr rfl) (pe_op op_mod (pe_callTy call_int1 (by rfl) T.b_int (by decide +kernel) (pa_cons (pe_op op_addU (pe_op op_mulU (pv 0) pe_int) (pe_op op_mulU (pe_op op_addU (pv 4) pe_int) pe_int)) pa_nil)) pe_int))
    (pss_cons (ps_set (i := 5) sc__law_draws.nd rfl (by first | exact Or.inl rfl | exact Or.inr rfl) (pe_op op_mod (pe_callTy call_int1 (by rfl) T.b_int (by decide +kernel) (pa_cons (pe_op op_addU (pe_op op_addU (pe_op op_mulU (pv 5) (pv 5)) (pe_op op_mulU (pv 5) pe_int)) (pe_op op_mulU (pv 4) pe_int)) pa_nil)) pe_int))
    (pss_cons (ps_set (i := 5) sc__law_draws.nd rfl (by first | exact Or.inl rfl | exact Or.inr rfl) (pe_op op_mod (pe_callTy call_int1 (by rfl) T.b_int (by decide +kernel) (pa_cons (pe_op op_addU (pe_op op_addU (pe_op op_mulU (pv 5) (pv 5)) (pv 0)) (pe_op op_mulU pe_int (pv 4))) pa_nil)) pe_int))
    (pss_one (ps_expr (pe_bm PySem.F.plainAttrs_list PySem.F.slot_list_append PySem.F.type_list_append mt_append (pv 2) (pa_cons (pe_op op_mod (pe_op op_fdiv (pv 5) pe_int) pe_int) pa_nil))))))))))
    (pss_one (ps_ret (pv 2))))))

abbrev s__law_is_text_ : Stmt := top 30
theorem sc__law_is_text : FnScope ["_law_x", "_law_due"] ["_law_x", "_law_due"] (defScope s__law_is_text_) := ⟨rfl, rfl, rfl, by decide +kernel, rfl, by decide +kernel, by decide +kernel⟩
theorem ok__law_is_text {sp : Sp} {k : Nat} (T : Tx K mg) (len : ∀ vs H Q E, sp vs H Q E → vs.length = 2)
    (pure : ∀ vs H Q E, sp vs H Q E → t__law_is_text K { nx := fun _ H' => Q .non H', rt := Q } (L2.start ["_law_x", "_law_due"] vs) H) : Cl P w K mg base CX0 (k + 1) "_law_is_text" sp := by
  obtain ⟨fd, F⟩ := T.f__law_is_text
  refine ⟨_, fd, ["_law_x", "_law_due"], T.g__law_is_text, F.kp, FunD.bindsN F fun _ _ _ _ _ _ us hl => match us, hl with | [_, _], _ => rfl, F.ok sc__law_is_text len fun cdv A outer s H vs Q E hr h => ⟨t__law_is_text K, PSs.nox ?_, pure vs H Q E h⟩⟩
  exact (pss_one (ps_ret (pe_and (pe_callB call_isi (by rfl) T.b_isinstance (by decide +kernel) (pa_cons (pv 0) (pa_cons (pe_bltn (by rfl) T.b_str (by decide +kernel) rfl) pa_nil))) (pe_one (pe_cmpR (op_eqU hr.units) (pv 0) (pv 1) (nomark _))))))

abbrev s__law_stream_ : Stmt := top 31
theorem sc__law_stream : FnScope ["_law_script", "_law_count", "_law_rows", "_law_k"] ["_law_script", "_law_count"] (defScope s__law_stream_) := ⟨rfl, rfl, rfl, by decide +kernel, rfl, by decide +kernel, by decide +kernel⟩
theorem ok__law_stream {s__law_draws : Sp} {s__law_cell : Sp} {sp : Sp} {k : Nat} (T : Tx K mg) (G__law_draws : Cl P w K mg base CX0 k "_law_draws" s__law_draws) (G__law_cell : Cl P w K mg base CX0 k "_law_cell" s__law_cell) (len : ∀ vs H Q E, sp vs H Q E → vs.length = 2)
    (pure : ∀ vs H Q E, sp vs H Q E → t__law_stream K s__law_draws s__law_cell { nx := fun _ H' => Q .non H', rt := Q } (L2.start ["_law_script", "_law_count", "_law_rows", "_law_k"] vs) H) : Cl P w K mg base CX0 (k + 1) "_law_stream" sp := by
  obtain ⟨fd, F⟩ := T.f__law_stream
  refine ⟨_, fd, ["_law_script", "_law_count"], T.g__law_stream, F.kp, FunD.bindsN F fun _ _ _ _ _ _ us hl => match us, hl with | [_, _], _ => rfl, F.ok sc__law_stream len fun cdv A outer s H vs Q E hr h => ⟨t__law_stream K s__law_draws s__law_cell, PSs.nox ?_, pure vs H Q E h⟩⟩
  exact (pss_cons (ps_set (i := 2) sc__law_stream.nd rfl (by first | exact Or.inl rfl | exact Or.inr rfl) (pe_lst pa_nil))
    (pss_cons (ps_for PassesOwn.never rfl (pi_range1 (by rfl) T.b_range (pa_cons (pe_op op_addU pe_int (pe_op op_fdiv (pv 1) pe_int)) pa_nil)) (pg_name (i := 3) sc__law_stream.nd rfl (by first | exact Or.inl rfl | exact Or.inr rfl)) (pss_one (ps_set (i := 2) sc__law_stream.nd rfl (by first | exact Or.inl rfl | exact Or.inr rfl) (pe_op op_addU (pv 2) (pe_cl G__law_draws hr (by rfl) pass0 (pa_cons (pe_op op_addU (pe_cl G__law_cell hr (by rfl) pass0 (pa_cons (pv 0) (pa_cons (pv 3) pa_nil))) (pe_op op_mulU pe_int (pv 3))) (pa_cons pe_int pa_nil)))))))
    (pss_one (ps_ret (pe_slice sl_U (pv 2) po_none (po_some (pv 1)))))))

abbrev s__law_letters_ : Stmt := top 32
theorem sc__law_letters : FnScope [] [] (defScope s__law_letters_) := ⟨rfl, rfl, rfl, by decide +kernel, rfl, by decide +kernel, by decide +kernel⟩
theorem ok__law_letters {sp : Sp} {k : Nat} (T : Tx K mg) (len : ∀ vs H Q E, sp vs H Q E → vs.length = 0)
    (pure : ∀ vs H Q E, sp vs H Q E → t__law_letters K { nx := fun _ H' => Q .non H', rt := Q } (L2.start [] vs) H) : Cl P w K mg base CX0 (k + 1) "_law_letters" sp := by
  obtain ⟨fd, F⟩ := T.f__law_letters
  refine ⟨_, fd, [], T.g__law_letters, F.kp, FunD.bindsN F fun _ _ _ _ _ _ us hl => match us, hl with | [], _ => rfl, F.ok sc__law_letters len fun cdv A outer s H vs Q E hr h => ⟨t__law_letters K, PSs.nox ?_, pure vs H Q E h⟩⟩
  exact (pss_one (ps_ret pe_str))

abbrev s__law_is_name_due_ : Stmt := top 33
theorem sc__law_is_name_due : FnScope ["_law_name", "_law_sign"] ["_law_name"] (defScope s__law_is_name_due_) := ⟨rfl, rfl, rfl, by decide +kernel, rfl, by decide +kernel, by decide +kernel⟩
theorem ok__law_is_name_due {s__law_letters : Sp} {sp : Sp} {k : Nat} (T : Tx K mg) (G__law_letters : Cl P w K mg base CX0 k "_law_letters" s__law_letters) (len : ∀ vs H Q E, sp vs H Q E → vs.length = 1)
    (pure : ∀ vs H Q E, sp vs H Q E → t__law_is_name_due K s__law_letters { nx := fun _ H' => Q .non H', rt := Q } (L2.start ["_law_name", "_law_sign"] vs) H) : Cl P w K mg base CX0 (k + 1) "_law_is_name_due" sp := by
  obtain ⟨fd, F⟩ := T.f__law_is_name_due
  refine ⟨_, fd, ["_law_name"], T.g__law_is_name_due, F.kp, FunD.bindsN F fun _ _ _ _ _ _ us hl => match us, hl with | [_], _ => rfl, F.ok sc__law_is_name_due len fun cdv A outer s H vs Q E hr h => ⟨t__law_is_name_due K s__law_letters, PSs.nox ?_, pure vs H Q E h⟩⟩
  exact (pss_cons (ps_if (PW.pt (pw_or (pt_cmpR (op_ltU hr.units0) (pe_callB call_len (by rfl) T.b_len (by decide +kernel) (pa_cons (pv 0) pa_nil)) pe_int (nomark _)) (pw_or1 (pt_cmpR op_gt (pe_callB call_len (by rfl) T.b_len (by decide +kernel) (pa_cons (pv 0) pa_nil)) pe_int (nomark _))))) (pss_one (ps_ret pe_bl)) pss_nil)
    (pss_one (ps_ret (pe_cmpR (op_eqU hr.units) (pe_callB call_len (by rfl) T.b_len (by decide +kernel) (pa_cons (pe_lc (own := [("_law_sign", 1)]) rfl sc__law_is_name_due.nd (pi_str (pv 0)) (blkOk_by (own := [("_law_sign", 1)]) (N := ["_law_name", "_law_sign"]) (sc := defScope s__law_is_name_due_) (by decide +kernel)) (fun _ _ _ _ _ => (pg_name (i := 1) sc__law_is_name_due.nd rfl (by first | exact Or.inl rfl | exact Or.inr rfl))) (fun _ _ _ _ _ => (pts_one (pt_cmpR op_ninU (pv 1) (pe_cl0 G__law_letters hr (by rfl) pass0) (by rfl)))) (fun _ _ _ _ _ => (pv 1))) pa_nil)) pe_int (nomark _)))))

abbrev s__law_is_path_due_ : Stmt := top 34
theorem sc__law_is_path_due : FnScope ["_law_path", "_law_names", "_law_name"] ["_law_path"] (defScope s__law_is_path_due_) := ⟨rfl, rfl, rfl, by decide +kernel, rfl, by decide +kernel, by decide +kernel⟩
theorem ok__law_is_path_due {s__law_is_name_due : Sp} {sp : Sp} {k : Nat} (T : Tx K mg) (G__law_is_name_due : Cl P w K mg base CX0 k "_law_is_name_due" s__law_is_name_due) (len : ∀ vs H Q E, sp vs H Q E → vs.length = 1)
    (pure : ∀ vs H Q E, sp vs H Q E → t__law_is_path_due K s__law_is_name_due { nx := fun _ H' => Q .non H', rt := Q } (L2.start ["_law_path", "_law_names", "_law_name"] vs) H) : Cl P w K mg base CX0 (k + 1) "_law_is_path_due" sp := by
  obtain ⟨fd, F⟩ := T.f__law_is_path_due
  refine ⟨_, fd, ["_law_path"], T.g__law_is_path_due, F.kp, FunD.bindsN F fun _ _ _ _ _ _ us hl => match us, hl with | [_], _ => rfl, F.ok sc__law_is_path_due len fun cdv A outer s H vs Q E hr h => ⟨t__law_is_path_due K s__law_is_name_due, PSs.nox ?_, pure vs H Q E h⟩⟩
  exact (pss_cons (ps_if (pt_cmpR (op_eqU hr.units) (pv 0) pe_str (nomark _)) (pss_one (ps_ret pe_bl)) pss_nil)
    (pss_cons (ps_set (i := 1) sc__law_is_path_due.nd rfl (by first | exact Or.inl rfl | exact Or.inr rfl) (pe_split (pv 0) pe_str))
    (pss_one (ps_ret (pe_and (pe_cmpR op_le (pe_callB call_len (by rfl) T.b_len (by decide +kernel) (pa_cons (pv 1) pa_nil)) pe_int (nomark _)) (pe_one (pe_cmpR (op_eqU hr.units) (pe_callB call_len (by rfl) T.b_len (by decide +kernel) (pa_cons (pe_lc (own := [("_law_name", 2)]) rfl sc__law_is_path_due.nd (pi_list (pv 1)) (blkOk_by (own := [("_law_name", 2)]) (N := ["_law_path", "_law_names", "_law_name"]) (sc := defScope s__law_is_path_due_) (by decide +kernel)) (fun _ _ _ _ _ => (pg_name (i := 2) sc__law_is_path_due.nd rfl (by first | exact Or.inl rfl | exact Or.inr rfl))) (fun _ _ _ _ _ => (pts_one (pt_not (pt_val (pe_cl G__law_is_name_due hr (by rfl) pass0 (pa_cons (pv 2) pa_nil)))))) (fun _ _ _ _ _ => (pv 2))) pa_nil)) pe_int (nomark _))))))))

abbrev s__law_expression_ : Stmt := top 35
theorem sc__law_expression : FnScope ["_law_draws_here", "_law_at", "_law_deep", "_law_dimensions", "_law_draw", "_law_way", "_law_parts_here", "_law_k"] ["_law_draws_here", "_law_at", "_law_deep", "_law_dimensions"] (defScope s__law_expression_) := ⟨rfl, rfl, rfl, by decide +kernel, rfl, by decide +kernel, by decide +kernel⟩
theorem ok__law_expression {s__law_expression : Sp} {sp : Sp} {k : Nat} (T : Tx K mg) (G__law_expression : Cl P w K mg base CX0 k "_law_expression" s__law_expression) (len : ∀ vs H Q E, sp vs H Q E → vs.length = 4)
    (pure : ∀ vs H Q E, sp vs H Q E → t__law_expression K s__law_expression { nx := fun _ H' => Q .non H', rt := Q } (L2.start ["_law_draws_here", "_law_at", "_law_deep", "_law_dimensions", "_law_draw", "_law_way", "_law_parts_here", "_law_k"] vs) H) : Cl P w K mg base CX0 (k + 1) "_law_expression" sp := by
  obtain ⟨fd, F⟩ := T.f__law_expression
  refine ⟨_, fd, ["_law_draws_here", "_law_at", "_law_deep", "_law_dimensions"], T.g__law_expression, F.kp, FunD.bindsN F fun _ _ _ _ _ _ us hl => match us, hl with | [_, _, _, _], _ => rfl, F.ok sc__law_expression len fun cdv A outer s H vs Q E hr h => ⟨t__law_expression K s__law_expression, PSs.nox ?_, pure vs H Q E h⟩⟩
  exact (pss_cons (ps_set (i := 4) sc__law_expression.nd rfl (by first | exact Or.inl rfl | exact Or.inr rfl) (pe_op op_addU (pe_ix ix_seq (pv 0) (pe_op op_mod (pv 1) (pe_callB call_len (by rfl) T.b_len (by decide +kernel) (pa_cons (pv 0) pa_nil))) (fun _ _ => rfl)) (pe_op op_mulU pe_int (pv 1))))
    (pss_cons (ps_if (PW.pt (pw_or (pt_cmpR (op_eqU hr.units) (pv 2) pe_int (nomark _)) (pw_or1 (pt_cmpR (op_eqU hr.units) (pe_op op_mod (pv 4) pe_int) pe_int (nomark _))))) (pss_cons (ps_if (pt_cmpR (op_eqU hr.units) (pe_op op_mod (pe_op op_fdiv (pv 4) pe_int) pe_int) pe_int (nomark _)) (pss_one (ps_ret (pe_tup (pa_cons pe_str (pa_cons (pe_ix ix_seq (pe_lst (pa_cons (pe_op op_sub (pe_op op_mod (pe_op op_fdiv (pv 4) pe_int) pe_int) pe_int) (pa_cons (pe_op op_sub (pe_op op_pow pe_int pe_int) (pv 4)) (pa_cons (pe_op op_addU (pe_un un_neg (pe_op op_pow pe_int pe_int)) (pv 4)) pa_nil)))) (pe_op op_mod (pe_op op_fdiv (pv 4) pe_int) pe_int) (fun _ _ => rfl)) pa_nil))))) pss_nil)
    (pss_one (ps_ret (pe_tup (pa_cons pe_str (pa_cons (pe_ix ix_seq (pe_lst (pa_cons pe_str (pa_cons pe_str (pa_cons pe_str pa_nil)))) (pe_op op_mod (pe_op op_fdiv (pv 4) pe_int) pe_int) (fun _ _ => rfl)) pa_nil)))))) pss_nil)
    (pss_cons (ps_set (i := 5) sc__law_expression.nd rfl (by first | exact Or.inl rfl | exact Or.inr rfl) (pe_op op_mod (pe_op op_fdiv (pv 4) pe_int) pe_int))
    (pss_cons (ps_setLc (i := 6) (own := [("_law_k", 7)]) rfl sc__law_expression.nd rfl rfl (sw_true rfl rfl rfl (by decide +kernel)) (pi_range1 (by rfl) T.b_range (pa_cons pe_int pa_nil)) (blkOk_by (own := [("_law_k", 7)]) (N := ["_law_draws_here", "_law_at", "_law_deep", "_law_dimensions", "_law_draw", "_law_way", "_law_parts_here", "_law_k"]) (sc := defScope s__law_expression_) (by decide +kernel)) (fun _ _ _ _ _ => (pg_name (i := 7) sc__law_expression.nd rfl (by first | exact Or.inl rfl | exact Or.inr rfl))) (fun _ _ _ _ _ => pts_nil) (fun _ _ _ _ _ => (pe_cl G__law_expression hr (by rfl) pass0 (pa_cons (pv 0) (pa_cons (pe_op op_addU (pe_op op_addU (pe_op op_mulU pe_int (pv 1)) pe_int) (pv 7)) (pa_cons (pe_op op_sub (pv 2) pe_int) (pa_cons (pv 3) pa_nil)))))))
    (pss_cons (ps_if (pt_cmpR (op_eqU hr.units) (pv 5) pe_int (nomark _)) (pss_one (ps_ret (pe_tup (pa_cons pe_str (pa_cons (pe_ix ix_seq (pv 6) pe_int (fun _ _ => rfl)) (pa_cons (pe_ix ix_seq (pv 6) pe_int (fun _ _ => rfl)) (pa_cons (pe_ix ix_seq (pv 6) pe_int (fun _ _ => rfl)) pa_nil))))))) pss_nil)
    (pss_cons (ps_if (pt_cmpR (op_eqU hr.units) (pv 5) pe_int (nomark _)) (pss_one (ps_ret (pe_tup (pa_cons pe_str (pa_cons (pe_ix ix_seq (pv 6) pe_int (fun _ _ => rfl)) (pa_cons (pe_callTy call_tuple_of (by rfl) T.b_tuple (by decide +kernel) (pa_cons (pe_lc (own := [("_law_k", 7)]) rfl sc__law_expression.nd (pi_range1 (by rfl) T.b_range (pa_cons (pv 3) pa_nil)) (blkOk_by (own := [("_law_k", 7)]) (N := ["_law_draws_here", "_law_at", "_law_deep", "_law_dimensions", "_law_draw", "_law_way", "_law_parts_here", "_law_k"]) (sc := defScope s__law_expression_) (by decide +kernel)) (fun _ _ _ _ _ => (pg_name (i := 7) sc__law_expression.nd rfl (by first | exact Or.inl rfl | exact Or.inr rfl))) (fun _ _ _ _ _ => pts_nil) (fun _ _ _ _ _ => (pe_op op_sub (pe_op op_mod (pe_ix ix_seq (pv 0) (pe_op op_mod (pe_op op_addU (pe_op op_addU (pv 1) pe_int) (pv 7)) (pe_callB call_len (by rfl) T.b_len (by decide +kernel) (pa_cons (pv 0) pa_nil))) (fun _ _ => rfl)) pe_int) pe_int))) pa_nil)) pa_nil)))))) pss_nil)
    (pss_one (ps_ret (pe_tup (pa_cons (pe_ix ix_seq (pe_lst (pa_cons pe_str (pa_cons pe_str (pa_cons pe_str (pa_cons pe_str (pa_cons pe_str (pa_cons pe_str (pa_cons pe_str pa_nil)))))))) (pv 5) (fun _ _ => rfl)) (pa_cons (pe_ix ix_seq (pv 6) pe_int (fun _ _ => rfl)) (pa_cons (pe_ix ix_seq (pv 6) pe_int (fun _ _ => rfl)) pa_nil))))))))))))

abbrev s__law_parts_ : Stmt := top 36
theorem sc__law_parts : FnScope ["_law_expression_here"] ["_law_expression_here"] (defScope s__law_parts_) := ⟨rfl, rfl, rfl, by decide +kernel, rfl, by decide +kernel, by decide +kernel⟩
theorem ok__law_parts {sp : Sp} {k : Nat} (T : Tx K mg) (len : ∀ vs H Q E, sp vs H Q E → vs.length = 1)
    (pure : ∀ vs H Q E, sp vs H Q E → t__law_parts K { nx := fun _ H' => Q .non H', rt := Q } (L2.start ["_law_expression_here"] vs) H) : Cl P w K mg base CX0 (k + 1) "_law_parts" sp := by
  obtain ⟨fd, F⟩ := T.f__law_parts
  refine ⟨_, fd, ["_law_expression_here"], T.g__law_parts, F.kp, FunD.bindsN F fun _ _ _ _ _ _ us hl => match us, hl with | [_], _ => rfl, F.ok sc__law_parts len fun cdv A outer s H vs Q E hr h => ⟨t__law_parts K, PSs.nox ?_, pure vs H Q E h⟩⟩
  exact (pss_cons (ps_if (pt_cmpR op_inU (pe_ix ix_seq (pv 0) pe_int (fun _ _ => rfl)) (pe_tup (pa_cons pe_str (pa_cons pe_str pa_nil))) (by rfl)) (pss_one (ps_ret (pe_lst pa_nil))) pss_nil)
    (pss_cons (ps_if (pt_cmpR (op_eqU hr.units) (pe_ix ix_seq (pv 0) pe_int (fun _ _ => rfl)) pe_str (nomark _)) (pss_one (ps_ret (pe_lst (pa_cons (pe_ix ix_seq (pv 0) pe_int (fun _ _ => rfl)) pa_nil)))) pss_nil)
    (pss_one (ps_ret (pe_callTy call_list_of (by rfl) T.b_list (by decide +kernel) (pa_cons (pe_slice sl_U (pv 0) (po_some pe_int) po_none) pa_nil))))))

abbrev s__law_depth_ : Stmt := top 37
theorem sc__law_depth : FnScope ["_law_expression_here", "_law_part"] ["_law_expression_here"] (defScope s__law_depth_) := ⟨rfl, rfl, rfl, by decide +kernel, rfl, by decide +kernel, by decide +kernel⟩
theorem ok__law_depth {s__law_parts : Sp} {s__law_depth : Sp} {sp : Sp} {k : Nat} (T : Tx K mg) (G__law_parts : Cl P w K mg base CX0 k "_law_parts" s__law_parts) (G__law_depth : Cl P w K mg base CX0 k "_law_depth" s__law_depth) (len : ∀ vs H Q E, sp vs H Q E → vs.length = 1)
    (pure : ∀ vs H Q E, sp vs H Q E → t__law_depth K s__law_parts s__law_depth { nx := fun _ H' => Q .non H', rt := Q } (L2.start ["_law_expression_here", "_law_part"] vs) H) : Cl P w K mg base CX0 (k + 1) "_law_depth" sp := by
  obtain ⟨fd, F⟩ := T.f__law_depth
  refine ⟨_, fd, ["_law_expression_here"], T.g__law_depth, F.kp, FunD.bindsN F fun _ _ _ _ _ _ us hl => match us, hl with | [_], _ => rfl, F.ok sc__law_depth len fun cdv A outer s H vs Q E hr h => ⟨t__law_depth K s__law_parts s__law_depth, PSs.nox ?_, pure vs H Q E h⟩⟩
  exact (pss_one (ps_ret (pe_op op_addU pe_int (pe_callB (cr_max rfl) (by rfl) T.b_max (by decide +kernel) (pa_cons (pe_op op_addU (pe_lc (own := [("_law_part", 1)]) rfl sc__law_depth.nd (pi_list (pe_cl G__law_parts hr (by rfl) pass0 (pa_cons (pv 0) pa_nil))) (blkOk_by (own := [("_law_part", 1)]) (N := ["_law_expression_here", "_law_part"]) (sc := defScope s__law_depth_) (by decide +kernel)) (fun _ _ _ _ _ => (pg_name (i := 1) sc__law_depth.nd rfl (by first | exact Or.inl rfl | exact Or.inr rfl))) (fun _ _ _ _ _ => pts_nil) (fun _ _ _ _ _ => (pe_cl G__law_depth hr (by rfl) pass0 (pa_cons (pv 1) pa_nil)))) (pe_lst (pa_cons pe_int pa_nil))) pa_nil)))))

abbrev s__law_words_ : Stmt := top 38
theorem sc__law_words : FnScope ["_law_expression_here", "_law_words_here", "_law_part", "_law_number"] ["_law_expression_here"] (defScope s__law_words_) := ⟨rfl, rfl, rfl, by decide +kernel, rfl, by decide +kernel, by decide +kernel⟩
theorem ok__law_words {s__law_parts : Sp} {s__law_words : Sp} {sp : Sp} {k : Nat} (T : Tx K mg) (G__law_parts : Cl P w K mg base CX0 k "_law_parts" s__law_parts) (G__law_words : Cl P w K mg base CX0 k "_law_words" s__law_words) (len : ∀ vs H Q E, sp vs H Q E → vs.length = 1)
    (pure : ∀ vs H Q E, sp vs H Q E → t__law_words K s__law_parts s__law_words { nx := fun _ H' => Q .non H', rt := Q } (L2.start ["_law_expression_here", "_law_words_here", "_law_part", "_law_number"] vs) H) : Cl P w K mg base CX0 (k + 1) "_law_words" sp := by
  obtain ⟨fd, F⟩ := T.f__law_words
  refine ⟨_, fd, ["_law_expression_here"], T.g__law_words, F.kp, FunD.bindsN F fun _ _ _ _ _ _ us hl => match us, hl with | [_], _ => rfl, F.ok sc__law_words len fun cdv A outer s H vs Q E hr h => ⟨t__law_words K s__law_parts s__law_words, PSs.nox ?_, pure vs H Q E h⟩⟩
  exact (pss_cons (ps_if (pt_cmpR (op_eqU hr.units) (pe_ix ix_seq (pv 0) pe_int (fun _ _ => rfl)) pe_str (nomark _)) (pss_one (ps_ret (pe_lst (pa_cons (pe_op op_addU pe_str (pe_ix ix_seq (pv 0) pe_int (fun _ _ => rfl))) pa_nil)))) pss_nil)
    (pss_cons (ps_if (pt_cmpR (op_eqU hr.units) (pe_ix ix_seq (pv 0) pe_int (fun _ _ => rfl)) pe_str (nomark _)) (pss_one (ps_ret (pe_lst (pa_cons (pe_callTy call_str_int (by rfl) T.b_str (by decide +kernel) (pa_cons (pe_ix ix_seq (pv 0) pe_int (fun _ _ => rfl)) pa_nil)) pa_nil)))) pss_nil)
    (pss_cons (ps_set (i := 1) sc__law_words.nd rfl (by first | exact Or.inl rfl | exact Or.inr rfl) (pe_lst (pa_cons pe_str (pa_cons (pe_ix ix_seq (pv 0) pe_int (fun _ _ => rfl)) pa_nil))))
    (pss_cons (ps_for PassesOwn.never rfl (pi_list (pe_cl G__law_parts hr (by rfl) pass0 (pa_cons (pv 0) pa_nil))) (pg_name (i := 2) sc__law_words.nd rfl (by first | exact Or.inl rfl | exact Or.inr rfl)) (pss_one (ps_set (i := 1) sc__law_words.nd rfl (by first | exact Or.inl rfl | exact Or.inr rfl) (pe_op op_addU (pv 1) (pe_cl G__law_words hr (by rfl) pass0 (pa_cons (pv 2) pa_nil))))))
    (pss_cons (ps_if (pt_cmpR (op_eqU hr.units) (pe_ix ix_seq (pv 0) pe_int (fun _ _ => rfl)) pe_str (nomark _)) (pss_one (ps_set (i := 1) sc__law_words.nd rfl (by first | exact Or.inl rfl | exact Or.inr rfl) (pe_op op_addU (pv 1) (pe_lc (own := [("_law_number", 3)]) rfl sc__law_words.nd (pi_tup (pe_ix ix_seq (pv 0) pe_int (fun _ _ => rfl))) (blkOk_by (own := [("_law_number", 3)]) (N := ["_law_expression_here", "_law_words_here", "_law_part", "_law_number"]) (sc := defScope s__law_words_) (by decide +kernel)) (fun _ _ _ _ _ => (pg_name (i := 3) sc__law_words.nd rfl (by first | exact Or.inl rfl | exact Or.inr rfl))) (fun _ _ _ _ _ => pts_nil) (fun _ _ _ _ _ => (pe_callTy call_str_int (by rfl) T.b_str (by decide +kernel) (pa_cons (pv 3) pa_nil))))))) pss_nil)
    (pss_one (ps_ret (pe_op op_addU (pv 1) (pe_lst (pa_cons pe_str pa_nil))))))))))

abbrev s__law_integer_word_ : Stmt := top 39
theorem sc__law_integer_word : FnScope ["_law_word", "_law_digits", "_law_sign"] ["_law_word"] (defScope s__law_integer_word_) := ⟨rfl, rfl, rfl, by decide +kernel, rfl, by decide +kernel, by decide +kernel⟩
theorem ok__law_integer_word {sp : Sp} {k : Nat} (T : Tx K mg) (len : ∀ vs H Q E, sp vs H Q E → vs.length = 1)
    (pure : ∀ vs H Q E, sp vs H Q E → t__law_integer_word K { nx := fun _ H' => Q .non H', rt := Q } (L2.start ["_law_word", "_law_digits", "_law_sign"] vs) H) : Cl P w K mg base CX0 (k + 1) "_law_integer_word" sp := by
  obtain ⟨fd, F⟩ := T.f__law_integer_word
  refine ⟨_, fd, ["_law_word"], T.g__law_integer_word, F.kp, FunD.bindsN F fun _ _ _ _ _ _ us hl => match us, hl with | [_], _ => rfl, F.ok sc__law_integer_word len fun cdv A outer s H vs Q E hr h => ⟨t__law_integer_word K, PSs.nox ?_, pure vs H Q E h⟩⟩
  exact (pss_cons (ps_set (i := 1) sc__law_integer_word.nd rfl (by first | exact Or.inl rfl | exact Or.inr rfl) (pe_ifExp (pt_cmpR (op_eqU hr.units) (pe_slice sl_U (pv 0) po_none (po_some pe_int)) pe_str (nomark _)) (pe_slice sl_U (pv 0) (po_some pe_int) po_none) (pv 0)))
    (pss_cons (ps_if (PW.pt (pw_or (pt_cmpR (op_ltU hr.units0) (pe_callB call_len (by rfl) T.b_len (by decide +kernel) (pa_cons (pv 1) pa_nil)) pe_int (nomark _)) (pw_or (pt_cmpR op_gt (pe_callB call_len (by rfl) T.b_len (by decide +kernel) (pa_cons (pv 1) pa_nil)) pe_int (nomark _)) (pw_or1 (pt_cmpR op_gt (pe_callB call_len (by rfl) T.b_len (by decide +kernel) (pa_cons (pe_lc (own := [("_law_sign", 2)]) rfl sc__law_integer_word.nd (pi_str (pv 1)) (blkOk_by (own := [("_law_sign", 2)]) (N := ["_law_word", "_law_digits", "_law_sign"]) (sc := defScope s__law_integer_word_) (by decide +kernel)) (fun _ _ _ _ _ => (pg_name (i := 2) sc__law_integer_word.nd rfl (by first | exact Or.inl rfl | exact Or.inr rfl))) (fun _ _ _ _ _ => (pts_one (pt_cmpR op_ninU (pv 2) pe_str (by rfl)))) (fun _ _ _ _ _ => (pv 2))) pa_nil)) pe_int (nomark _)))))) (pss_one (ps_ret pe_bl)) pss_nil)
    (pss_one (ps_ret (pe_or (pe_cmpR (op_eqU hr.units) (pv 0) pe_str (nomark _)) (pe_one (pe_cmpR (op_neU hr.units) (pe_ix ix_seq (pv 1) pe_int (fun _ _ => rfl)) pe_str (nomark _))))))))

abbrev s__law_parsed_ : Stmt := top 40
theorem sc__law_parsed : FnScope ["_law_words_here", "_law_stack", "_law_word", "_law_group", "_law_made"] ["_law_words_here"] (defScope s__law_parsed_) := ⟨rfl, rfl, rfl, by decide +kernel, rfl, by decide +kernel, by decide +kernel⟩
theorem ok__law_parsed {s__law_atom : Sp} {s__law_grouped : Sp} {sp : Sp} {k : Nat} (T : Tx K mg) (G__law_atom : Cl P w K mg base CX0 k "_law_atom" s__law_atom) (G__law_grouped : Cl P w K mg base CX0 k "_law_grouped" s__law_grouped) (len : ∀ vs H Q E, sp vs H Q E → vs.length = 1)
    (pure : ∀ vs H Q E, sp vs H Q E → t__law_parsed K s__law_atom s__law_grouped { nx := fun _ H' => Q .non H', rt := Q } (L2.start ["_law_words_here", "_law_stack", "_law_word", "_law_group", "_law_made"] vs) H) : Cl P w K mg base CX0 (k + 1) "_law_parsed" sp := by
  obtain ⟨fd, F⟩ := T.f__law_parsed
  refine ⟨_, fd, ["_law_words_here"], T.g__law_parsed, F.kp, FunD.bindsN F fun _ _ _ _ _ _ us hl => match us, hl with | [_], _ => rfl, F.ok sc__law_parsed len fun cdv A outer s H vs Q E hr h => ⟨t__law_parsed K s__law_atom s__law_grouped, PSs.nox ?_, pure vs H Q E h⟩⟩
  exact (pss_cons (ps_set (i := 1) sc__law_parsed.nd rfl (by first | exact Or.inl rfl | exact Or.inr rfl) (pe_lst pa_nil))
    (pss_cons (ps_for PassesOwn.never rfl (pi_list (pv 0)) (pg_name (i := 2) sc__law_parsed.nd rfl (by first | exact Or.inl rfl | exact Or.inr rfl)) (pss_one (ps_if (pt_cmpR (op_eqU hr.units) (pv 2) pe_str (nomark _)) (pss_one (ps_expr (pe_bm PySem.F.plainAttrs_list PySem.F.slot_list_append PySem.F.type_list_append mt_append (pv 1) (pa_cons pe_str pa_nil)))) (pss_one (ps_if (pt_cmpR (op_eqU hr.units) (pv 2) pe_str (nomark _)) (pss_cons (ps_set (i := 3) sc__law_parsed.nd rfl (by first | exact Or.inl rfl | exact Or.inr rfl) (pe_lst pa_nil))
    (pss_cons (ps_while PassesOwn.never (PW.pt (pw_and (pt_cmpR op_gt (pe_callB call_len (by rfl) T.b_len (by decide +kernel) (pa_cons (pv 1) pa_nil)) pe_int (nomark _)) (pw_and1 (pt_cmpR (op_neU hr.units) (pe_ix ix_seq (pv 1) (pe_un un_neg pe_int) (fun _ _ => rfl)) pe_str (nomark _))))) (pss_one (ps_set (i := 3) sc__law_parsed.nd rfl (by first | exact Or.inl rfl | exact Or.inr rfl) (pe_op op_addU (pe_lst (pa_cons (pe_bm0 PySem.F.plainAttrs_list PySem.F.slot_list_pop PySem.F.type_list_pop mt_pop (pv 1)) pa_nil)) (pv 3)))))
    (pss_cons (ps_if (pt_cmpR (op_eqU hr.units) (pe_callB call_len (by rfl) T.b_len (by decide +kernel) (pa_cons (pv 1) pa_nil)) pe_int (nomark _)) (pss_one (ps_ret pe_non)) pss_nil)
    (pss_cons (ps_expr (pe_bm0 PySem.F.plainAttrs_list PySem.F.slot_list_pop PySem.F.type_list_pop mt_pop (pv 1)))
    (pss_cons (ps_set (i := 4) sc__law_parsed.nd rfl (by first | exact Or.inl rfl | exact Or.inr rfl) (pe_cl G__law_grouped hr (by rfl) pass0 (pa_cons (pv 3) pa_nil)))
    (pss_cons (ps_if (pt_cmpR op_isNo (pv 4) pe_non (nomark _)) (pss_one (ps_ret pe_non)) pss_nil)
    (pss_one (ps_expr (pe_bm PySem.F.plainAttrs_list PySem.F.slot_list_append PySem.F.type_list_append mt_append (pv 1) (pa_cons (pv 4) pa_nil)))))))))) (pss_one (ps_expr (pe_bm PySem.F.plainAttrs_list PySem.F.slot_list_append PySem.F.type_list_append mt_append (pv 1) (pa_cons (pv 2) pa_nil)))))))))
    (pss_cons (ps_if (PW.pt (pw_or (pt_cmpR (op_neU hr.units) (pe_callB call_len (by rfl) T.b_len (by decide +kernel) (pa_cons (pv 1) pa_nil)) pe_int (nomark _)) (pw_or1 (pt_cmpR (op_eqU hr.units) (pe_ix ix_seq (pv 1) pe_int (fun _ _ => rfl)) pe_str (nomark _))))) (pss_one (ps_ret pe_non)) pss_nil)
    (pss_one (ps_ret (pe_cl G__law_atom hr (by rfl) pass0 (pa_cons (pe_ix ix_seq (pv 1) pe_int (fun _ _ => rfl)) pa_nil)))))))

abbrev s__law_atom_ : Stmt := top 41
theorem sc__law_atom : FnScope ["_law_item"] ["_law_item"] (defScope s__law_atom_) := ⟨rfl, rfl, rfl, by decide +kernel, rfl, by decide +kernel, by decide +kernel⟩
theorem ok__law_atom {s__law_integer_word : Sp} {s__law_is_path_due : Sp} {sp : Sp} {k : Nat} (T : Tx K mg) (G__law_integer_word : Cl P w K mg base CX0 k "_law_integer_word" s__law_integer_word) (G__law_is_path_due : Cl P w K mg base CX0 k "_law_is_path_due" s__law_is_path_due) (len : ∀ vs H Q E, sp vs H Q E → vs.length = 1)
    (pure : ∀ vs H Q E, sp vs H Q E → t__law_atom K s__law_integer_word s__law_is_path_due { nx := fun _ H' => Q .non H', rt := Q } (L2.start ["_law_item"] vs) H) : Cl P w K mg base CX0 (k + 1) "_law_atom" sp := by
  obtain ⟨fd, F⟩ := T.f__law_atom
  refine ⟨_, fd, ["_law_item"], T.g__law_atom, F.kp, FunD.bindsN F fun _ _ _ _ _ _ us hl => match us, hl with | [_], _ => rfl, F.ok sc__law_atom len fun cdv A outer s H vs Q E hr h => ⟨t__law_atom K s__law_integer_word s__law_is_path_due, PSs.nox ?_, pure vs H Q E h⟩⟩
  exact (pss_cons (ps_if (pt_val (pe_callB call_isi (by rfl) T.b_isinstance (by decide +kernel) (pa_cons (pv 0) (pa_cons (pe_bltn (by rfl) T.b_tuple (by decide +kernel) rfl) pa_nil)))) (pss_one (ps_ret (pv 0))) pss_nil)
    (pss_cons (ps_if (pt_cmpR (op_eqU hr.units) (pe_slice sl_U (pv 0) po_none (po_some pe_int)) pe_str (nomark _)) (pss_one (ps_ret (pe_ifExp (pt_val (pe_cl G__law_is_path_due hr (by rfl) pass0 (pa_cons (pe_slice sl_U (pv 0) (po_some pe_int) po_none) pa_nil))) (pe_tup (pa_cons pe_str (pa_cons (pe_slice sl_U (pv 0) (po_some pe_int) po_none) pa_nil))) pe_non))) pss_nil)
    (pss_one (ps_ret (pe_ifExp (pt_val (pe_cl G__law_integer_word hr (by rfl) pass0 (pa_cons (pv 0) pa_nil))) (pe_tup (pa_cons pe_str (pa_cons (pe_callTy call_int_str (by rfl) T.b_int (by decide +kernel) (pa_cons (pv 0) pa_nil)) pa_nil))) pe_non)))))

abbrev s__law_grouped_ : Stmt := top 42
theorem sc__law_grouped : FnScope ["_law_group", "_law_parts_here", "_law_item", "_law_part"] ["_law_group"] (defScope s__law_grouped_) := ⟨rfl, rfl, rfl, by decide +kernel, rfl, by decide +kernel, by decide +kernel⟩
theorem ok__law_grouped {s__law_atom : Sp} {sp : Sp} {k : Nat} (T : Tx K mg) (G__law_atom : Cl P w K mg base CX0 k "_law_atom" s__law_atom) (len : ∀ vs H Q E, sp vs H Q E → vs.length = 1)
    (pure : ∀ vs H Q E, sp vs H Q E → t__law_grouped K s__law_atom { nx := fun _ H' => Q .non H', rt := Q } (L2.start ["_law_group", "_law_parts_here", "_law_item", "_law_part"] vs) H) : Cl P w K mg base CX0 (k + 1) "_law_grouped" sp := by
  obtain ⟨fd, F⟩ := T.f__law_grouped
  refine ⟨_, fd, ["_law_group"], T.g__law_grouped, F.kp, FunD.bindsN F fun _ _ _ _ _ _ us hl => match us, hl with | [_], _ => rfl, F.ok sc__law_grouped len fun cdv A outer s H vs Q E hr h => ⟨t__law_grouped K s__law_atom, PSs.nox ?_, pure vs H Q E h⟩⟩
  exact (pss_cons (ps_if (PW.pt (pw_or (pt_cmpR (op_eqU hr.units) (pe_callB call_len (by rfl) T.b_len (by decide +kernel) (pa_cons (pv 0) pa_nil)) pe_int (nomark _)) (pw_or1 (pt_val (pe_callB call_isi (by rfl) T.b_isinstance (by decide +kernel) (pa_cons (pe_ix ix_seq (pv 0) pe_int (fun _ _ => rfl)) (pa_cons (pe_bltn (by rfl) T.b_tuple (by decide +kernel) rfl) pa_nil))))))) (pss_one (ps_ret pe_non)) pss_nil)
    (pss_cons (ps_setLc (i := 1) (own := [("_law_item", 2)]) rfl sc__law_grouped.nd rfl rfl (sw_true rfl rfl rfl (by decide +kernel)) (pi_list (pe_slice sl_U (pv 0) (po_some pe_int) po_none)) (blkOk_by (own := [("_law_item", 2)]) (N := ["_law_group", "_law_parts_here", "_law_item", "_law_part"]) (sc := defScope s__law_grouped_) (by decide +kernel)) (fun _ _ _ _ _ => (pg_name (i := 2) sc__law_grouped.nd rfl (by first | exact Or.inl rfl | exact Or.inr rfl))) (fun _ _ _ _ _ => pts_nil) (fun _ _ _ _ _ => (pe_cl G__law_atom hr (by rfl) pass0 (pa_cons (pv 2) pa_nil))))
    (pss_cons (ps_if (pt_cmpR (op_inD hr.units65) pe_non (pv 1) (by rfl)) (pss_one (ps_ret pe_non)) pss_nil)
    (pss_cons (ps_if (pt_cmpR (op_eqU hr.units) (pe_ix ix_seq (pv 0) pe_int (fun _ _ => rfl)) pe_str (nomark _)) (pss_cons (ps_if (PW.pt (pw_or (pt_cmpR (op_ltU hr.units0) (pe_callB call_len (by rfl) T.b_len (by decide +kernel) (pa_cons (pv 1) pa_nil)) pe_int (nomark _)) (pw_or1 (pt_cmpR op_gt (pe_callB call_len (by rfl) T.b_len (by decide +kernel) (pa_cons (pe_lc (own := [("_law_item", 2)]) rfl sc__law_grouped.nd (pi_list (pe_slice sl_U (pv 0) (po_some pe_int) po_none)) (blkOk_by (own := [("_law_item", 2)]) (N := ["_law_group", "_law_parts_here", "_law_item", "_law_part"]) (sc := defScope s__law_grouped_) (by decide +kernel)) (fun _ _ _ _ _ => (pg_name (i := 2) sc__law_grouped.nd rfl (by first | exact Or.inl rfl | exact Or.inr rfl))) (fun _ _ _ _ _ => (pts_one (PW.pt (pw_or (pt_val (pe_callB call_isi (by rfl) T.b_isinstance (by decide +kernel) (pa_cons (pv 2) (pa_cons (pe_bltn (by rfl) T.b_tuple (by decide +kernel) rfl) pa_nil)))) (pw_or1 (pt_cmpR (op_eqU hr.units) (pe_slice sl_U (pv 2) po_none (po_some pe_int)) pe_str (nomark _))))))) (fun _ _ _ _ _ => (pv 2))) pa_nil)) pe_int (nomark _))))) (pss_one (ps_ret pe_non)) pss_nil)
    (pss_one (ps_ret (pe_tup (pa_cons pe_str (pa_cons (pe_ix ix_seq (pv 1) pe_int (fun _ _ => rfl)) (pa_cons (pe_callTy call_tuple_of (by rfl) T.b_tuple (by decide +kernel) (pa_cons (pe_lc (own := [("_law_part", 3)]) rfl sc__law_grouped.nd (pi_list (pe_slice sl_U (pv 1) (po_some pe_int) po_none)) (blkOk_by (own := [("_law_part", 3)]) (N := ["_law_group", "_law_parts_here", "_law_item", "_law_part"]) (sc := defScope s__law_grouped_) (by decide +kernel)) (fun _ _ _ _ _ => (pg_name (i := 3) sc__law_grouped.nd rfl (by first | exact Or.inl rfl | exact Or.inr rfl))) (fun _ _ _ _ _ => pts_nil) (fun _ _ _ _ _ => (pe_ix ix_seq (pv 3) pe_int (fun _ _ => rfl)))) pa_nil)) pa_nil))))))) pss_nil)
    (pss_cons (ps_if (PW.pt (pw_or (PW.pt (pw_and (pt_cmpR op_inU (pe_ix ix_seq (pv 0) pe_int (fun _ _ => rfl)) (pe_tup (pa_cons pe_str (pa_cons pe_str (pa_cons pe_str (pa_cons pe_str (pa_cons pe_str (pa_cons pe_str pa_nil))))))) (by rfl)) (pw_and1 (pt_cmpR (op_eqU hr.units) (pe_callB call_len (by rfl) T.b_len (by decide +kernel) (pa_cons (pv 1) pa_nil)) pe_int (nomark _))))) (pw_or1 (PW.pt (pw_and (pt_cmpR (op_eqU hr.units) (pe_ix ix_seq (pv 0) pe_int (fun _ _ => rfl)) pe_str (nomark _)) (pw_and1 (pt_cmpR (op_eqU hr.units) (pe_callB call_len (by rfl) T.b_len (by decide +kernel) (pa_cons (pv 1) pa_nil)) pe_int (nomark _)))))))) (pss_one (ps_ret (pe_op op_addU (pe_tup (pa_cons (pe_ix ix_seq (pv 0) pe_int (fun _ _ => rfl)) pa_nil)) (pe_callTy call_tuple_of (by rfl) T.b_tuple (by decide +kernel) (pa_cons (pv 1) pa_nil))))) pss_nil)
    (pss_one (ps_ret pe_non)))))))

abbrev s_law_ : Stmt := top 43
theorem sc_law : FnScope ["_law_script", "_law_draws_here", "_law_expression_here", "_law_goal", "_law_k", "_law_words_here", "_law_deep", "_law_text", "_law_at", "_law_way", "_law_due", "_law_told", "e"] ["_law_script"] (defScope s_law_) := ⟨rfl, rfl, rfl, by decide +kernel, rfl, by decide +kernel, by decide +kernel⟩
theorem ok_law {s_parse_expression : Sp} {s__law_depth : Sp} {s__law_parsed : Sp} {s__law_is_text : Sp} {s_format_expression : Sp} {s__law_words : Sp} {s__law_expression : Sp} {s__law_stream : Sp} {sp : Sp} {k : Nat} {fd : FuncData} (T : Tx K mg) (F : FunD K "law" "law" (defArgs (top 43)) (defBody (top 43)) (defScope (top 43)) [] [] (He.ga K "law") fd) (G_parse_expression : Cl P w K mg base (L2.CX P w) k "parse_expression" s_parse_expression) (G__law_depth : Cl P w K mg base CX0 k "_law_depth" s__law_depth) (G__law_parsed : Cl P w K mg base CX0 k "_law_parsed" s__law_parsed) (G__law_is_text : Cl P w K mg base CX0 k "_law_is_text" s__law_is_text) (G_format_expression : Cl P w K mg base CX0 k "format_expression" s_format_expression) (G__law_words : Cl P w K mg base CX0 k "_law_words" s__law_words) (G__law_expression : Cl P w K mg base CX0 k "_law_expression" s__law_expression) (G__law_stream : Cl P w K mg base CX0 k "_law_stream" s__law_stream) (len : ∀ vs H Q E, sp vs H Q E → vs.length = 1)
    (pure : ∀ vs H Q E, sp vs H Q E → t_law K s_parse_expression s__law_depth s__law_parsed s__law_is_text s_format_expression s__law_words s__law_expression s__law_stream { nx := fun _ H' => Q .non H', rt := Q } (L2.start ["_law_script", "_law_draws_here", "_law_expression_here", "_law_goal", "_law_k", "_law_words_here", "_law_deep", "_law_text", "_law_at", "_law_way", "_law_due", "_law_told", "e"] vs) H) : FnOk P w K mg base CX0 (k + 1) (He.ga K "law") fd ["_law_script"] sp := by
  refine F.ok sc_law len fun cdv A outer s H vs Q E hr h => ⟨t_law K s_parse_expression s__law_depth s__law_parsed s__law_is_text s_format_expression s__law_words s__law_expression s__law_stream, PSs.nox ?_, pure vs H Q E h⟩
  exact (pss_cons (ps_set (i := 1) sc_law.nd rfl (by first | exact Or.inl rfl | exact Or.inr rfl) (pe_cl G__law_stream hr (by rfl) pass0 (pa_cons (pv 0) (pa_cons pe_int pa_nil))))
    (pss_cons (ps_set (i := 2) sc_law.nd rfl (by first | exact Or.inl rfl | exact Or.inr rfl) (pe_cl G__law_expression hr (by rfl) pass0 (pa_cons (pv 1) (pa_cons pe_int (pa_cons (pe_op op_mod (pe_ix ix_seq (pv 1) pe_int (fun _ _ => rfl)) pe_int) (pa_cons (pe_op op_mod (pe_ix ix_seq (pv 1) pe_int (fun _ _ => rfl)) pe_int) pa_nil))))))
    (pss_cons (ps_set (i := 3) sc_law.nd rfl (by first | exact Or.inl rfl | exact Or.inr rfl) (pe_ix ix_seq (pe_lst (pa_cons pe_int (pa_cons pe_int (pa_cons pe_int (pa_cons pe_int (pa_cons pe_int (pa_cons pe_int pa_nil))))))) (pe_op op_mod (pe_ix ix_seq (pv 1) pe_int (fun _ _ => rfl)) pe_int) (fun _ _ => rfl)))
    (pss_cons (ps_for PassesOwn.never rfl (pi_range1 (by rfl) T.b_range (pa_cons pe_int pa_nil)) (pg_name (i := 4) sc_law.nd rfl (by first | exact Or.inl rfl | exact Or.inr rfl)) (pss_one (ps_if (pt_cmpR (op_ltU hr.units0) (pe_cl G__law_depth hr (by rfl) pass0 (pa_cons (pv 2) pa_nil)) (pv 3) (nomark _)) (pss_one (ps_set (i := 2) sc_law.nd rfl (by first | exact Or.inl rfl | exact Or.inr rfl) (pe_ifExp (pt_cmpR (op_eqU hr.units) (pe_op op_mod (pe_ix ix_seq (pv 1) (pe_op op_addU pe_int (pv 4)) (fun _ _ => rfl)) pe_int) pe_int (nomark _)) (pe_tup (pa_cons pe_str (pa_cons (pv 2) (pa_cons (pe_tup (pa_cons pe_int pa_nil)) pa_nil)))) (pe_tup (pa_cons pe_str (pa_cons (pv 2) (pa_cons (pe_tup (pa_cons pe_str (pa_cons (pe_un un_neg (pv 4)) pa_nil))) pa_nil))))))) pss_nil)))
    (pss_cons (ps_set (i := 5) sc_law.nd rfl (by first | exact Or.inl rfl | exact Or.inr rfl) (pe_cl G__law_words hr (by rfl) pass0 (pa_cons (pv 2) pa_nil)))
    (pss_cons (ps_set (i := 6) sc_law.nd rfl (by first | exact Or.inl rfl | exact Or.inr rfl) (pe_cl G__law_depth hr (by rfl) pass0 (pa_cons (pv 2) pa_nil)))
    (pss_cons (ps_set (i := 7) sc_law.nd rfl (by first | exact Or.inl rfl | exact Or.inr rfl) (pe_join pe_str (pv 5)))
    (pss_cons (ps_if (PW.pt (pw_and (pt_cmpR op_le (pv 6) pe_int (nomark _)) (pw_and1 (PW.pt (pw_or (pt_not (pt_val (pe_cl G__law_is_text hr (by rfl) pass0 (pa_cons (pe_cl G_format_expression hr (by rfl) pass0 (pa_cons (pv 2) pa_nil)) (pa_cons (pv 7) pa_nil))))) (pw_or1 (pt_cmpR (op_neU hr.units) (pe_cl G_parse_expression hr (by rfl) passF (pa_cons (pv 7) pa_nil)) (pv 2) (nomark _)))))))) (pss_one (ps_ret pe_bl)) pss_nil)
    (pss_cons (ps_set (i := 8) sc_law.nd rfl (by first | exact Or.inl rfl | exact Or.inr rfl) (pe_op op_mod (pe_ix ix_seq (pv 1) pe_int (fun _ _ => rfl)) (pe_callB call_len (by rfl) T.b_len (by decide +kernel) (pa_cons (pv 5) pa_nil))))
    (pss_cons (ps_set (i := 9) sc_law.nd rfl (by first | exact Or.inl rfl | exact Or.inr rfl) (pe_op op_mod (pe_ix ix_seq (pv 1) pe_int (fun _ _ => rfl)) pe_int))
    (pss_cons (ps_if (pt_cmpR (op_eqU hr.units) (pv 9) pe_int (nomark _)) (pss_one (ps_set (i := 5) sc_law.nd rfl (by first | exact Or.inl rfl | exact Or.inr rfl) (pe_op op_addU (pe_slice sl_U (pv 5) po_none (po_some (pv 8))) (pe_slice sl_U (pv 5) (po_some (pe_op op_addU (pv 8) pe_int)) po_none)))) (pss_one (ps_if (pt_cmpR (op_eqU hr.units) (pv 9) pe_int (nomark _)) (pss_one (ps_set (i := 5) sc_law.nd rfl (by first | exact Or.inl rfl | exact Or.inr rfl) (pe_op op_addU (pe_op op_addU (pe_slice sl_U (pv 5) po_none (po_some (pv 8))) (pe_lst (pa_cons (pe_ix ix_seq (pv 5) (pv 8) (fun _ _ => rfl)) pa_nil))) (pe_slice sl_U (pv 5) (po_some (pv 8)) po_none)))) (pss_one (ps_if (pt_cmpR (op_eqU hr.units) (pv 9) pe_int (nomark _)) (pss_one (ps_asg (pe_ix ix_seq (pe_lst (pa_cons pe_str (pa_cons pe_str (pa_cons pe_str (pa_cons pe_str (pa_cons pe_str (pa_cons pe_str (pa_cons pe_str (pa_cons pe_str (pa_cons pe_str (pa_cons pe_str (pa_cons pe_str (pa_cons pe_str (pa_cons pe_str (pa_cons pe_str (pa_cons (pe_op op_mulS pe_str pe_int) (pa_cons (pe_op op_mulS pe_str pe_int) pa_nil))))))))))))))))) (pe_op op_mod (pe_ix ix_seq (pv 1) pe_int (fun _ _ => rfl)) pe_int) (fun _ _ => rfl)) (pg_sub (pv 5) (pv 8) set_list))) (pss_one (ps_if (pt_cmpR (op_eqU hr.units) (pv 9) pe_int (nomark _)) (pss_one (ps_asg (pe_op op_addU (pe_ix ix_seq (pv 5) (pv 8) (fun _ _ => rfl)) pe_str) (pg_sub (pv 5) (pv 8) set_list))) (pss_one (ps_if (pt_cmpR (op_eqU hr.units) (pv 9) pe_int (nomark _)) (pss_one (ps_set (i := 5) sc_law.nd rfl (by first | exact Or.inl rfl | exact Or.inr rfl) (pe_op op_addU (pv 5) (pe_lst (pa_cons (pe_ix ix_seq (pe_lst (pa_cons pe_str (pa_cons pe_str (pa_cons pe_str (pa_cons pe_str pa_nil))))) (pe_op op_mod (pe_ix ix_seq (pv 1) pe_int (fun _ _ => rfl)) pe_int) (fun _ _ => rfl)) pa_nil))))) pss_nil)))))))))
    (pss_cons (ps_set (i := 10) sc_law.nd rfl (by first | exact Or.inl rfl | exact Or.inr rfl) (pe_cl G__law_parsed hr (by rfl) pass0 (pa_cons (pe_split (pe_join pe_str (pv 5)) pe_str) pa_nil)))
    (pss_cons (ps_if (PW.pt (pw_and (pt_cmpR op_notNo (pv 10) pe_non (nomark _)) (pw_and1 (pt_cmpR op_gt (pe_cl G__law_depth hr (by rfl) pass0 (pa_cons (pv 10) pa_nil)) pe_int (nomark _))))) (pss_one (ps_set (i := 10) sc_law.nd rfl (by first | exact Or.inl rfl | exact Or.inr rfl) pe_non)) pss_nil)
    (pss_cons (ps_try_as (i := 12) (tb := fun W => (tAsg (tCallS s_parse_expression (WE W) (tCons (tM1 (rJoinU K) (tC (.str " ")) (tVar 5)) tNil)) (gName 11))) (ts := fun a cls d => (tRet (tAndV (tOp rIsNo (tVar 10) (tC .non)) (tAndV (tIsX (He.ga K "InvalidExpression") true a cls d 12) (tNotV (tIsX (He.ga K "InvalidExpression") false a cls d 12)))))) (Wout := fun _ _ _ _ => False) rfl rfl sc_law.nd rfl rfl ⟨by rfl, by decide, Or.inl T.g_InvalidExpression⟩ takes0 (fun W pn xe tk _ => (pss_one (ps_set (i := 11) sc_law.nd rfl (by first | exact Or.inl rfl | exact Or.inr rfl) (pe_clS G_parse_expression hr (by rfl) tk (pa_cons (pe_join pe_str (pv 5)) pa_nil))))) (fun a oe cls d pn hz hf => (pss_one (ps_ret (pe_and (pe_cmpR op_isNo (pv 10) pe_non (nomark _)) (pe_and (pe_isX (Y := He.ga K "TesseraError") T.e_InvalidExpression T.i_InvalidExpression_TesseraError hz hf (by rfl) T.b_isinstance (by rfl) T.g_TesseraError (pv 12)) (pe_one (pe_not (pe_isX (Y := He.ga K "InvalidDump") T.e_InvalidExpression T.i_InvalidExpression_InvalidDump hz hf (by rfl) T.b_isinstance (by rfl) T.g_InvalidDump (pv 12))))))))))
    (pss_one (ps_ret (pe_and (pe_cmpR op_notNo (pv 10) pe_non (nomark _)) (pe_one (pe_cmpR (op_eqU hr.units) (pv 11) (pv 10) (nomark _))))))))))))))))))))

end
end T95

set_option maxHeartbeats 2000000
namespace T95
open PySem PySem.Spec PyProof.Rows L2 T9
/-! ### promises -/
abbrev lints (D : List Int) : PyData := .list (D.map .int)
abbrev txts (D : List Str) : PyData := .list (D.map .str)
abbrev RR := List PyData → Res → Prop
def R_is_name : RR := fun ds r => ∃ z : Str, z.length ≤ 95000 ∧ ds = [.str z] ∧ r = .d (.bool (nameOk z))
def R_is_path : RR := fun ds r => ∃ z : Str, z.length ≤ 90000 ∧ ds = [.str z] ∧ r = .d (.bool (pathOk z))
def R_parts : RR := fun ds r => ∃ e, Good e ∧ ds = [enc e] ∧ r = .n (.lst ((parts e).map enc))
def R_depth (n : Nat) : RR := fun ds r => ∃ e, Good e ∧ dep e ≤ n ∧ ds = [enc e] ∧ r = .d (.int (dep e))
theorem r_is_name {z : Str} (h : z.length ≤ 95000) : R_is_name [.str z] (.d (.bool (nameOk z))) := ⟨z, h, rfl, rfl⟩
theorem r_is_path {z : Str} (h : z.length ≤ 90000) : R_is_path [.str z] (.d (.bool (pathOk z))) := ⟨z, h, rfl, rfl⟩
theorem r_parts {e : Exp} (h : Good e) : R_parts [enc e] (.n (.lst ((parts e).map enc))) := ⟨e, h, rfl, rfl⟩
theorem r_depth {n : Nat} {e : Exp} (h : Good e) (hn : dep e ≤ n) : R_depth n [enc e] (.d (.int (dep e))) := ⟨e, h, hn, rfl, rfl⟩
def R_is_integer : RR := fun ds r => ∃ i : Int, ds = [.int i] ∧ r = .d (.bool (numOk i))
def R_has_valid_names (n : Nat) : RR := fun ds r => ∃ e, Good e ∧ dep e ≤ n ∧ ds = [enc e] ∧ r = .d (.bool (valid e))
def R_is_expression : RR := fun ds r => ∃ e, Good e ∧ dep e ≤ 40 ∧ ds = [enc e] ∧ r = .d (.bool (valid e && decide ((dep e : Int) ≤ 12)))
def R_cell : RR := fun ds r => ∃ (sc : List Int) (k : Nat), ds = [lints sc, .int k] ∧ r = .d (.int (cell sc k))
def R_draws : RR := fun ds r => ∃ c : Int, ds = [.int c, .int 16] ∧ r = .n (.lst ((dSt c 16).1.map .int))
def R_is_text : RR := fun ds r => ∃ x y : Str, ds = [.str x, .str y] ∧ r = .d (.bool (decide (x = y)))
def R_stream : RR := fun ds r => ∃ sc : List Int, ds = [lints sc, .int 48] ∧ r = .n (.lst ((draws sc).map .int))
def R_letters : RR := fun ds r => ds = [] ∧ r = .d (.str letters)
def R_expr (n : Nat) : RR := fun ds r => ∃ (D : List Int) (a : Int) (d dm : Nat), Dr D ∧ d < n ∧ dm ≤ 3 ∧ ds = [lints D, .int a, .int d, .int (dm : Nat)] ∧ r = .d (enc (expr D dm d a))
/-! ### rules for the draws -/
section
variable {K : PySem.W.Frag} {D : List Int}
theorem ad_lenD (h : Dr D) : AD K (rLen K) [lints D] (.int 48) := by
  have z : AD K (rLen K) [lints D] (.int ((D.map PyData.int).length : Int)) := ad_lenL
  rwa [List.length_map, h.len] at z
theorem ad_lenM {α : Type} {f : α → PyData} {xs : List α} : AD K (rLen K) [.list (xs.map f)] (.int (xs.length : Int)) := by
  have z : AD K (rLen K) [.list (xs.map f)] (.int ((xs.map f).length : Int)) := ad_lenL
  rwa [List.length_map] at z
theorem rd_D (h : Dr D) {i : Int} : RD K (rIx K) (lints D) (.int (i % 48)) (.int (at_ D i)) := rd_ixL (at_get h i)
theorem rd_D0 (h : Dr D) {i : Int} (hi : i % 48 = i) : RD K (rIx K) (lints D) (.int i) (.int (at_ D i)) := rd_ixL (at_get0 h hi)
theorem rd_M {α : Type} {f : α → PyData} {xs : List α} {i : Int} (d : α) (h0 : 0 ≤ i) (h1 : i < xs.length) : RD K (rIx K) (.list (xs.map f)) (.int i) (f (nth xs i d)) := rd_ixL (nth_get h0 h1)
theorem rd_C {z : Str} {i : Int} (h0 : 0 ≤ i) (h1 : i < z.cps.toList.length) (hz : z.length ≤ 100000) : RD K (rIx K) (.str z) (.int i) (.str ⟨#[nthC z i]⟩) := rd_ixS hz (nthC_get h0 h1)
end
local macro_rules | `(tactic| walk_at "side") => `(tactic| first | assumption | omega | decide | rfl)
local macro_rules | `(tactic| walk_at "rd") => `(tactic| first
  | exact rd_D (by assumption) | exact rd_D0 (by assumption) rfl
  | exact rd_addI | exact rd_subI | exact rd_eqS | exact rd_eqI | exact rd_neS | exact rd_neI | exact rd_ltI | exact rd_leI | exact rd_gtI | exact rd_geI | exact rd_ltS
  | exact rd_inC | exact rd_ninC | exact rd_inT | exact rd_ninT | exact rd_ninTI
  | exact rd_ixT rfl | exact rd_ixL rfl | exact rd_ixL (by assumption) | exact rd_ixT (by assumption)
  | exact rd_mod (by walk_at "side") | exact rd_div ⟨by walk_at "side", by walk_at "side"⟩
  | exact rd_mulI (Or.inl ⟨by decide, by decide⟩) | exact rd_mulI (Or.inr ⟨by decide, by decide⟩) | exact rd_mulI (Or.inl ⟨by omega, by omega⟩)
  | exact rd_pow ⟨by decide, by decide, by decide⟩
  | exact rd_addS (by walk_at "side"))
local macro_rules | `(tactic| walk_at "ad") => `(tactic| first
  | exact ad_lenD (by assumption) | exact ad_lenM | exact ad_lenL | exact ad_lenT | exact ad_lenS (by walk_at "side") | exact ad_int | exact ad_intB | exact ad_tupleL | assumption)
local macro_rules | `(tactic| walk_at "ev") => `(tactic| first
  | exact ec_int | exact ec_str | exact ec_bl | exact ec_non
  | exact ec_var rfl | exact ec_varL rfl | exact es_var rfl | exact el_var rfl
  | assumption
  | exact ea_nil | (apply ea_cons; walk_at "ev"; walk_at "ev")
  | (apply ec_op; walk_at "ev"; walk_at "ev"; walk_at "rd")
  | (apply ec_un; walk_at "ev"; exact ud_neg)
  | (apply ec_cb; walk_at "ev"; walk_at "ad")
  | (apply ec_chain; walk_at "ev"; walk_at "ev"; walk_at "rd"; walk_at "ev"; walk_at "rd")
  | exact ecl_of (el_of (by assumption)) | exact el_of (by assumption)
  | (apply ec_call; walk_at "ev"; walk_at "call")
  | (apply ec_tup; walk_at "ev"; (simp; done))
  | (apply et_test; walk_at "ev") | (apply et_B; walk_at "ev") | (apply et_not; walk_at "ev")
  | (apply et_and; walk_at "ev"; (intro _; walk_at "ev")) | (apply et_or; walk_at "ev"; (intro _; walk_at "ev"))
  | (apply ec_and; walk_at "ev"; (intro _; walk_at "ev")) | (apply ec_or; walk_at "ev"; (intro _; walk_at "ev")) | (apply ec_not; walk_at "ev")
  | exact eo_none | (apply eo_some; walk_at "ev"))
local macro_rules | `(tactic| walk_at "call") => `(tactic| first
  | assumption | exact r_is_name (by walk_at "side") | exact r_is_path (by walk_at "side")
  | exact ⟨rfl, rfl⟩ | exact ⟨_, rfl, rfl⟩ | exact ⟨_, _, rfl, rfl⟩ | exact ⟨_, _, (by assumption), rfl, rfl⟩)
section
variable {K : PySem.W.Frag} {mg : Str → Option Value}
abbrev Po0 (r : Res) : Po := { nx := fun _ => r = .d .none, rt := fun s => IsRes s r }
theorem p_is_name : ∀ ds r, R_is_name ds r → StF K (t_is_name K) (startF 2 ds) (Po0 r) := by
  rintro ds r ⟨z, hz, rfl, rfl⟩
  refine sf_ret (es_of (d := .bool (nameOk z)) (ec_and ?_ fun _ => ?_) rfl) rfl
  · walk_at "ev"
  · have hc : EvN K [some (.im (.str z)), none] (tLc (iStr (tVar 0)) (gName 1) tYes (tOp (rInU K) (tVar 1) (tC (.str letters))) [1]) (.lst (z.cps.toList.map fun c => .bool (decide (c ∈ letters.cps.toList)))) := by
      refine en_lcM (f := fun c => .str ⟨#[c]⟩) (xs := z.cps.toList) _ (ew_of (ei_str (ec_var rfl))) (by rw [Array.length_toList]; exact Nat.lt_of_le_of_lt hz (by decide)) fun c _ => ⟨_, putc_name (by decide) (lt_rfl rfl) rfl, ?_, rfl⟩
      walk_at "ev"
    exact ec_cb (ea_cons (ecl_of (el_of hc)) ea_nil) ad_allM
theorem p_is_path : ∀ ds r, R_is_path ds r → StF K (t_is_path K (spF K R_is_name)) (startF 3 ds) (Po0 r) := by
  rintro ds r ⟨z, hz, rfl, rfl⟩
  refine sq_ret (b := decide (z = "")) (by walk_at "ev") (fun e => sf_ret (es_of (d := .bool true) ec_bl rfl) ?_) fun e => ?_
  · show (PyData.bool true) = .bool (pathOk z)
    unfold pathOk
    rw [e]
    rfl
  · refine sq_asgN (en_split (ec_var rfl) ec_str rfl (Nat.le_trans hz (by decide))) fun a => ?_
    refine sf_ret (es_of (d := .bool (decide (((Txt.split z slash).length : Int) ≤ 6) && (Txt.split z slash).all nameOk)) (ec_and (by walk_at "ev") fun _ => ?_) rfl) ?_
    · refine ec_cb (ea_cons (ecl_of (el_of (en_lcM (f := PyData.str) (xs := Txt.split z slash) (fun p => .bool (nameOk p)) (ew_list (ec_varL rfl)) ?_ fun p hp => ⟨_, putc_name (by decide) (lt_rfl rfl) rfl, ?_, rfl⟩))) ea_nil) ad_allM
      · exact Nat.lt_of_le_of_lt (split_few z) (by omega)
      · have := split_le z p hp
        exact ec_call (ea_cons (ec_var rfl) ea_nil) (r_is_name (by omega))
    · show (PyData.bool _) = .bool (pathOk z)
      unfold pathOk
      rw [e, Bool.false_or]
theorem p_is_integer : ∀ ds r, R_is_integer ds r → StF K (t_is_integer K) (startF 1 ds) (Po0 r) := by
  rintro ds r ⟨i, rfl, rfl⟩
  exact sf_ret (es_of (by walk_at "ev") rfl) rfl
theorem p_law_letters : ∀ ds r, R_letters ds r → StF K (t__law_letters K) (startF 0 ds) (Po0 r) := by
  rintro ds r ⟨rfl, rfl⟩
  exact sf_ret (es_of ec_str rfl) rfl
theorem p_law_is_text : ∀ ds r, R_is_text ds r → StF K (t__law_is_text K) (startF 2 ds) (Po0 r) := by
  rintro ds r ⟨x, y, rfl, rfl⟩
  exact sf_ret (es_of (d := .bool (true && decide (x = y))) (ec_and (ec_isi (ec_var rfl) rfl) fun _ => by walk_at "ev") rfl) rfl
theorem p_law_cell : ∀ ds r, R_cell ds r → StF K (t__law_cell K) (startF 2 ds) (Po0 r) := by
  rintro ds r ⟨sc, k, rfl, rfl⟩
  refine sq_ret (b := decide ((k : Int) < (sc.length : Int))) (by walk_at "ev") (fun e => ?_) fun e => ?_
  · have h : k < sc.length := by have := of_decide_eq_true e; omega
    refine sf_ret (es_of (d := .int (cell sc k)) (ec_op (ec_var rfl) (ec_var rfl) (rd_ixL ?_)) rfl) rfl
    have z := nth_get (f := PyData.int) (xs := sc) (i := k) (d := 0) (by omega) (by omega)
    rw [z]
    unfold nth cell
    rw [dif_pos h, List.getD_eq_getElem?_getD, Int.toNat_natCast, List.getElem?_eq_getElem h]
    rfl
  · have h : ¬ k < sc.length := by have := of_decide_eq_false e; omega
    refine sf_ret (es_of (d := .int 0) ec_int rfl) ?_
    show PyData.int 0 = .int (cell sc k)
    unfold cell
    rw [dif_neg h]
theorem p_law_is_name_due : ∀ ds r, R_is_name ds r → StF K (t__law_is_name_due K (spF K R_letters)) (startF 2 ds) (Po0 r) := by
  rintro ds r ⟨z, hz, rfl, rfl⟩
  refine sq_ret (b := decide ((z.length : Int) < 1) || decide ((12 : Int) < z.length)) (by walk_at "ev") (fun e => sf_ret (es_of (d := .bool false) ec_bl rfl) ?_) fun e => ?_
  · show PyData.bool false = .bool (nameOk z)
    unfold nameOk
    rw [Bool.or_eq_true, decide_eq_true_eq, decide_eq_true_eq] at e
    rcases e with e | e
    · rw [decide_eq_false (show ¬ (1 : Int) ≤ z.length by omega)]; rfl
    · rw [decide_eq_false (show ¬ (z.length : Int) ≤ 12 by omega), Bool.and_false]; rfl
  · have hc : EvN K [some (.im (.str z)), none] (tLc (iStr (tVar 0)) (gName 1) (tTest (tOp (rNinU K) (tVar 1) (tCall (spF K R_letters) [] E0 tNil))) (tVar 1) [1]) (.lst ((z.cps.toList.filter fun c => !decide (c ∈ letters.cps.toList)).map fun c => .str ⟨#[c]⟩)) := by
      refine en_lcT (f := fun c => .str ⟨#[c]⟩) (xs := z.cps.toList) _ _ (ew_of (ei_str (ec_var rfl))) (by rw [Array.length_toList]; exact Nat.lt_of_le_of_lt hz (by decide)) fun c _ => ⟨_, putc_name (by decide) (lt_rfl rfl) rfl, ?_, fun _ => ⟨ec_var rfl, rfl⟩⟩
      exact et_test (ec_op (ec_var rfl) (ec_call ea_nil ⟨rfl, rfl⟩) rd_ninC)
    refine sf_ret (es_of (ec_op (ec_cb (ea_cons (ecl_of (el_of hc)) ea_nil) ad_lenM) ec_int rd_eqI) rfl) ?_
    show PyData.bool _ = .bool (nameOk z)
    unfold nameOk
    rw [Bool.or_eq_false_iff, decide_eq_false_iff_not, decide_eq_false_iff_not] at e
    rw [decide_eq_true (show (1 : Int) ≤ z.length by omega), decide_eq_true (show (z.length : Int) ≤ 12 by omega)]
    generalize z.cps.toList = l
    congr 1
    rw [Bool.eq_iff_iff]
    simp
theorem p_law_is_path_due : ∀ ds r, R_is_path ds r → StF K (t__law_is_path_due K (spF K R_is_name)) (startF 3 ds) (Po0 r) := by
  rintro ds r ⟨z, hz, rfl, rfl⟩
  refine sq_ret (b := decide (z = "")) (by walk_at "ev") (fun e => sf_ret (es_of (d := .bool true) ec_bl rfl) ?_) fun e => ?_
  · show (PyData.bool true) = .bool (pathOk z)
    unfold pathOk
    rw [e]
    rfl
  · refine sq_asgN (en_split (ec_var rfl) ec_str rfl (Nat.le_trans hz (by decide))) fun a => ?_
    refine sf_ret (es_of (d := .bool (decide (((Txt.split z slash).length : Int) ≤ 6) && decide ((((Txt.split z slash).filter fun p => !nameOk p).length : Int) = 0))) (ec_and (by walk_at "ev") fun _ => ?_) rfl) ?_
    · refine ec_op (ec_cb (ea_cons (ecl_of (el_of (en_lcT (f := PyData.str) (xs := Txt.split z slash) (fun p => !nameOk p) (fun p => .str p) (ew_list (ec_varL rfl)) ?_ fun p hp => ⟨_, putc_name (by decide) (lt_rfl rfl) rfl, ?_, fun _ => ⟨ec_var rfl, rfl⟩⟩))) ea_nil) ad_lenM) ec_int rd_eqI
      · exact Nat.lt_of_le_of_lt (split_few z) (by omega)
      · have := split_le z p hp
        exact et_not (et_B (ec_call (ea_cons (ec_var rfl) ea_nil) (r_is_name (by omega))))
    · show (PyData.bool _) = .bool (pathOk z)
      unfold pathOk
      rw [e, Bool.false_or]
      congr 2
      rw [Bool.eq_iff_iff, decide_eq_true_eq, List.all_eq_true]
      have hh : ((Txt.split z slash).filter fun p => !nameOk p).length = 0 ↔ ∀ c ∈ Txt.split z slash, nameOk c = true := by
        rw [List.length_eq_zero_iff, List.filter_eq_nil_iff]
        simp
      constructor
      · intro h
        exact hh.mp (by omega)
      · intro h
        have := hh.mpr h
        omega
theorem p_law_draws : ∀ ds r, R_draws ds r → StF K (t__law_draws K) (startF 6 ds) (Po0 r) := by
  rintro ds r ⟨c, rfl, rfl⟩
  refine sq_asgN (o := .lst []) (en_lstD ea_nil (by decide) rfl) fun a => sq_asg (es_var rfl) ?_
  refine sf_seq (M := fun f => Le f [some (.im (.int c)), some (.im (.int 16)), some (.ob a (.lst ((dSt c 16).1.map .int))), some (.im (.int (dSt c 16).2)), none, none])
    (sf_for (fun i f => Le f [some (.im (.int c)), some (.im (.int 16)), some (.ob a (.lst ((dSt c i).1.map .int))), some (.im (.int (dSt c i).2)), none, none])
      (ei_rng (n := 16) (ea_cons (ec_var rfl) ea_nil) rfl (by decide) (by decide)) (Le.refl _) (fun i d f hd hf => ?_) fun f hf => ?_) fun f hf => sf_le (sf_retv (i := 2) (s := .ob a (.lst ((dSt c 16).1.map .int))) rfl rfl) hf
  · obtain ⟨hi, rfl⟩ := range_at hd
    refine ⟨_, put_le hf (lt_rfl rfl) rfl, sf_le ?_ (hf.set 4 _)⟩
    have hl : ((dSt c i).1.map PyData.int).length < 100000 := by
      rw [List.length_map, (dSt_ok c i).1]
      omega
    refine sf_if (by walk_at "ev") (fun e => ?_) fun e => ?_
    · have e1 : dSt c (i + 1) = ((dSt c i).1 ++ [(dSt c i).2 % 4096], (dSt c i).2 / 4096) := by
        rw [dSt_succ]
        exact if_pos e
      refine sq_app rfl (d := .int ((dSt c i).2 % 4096)) (by walk_at "ev") rfl hl (sf_asg (d := .int ((dSt c i).2 / 4096)) (es_of (by walk_at "ev") rfl) (lt_rfl rfl) ?_)
      show Le _ [some (.im (.int c)), some (.im (.int 16)), some (.ob a (.lst ((dSt c (i + 1)).1.map .int))), some (.im (.int (dSt c (i + 1)).2)), none, none]
      rw [e1, List.map_append]
      exact .cons (.cons (.cons (.cons (.drop (.cons .nil)))))
    · have e1 : dSt c (i + 1) = ((dSt c i).1 ++ [dMix c i / 7 % 4096], (dSt c i).2) := by
        rw [dSt_succ]
        exact if_neg (by rw [show (decide ((10 : Int) ^ 18 ≤ c) && decide (0 < (dSt c i).2)) = false from e]; exact Bool.false_ne_true)
      refine sq_asg (es_of (by walk_at "ev") rfl) (sq_asg (es_of (by walk_at "ev") rfl) (sq_asg (es_of (by walk_at "ev") rfl) (sf_app rfl (d := .int (dMix c i / 7 % 4096)) (by walk_at "ev") rfl hl ?_)))
      show Le _ [some (.im (.int c)), some (.im (.int 16)), some (.ob a (.lst ((dSt c (i + 1)).1.map .int))), some (.im (.int (dSt c (i + 1)).2)), none, none]
      rw [e1, List.map_append]
      exact .cons (.cons (.cons (.cons (.drop (.drop .nil)))))
  · rw [List.length_map, List.length_range] at hf
    exact hf
theorem p_law_stream : ∀ ds r, R_stream ds r → StF K (t__law_stream K (spF K R_draws) (spF K R_cell)) (startF 4 ds) (Po0 r) := by
  rintro ds r ⟨sc, rfl, rfl⟩
  refine sq_asgN (o := .lst []) (en_lstD ea_nil (by decide) rfl) fun a => ?_
  refine sf_seq (M := fun f => ∃ a, Le f [some (.im (lints sc)), some (.im (.int 48)), some (.ob a (.lst ((sSt sc 4).map .int))), none])
    (sf_for (fun i f => ∃ a, Le f [some (.im (lints sc)), some (.im (.int 48)), some (.ob a (.lst ((sSt sc i).map .int))), none])
      (ei_rng (n := 4) (ea_cons (d := .int (1 + 48 / 16)) (by walk_at "ev") ea_nil) rfl (by decide) (by decide)) ⟨a, Le.refl _⟩ (fun i d f hd hf => ?_) fun f hf => ?_) fun f hf => ?_
  · obtain ⟨hi, rfl⟩ := range_at hd
    obtain ⟨a, hf⟩ := hf
    refine ⟨_, put_le hf (lt_rfl rfl) rfl, sf_le ?_ (hf.set 3 _)⟩
    have hs := (sSt_ok sc i).1
    have hd := (dSt_ok (cell sc i + 7 * (i : Int)) 16).1
    refine sf_asgN (o := .lst ((sSt sc i).map .int ++ (dSt (cell sc i + 7 * (i : Int)) 16).1.map .int)) (en_addL (el_var rfl) (el_of (en_call (R := R_draws) (ea_cons (ec_op (ec_call (R := R_cell) (ea_cons (ec_var rfl) (ea_cons (ec_var rfl) ea_nil)) ⟨sc, i, rfl, rfl⟩) (ec_op ec_int (ec_var rfl) (rd_mulI (Or.inl ⟨by decide, by decide⟩))) rd_addI) (ea_cons ec_int ea_nil)) ⟨_, rfl, rfl⟩ (immAll_ints _))) ?_ ?_) (lt_rfl rfl) fun a' => ⟨a', ?_⟩
    · rw [← List.map_append]
      exact immAll_ints _
    · rw [List.length_map, List.length_map, hs, hd]
      omega
    · rw [sSt_succ, List.map_append]
      exact .cons (.cons (.cons (.drop .nil)))
  · rw [List.length_map, List.length_range] at hf
    exact hf
  · obtain ⟨a, hf⟩ := hf
    refine sf_le (sf_retN (o := .lst ((draws sc).map .int)) (en_lst (en_slL (ec_varL rfl) eo_none (eo_some (ec_var rfl)) (immAll_ints _)) ?_) fun _ => rfl) hf
    have hs := (sSt_ok sc 4).1
    unfold T9.cutD draws
    rw [List.length_map, hs]
    show (List.take 48 (List.drop 0 _)) = _
    rw [List.drop_zero, List.map_take]
theorem p_law_expression (n : Nat) : ∀ ds r, R_expr (n + 1) ds r → StF K (t__law_expression K (spF K (R_expr n))) (startF 8 ds) (Po0 r) := by
  rintro ds r ⟨D, a, d, dm, hD, hd, hdm, rfl, rfl⟩
  refine sq_asg (d := .int (draw D a)) (es_of (by walk_at "ev") rfl) ?_
  have leafE : ∀ fs : Fm, fs[4]? = some (some (.im (.int (draw D a)))) → StF K (tSeq (tIfS (tTest (tOp (rEqU K) (tOp rModU (tOp rDivU (tVar 4) (tC (.int 5))) (tC (.int 3))) (tC (.int 0)))) (tRet (tTup (tCons (tC (.str "number")) (tCons (tOp (rIx K) (tLst (tCons (tOp rSubU (tOp rModU (tOp rDivU (tVar 4) (tC (.int 15))) (tC (.int 9))) (tC (.int 4))) (tCons (tOp rSubU (tOp rPowU (tC (.int 10)) (tC (.int 29))) (tVar 4)) (tCons (tOp (rAddU K) (tUn rNegU (tOp rPowU (tC (.int 10)) (tC (.int 20)))) (tVar 4)) tNil)))) (tOp rModU (tOp rDivU (tVar 4) (tC (.int 135))) (tC (.int 3)))) tNil)))) tNext)
  (tRet (tTup (tCons (tC (.str "path")) (tCons (tOp (rIx K) (tLst (tCons (tC (.str "a")) (tCons (tC (.str "b")) (tCons (tC (.str "b/c")) tNil)))) (tOp rModU (tOp rDivU (tVar 4) (tC (.int 15))) (tC (.int 3)))) tNil))))) fs { nx := fun _ => False, rt := fun s => IsRes s (.d (enc (leaf (draw D a)))) } := fun fs hv => by
    have v4 : EvC K fs (tVar 4) (.int (draw D a)) := ec_var hv
    generalize draw D a = w at v4
    refine sq_ret (b := decide (w / 5 % 3 = 0)) (by walk_at "ev") (fun e => ?_) fun e => ?_
    · have e := of_decide_eq_true e
      refine sf_ret (es_of (d := .tuple [.str "number", .int (nth [w / 15 % 9 - 4, 100000000000000000000000000000 - w, -100000000000000000000 + w] (w / 135 % 3) 0)]) (ec_tup (ea_cons ec_str (ea_cons (ec_op (b := .int (w / 135 % 3)) (ec_lst (as := [w / 15 % 9 - 4, 100000000000000000000000000000 - w, -100000000000000000000 + w].map .int) ?_ (by simp)) (by walk_at "ev") (rd_M 0 (by omega) (by show w / 135 % 3 < ((3 : Nat) : Int); omega))) ea_nil)) (by simp)) rfl) ?_
      · exact ea_cons (by walk_at "ev") (ea_cons (ec_op (ec_op ec_int ec_int (rd_pow ⟨by decide, by decide, by decide⟩)) v4 rd_subI) (ea_cons (ec_op (ec_un (ec_op ec_int ec_int (rd_pow ⟨by decide, by decide, by decide⟩)) ud_neg) v4 rd_addI) ea_nil))
      · show PyData.tuple _ = enc (leaf w)
        unfold leaf
        rw [if_pos e]
        rfl
    · have e := of_decide_eq_false e
      refine sf_ret (es_of (d := .tuple [.str "path", .str (nth ["a", "b", "b/c"] (w / 15 % 3) "a")]) (ec_tup (ea_cons ec_str (ea_cons (ec_op (b := .int (w / 15 % 3)) (ec_lst (as := (["a", "b", "b/c"] : List Str).map .str) ?_ (by simp)) (by walk_at "ev") (rd_M (xs := (["a", "b", "b/c"] : List Str)) (i := w / 15 % 3) "a" (by omega) (by show w / 15 % 3 < ((3 : Nat) : Int); omega))) ea_nil)) (by simp)) rfl) ?_
      · exact ea_cons ec_str (ea_cons ec_str (ea_cons ec_str ea_nil))
      · show PyData.tuple _ = enc (leaf w)
        unfold leaf
        rw [if_neg e]
        rfl
  refine sq_ret (b := decide ((d : Int) = 0) || decide (draw D a % 5 = 0)) (by walk_at "ev") (fun e => ?_) fun e => ?_
  · have el : expr D dm d a = leaf (draw D a) := by
      rw [Bool.or_eq_true, decide_eq_true_eq, decide_eq_true_eq] at e
      match d with
      | 0 => rfl
      | d + 1 =>
        unfold expr
        rw [if_pos (e.resolve_left (by omega))]
    rw [el]
    exact leafE _ rfl
  · rw [Bool.or_eq_false_iff, decide_eq_false_iff_not, decide_eq_false_iff_not] at e
    obtain ⟨ed, ew⟩ := e
    obtain ⟨d, rfl⟩ : ∃ d', d = d' + 1 := ⟨d - 1, by omega⟩
    refine sq_asg (d := .int (draw D a / 5 % 9)) (es_of (by walk_at "ev") rfl) ?_
    refine sq_asgN (o := .lst [enc (expr D dm d (3 * a + 1 + 0)), enc (expr D dm d (3 * a + 1 + 1)), enc (expr D dm d (3 * a + 1 + 2))]) (en_lst (en_lcM (f := fun (k : Nat) => PyData.int k) (xs := List.range 3) (fun k => enc (expr D dm d (3 * a + 1 + (k : Nat)))) (ew_of (ei_rng (ea_cons ec_int ea_nil) rfl (by decide) (by decide))) (by decide) fun k _ => ⟨_, putc_name (by decide) (lt_rfl rfl) rfl, ?_, imm_enc _⟩) rfl) fun b => ?_
    · refine ec_call (R := R_expr n) (as := [lints D, .int (3 * a + 1 + (k : Nat)), .int (d : Nat), .int (dm : Nat)]) (ea_cons (ec_var rfl) (ea_cons (by walk_at "ev") (ea_cons (ec_eq (ec_op (ec_var rfl) ec_int rd_subI) ?_) (ea_cons (ec_var rfl) ea_nil)))) ⟨D, _, d, dm, hD, by omega, hdm, rfl, rfl⟩
      exact congrArg PyData.int (by omega)
    refine sq_ret (b := decide (draw D a / 5 % 9 = 7)) (by walk_at "ev") (fun e => ?_) fun e7 => ?_
    · have e := of_decide_eq_true e
      refine sf_ret (es_of (d := .tuple [.str "pick", enc (expr D dm d (3 * a + 1 + 0)), enc (expr D dm d (3 * a + 1 + 1)), enc (expr D dm d (3 * a + 1 + 2))]) (ec_tup (ea_cons ec_str (ea_cons (ec_op (ec_varL rfl) ec_int (rd_ixL rfl)) (ea_cons (ec_op (ec_varL rfl) ec_int (rd_ixL rfl)) (ea_cons (ec_op (ec_varL rfl) ec_int (rd_ixL rfl)) ea_nil)))) (by simp)) (imm_enc (.three _ _ _ _))) ?_
      show PyData.tuple _ = enc (expr D dm (d + 1) a)
      rw [show expr D dm (d + 1) a = _ by unfold expr; rw [if_neg ew, if_pos e]]
      rfl
    have e7 := of_decide_eq_false e7
    refine sq_ret (b := decide (draw D a / 5 % 9 = 8)) (by walk_at "ev") (fun e => ?_) fun e8 => ?_
    · have e := of_decide_eq_true e
      refine sf_ret (es_of (d := .tuple [.str "shift", enc (expr D dm d (3 * a + 1 + 0)), .tuple ((offs D dm a).map .int)]) (ec_tup (ea_cons ec_str (ea_cons (ec_op (ec_varL rfl) ec_int (rd_ixL rfl)) (ea_cons ?_ ea_nil))) (by simp)) (imm_enc (.shift _ _))) ?_
      · unfold offs
        rw [List.map_map]
        refine ec_cb (ea_cons (ecl_of (el_of (en_lcM (f := fun (k : Nat) => PyData.int k) (xs := List.range dm) (fun k => .int (at_ D (a + 5 + (k : Nat)) % 5 - 2)) (ew_of (ei_rng (ea_cons (ec_var rfl) ea_nil) (Int.toNat_natCast dm) (by omega) (by omega))) (by rw [List.length_range]; omega) fun k _ => ⟨_, putc_name (by decide) (lt_rfl rfl) rfl, ?_, rfl⟩))) ea_nil) ad_tupleL
        walk_at "ev"
      · show PyData.tuple _ = enc (expr D dm (d + 1) a)
        rw [show expr D dm (d + 1) a = _ by unfold expr; rw [if_neg ew, if_neg e7, if_pos e]]
        rfl
    have e8 := of_decide_eq_false e8
    refine sf_ret (es_of (d := .tuple [.str (nth kinds (draw D a / 5 % 9) "add"), enc (expr D dm d (3 * a + 1 + 0)), enc (expr D dm d (3 * a + 1 + 1))]) (ec_tup (ea_cons (ec_op (ec_lst (as := kinds.map .str) ?_ (by simp [kinds])) (ec_var rfl) (rd_M (xs := kinds) (i := draw D a / 5 % 9) "add" (by omega) (by show draw D a / 5 % 9 < ((7 : Nat) : Int); omega))) (ea_cons (ec_op (ec_varL rfl) ec_int (rd_ixL rfl)) (ea_cons (ec_op (ec_varL rfl) ec_int (rd_ixL rfl)) ea_nil))) (by simp)) (imm_enc (.two _ _ _))) ?_
    · exact ea_cons ec_str (ea_cons ec_str (ea_cons ec_str (ea_cons ec_str (ea_cons ec_str (ea_cons ec_str (ea_cons ec_str ea_nil))))))
    · show PyData.tuple _ = enc (expr D dm (d + 1) a)
      rw [show expr D dm (d + 1) a = _ by unfold expr; rw [if_neg ew, if_neg e7, if_neg e8]]
      rfl
theorem p_parts_of : ∀ ds r, R_parts ds r → StF K (t_parts_of K) (startF 2 ds) (Po0 r) := by
  rintro ds r ⟨e, h, rfl, rfl⟩
  cases e with
  | path p => exact sq_asg (d := .str "path") (es_of (ec_op (ec_var rfl) ec_int (rd_ixT rfl)) rfl) (sq_retT (et_eq (by walk_at "ev") (by decide +kernel)) (sf_retN (o := .lst []) (en_lstD ea_nil (by simp) rfl) fun _ => rfl))
  | num i => exact sq_asg (d := .str "number") (es_of (ec_op (ec_var rfl) ec_int (rd_ixT rfl)) rfl) (sq_retT (et_eq (by walk_at "ev") (by decide +kernel)) (sf_retN (o := .lst []) (en_lstD ea_nil (by simp) rfl) fun _ => rfl))
  | shift a o =>
    exact sq_asg (d := .str "shift") (es_of (ec_op (ec_var rfl) ec_int (rd_ixT rfl)) rfl) (sq_retF (et_eq (by walk_at "ev") (by decide +kernel)) (sq_retT (et_eq (by walk_at "ev") (by decide +kernel))
      (sf_retN (o := .lst [enc a]) (en_lstD (ea_cons (ec_op (ec_var rfl) ec_int (rd_ixT rfl)) ea_nil) (by simp) (immAll_mapM (xs := [a]) fun x _ => imm_enc x)) fun _ => rfl)))
  | two k a b =>
    obtain ⟨⟨h1, h2, h3⟩, _, _⟩ := h
    refine sq_asg (d := .str k) (es_of (ec_op (ec_var rfl) ec_int (rd_ixT rfl)) rfl) (sq_retF (et_eq (by walk_at "ev") (by rw [decide_eq_false h1, decide_eq_false h2]; rfl)) (sq_retF (et_eq (by walk_at "ev") (decide_eq_false h3)) ?_))
    exact sf_retN (o := .lst [enc a, enc b]) (en_cb (ea_cons (ec_slT (ds := [.str k, enc a, enc b]) (ec_var rfl) (eo_some ec_int) eo_none) ea_nil) al_listT (immAll_mapM (xs := [a, b]) fun x _ => imm_enc x)) fun _ => rfl
  | three k a b c =>
    obtain ⟨⟨h1, h2, h3⟩, _, _⟩ := h
    refine sq_asg (d := .str k) (es_of (ec_op (ec_var rfl) ec_int (rd_ixT rfl)) rfl) (sq_retF (et_eq (by walk_at "ev") (by rw [decide_eq_false h1, decide_eq_false h2]; rfl)) (sq_retF (et_eq (by walk_at "ev") (decide_eq_false h3)) ?_))
    exact sf_retN (o := .lst [enc a, enc b, enc c]) (en_cb (ea_cons (ec_slT (ds := [.str k, enc a, enc b, enc c]) (ec_var rfl) (eo_some ec_int) eo_none) ea_nil) al_listT (immAll_mapM (xs := [a, b, c]) fun x _ => imm_enc x)) fun _ => rfl
theorem p_law_parts : ∀ ds r, R_parts ds r → StF K (t__law_parts K) (startF 1 ds) (Po0 r) := by
  rintro ds r ⟨e, h, rfl, rfl⟩
  have tt : ∀ {fs : Fm}, EvC K fs (tTup (tCons (tC (.str "path")) (tCons (tC (.str "number")) tNil))) (.tuple ((["path", "number"] : List Str).map .str)) := fun {fs} => ec_tup (as := [.str "path", .str "number"]) (ea_cons ec_str (ea_cons ec_str ea_nil)) (by simp)
  cases e with
  | path p => exact sq_retT (et_eq (et_test (ec_op (a := .str "path") (ec_op (ec_var rfl) ec_int (rd_ixT rfl)) tt rd_inT)) (by decide +kernel)) (sf_retN (o := .lst []) (en_lstD ea_nil (by simp) rfl) fun _ => rfl)
  | num i => exact sq_retT (et_eq (et_test (ec_op (a := .str "number") (ec_op (ec_var rfl) ec_int (rd_ixT rfl)) tt rd_inT)) (by decide +kernel)) (sf_retN (o := .lst []) (en_lstD ea_nil (by simp) rfl) fun _ => rfl)
  | shift a o =>
    exact sq_retF (et_eq (et_test (ec_op (a := .str "shift") (ec_op (ec_var rfl) ec_int (rd_ixT rfl)) tt rd_inT)) (by decide +kernel)) (sq_retT (et_eq (et_test (ec_op (a := .str "shift") (ec_op (ec_var rfl) ec_int (rd_ixT rfl)) ec_str rd_eqS)) (by decide +kernel))
      (sf_retN (o := .lst [enc a]) (en_lstD (ea_cons (ec_op (ec_var rfl) ec_int (rd_ixT rfl)) ea_nil) (by simp) (immAll_mapM (xs := [a]) fun x _ => imm_enc x)) fun _ => rfl))
  | two k a b =>
    obtain ⟨⟨h1, h2, h3⟩, _, _⟩ := h
    refine sq_retF (et_eq (et_test (ec_op (a := .str k) (ec_op (ec_var rfl) ec_int (rd_ixT rfl)) tt rd_inT)) (decide_eq_false (by simp [h1, h2]))) (sq_retF (et_eq (et_test (ec_op (a := .str k) (ec_op (ec_var rfl) ec_int (rd_ixT rfl)) ec_str rd_eqS)) (decide_eq_false h3)) ?_)
    exact sf_retN (o := .lst [enc a, enc b]) (en_cb (ea_cons (ec_slT (ds := [.str k, enc a, enc b]) (ec_var rfl) (eo_some ec_int) eo_none) ea_nil) al_listT (immAll_mapM (xs := [a, b]) fun x _ => imm_enc x)) fun _ => rfl
  | three k a b c =>
    obtain ⟨⟨h1, h2, h3⟩, _, _⟩ := h
    refine sq_retF (et_eq (et_test (ec_op (a := .str k) (ec_op (ec_var rfl) ec_int (rd_ixT rfl)) tt rd_inT)) (decide_eq_false (by simp [h1, h2]))) (sq_retF (et_eq (et_test (ec_op (a := .str k) (ec_op (ec_var rfl) ec_int (rd_ixT rfl)) ec_str rd_eqS)) (decide_eq_false h3)) ?_)
    exact sf_retN (o := .lst [enc a, enc b, enc c]) (en_cb (ea_cons (ec_slT (ds := [.str k, enc a, enc b, enc c]) (ec_var rfl) (eo_some ec_int) eo_none) ea_nil) al_listT (immAll_mapM (xs := [a, b, c]) fun x _ => imm_enc x)) fun _ => rfl
theorem dep_max (e : Exp) : (((parts e).map fun p => (dep p : Int)) = [] → (dep e : Int) - 1 = 0) ∧ (((parts e).map fun p => (dep p : Int)) ≠ [] → (dep e : Int) - 1 ∈ ((parts e).map fun p => (dep p : Int)) ∧ ∀ y ∈ ((parts e).map fun p => (dep p : Int)), y ≤ (dep e : Int) - 1) := by
  cases e with
  | path p => simp [parts, dep]
  | num i => simp [parts, dep]
  | two k a b =>
    simp only [parts, dep, List.map_cons, List.map_nil, List.mem_cons, List.not_mem_nil, or_false, ne_eq, reduceCtorEq, false_implies, not_false_eq_true, true_implies, true_and]
    refine ⟨by omega, fun y hy => by omega⟩
  | three k a b c =>
    simp only [parts, dep, List.map_cons, List.map_nil, List.mem_cons, List.not_mem_nil, or_false, ne_eq, reduceCtorEq, false_implies, not_false_eq_true, true_implies, true_and]
    refine ⟨by omega, fun y hy => by omega⟩
  | shift a o =>
    simp only [parts, dep, List.map_cons, List.map_nil, List.mem_cons, List.not_mem_nil, or_false, ne_eq, reduceCtorEq, false_implies, not_false_eq_true, true_implies, true_and]
    refine ⟨by omega, fun y hy => by omega⟩
theorem imm_parts (e : Exp) : immAll ((parts e).map enc) = true := immAll_mapM fun x _ => imm_enc x
theorem lc_dep {n : Nat} {e : Exp} (h : Good e) (hn : dep e ≤ n + 1) {sp : Sp} (hsp : sp = spF K (R_depth n)) : EvN K [some (.im (enc e)), none] (tLc (iList K (tCall (spF K R_parts) [] E0 (tCons (tVar 0) tNil))) (gName 1) tYes (tCall sp [] E0 (tCons (tVar 1) tNil)) [1]) (.lst (((parts e).map fun p => (dep p : Int)).map .int)) := by
  subst hsp
  rw [List.map_map]
  refine en_lcM (f := enc) (xs := parts e) (fun p => .int (dep p)) (ew_of (ei_N (en_call (R := R_parts) (ea_cons (ec_var rfl) ea_nil) (r_parts h) (imm_parts e)) (imm_parts e))) (Nat.lt_of_le_of_lt (parts_few e) (by decide)) fun p hp => ⟨_, putc_name (by decide) (lt_rfl rfl) (imm_enc _), ?_, rfl⟩
  have := dep_parts hp
  exact ec_call (R := R_depth n) (ea_cons (ec_var rfl) ea_nil) (r_depth (good_parts h hp) (by omega))
theorem p_depth (n : Nat) : ∀ ds r, R_depth (n + 1) ds r → StF K (t_depth K (spF K R_parts) (spF K (R_depth n))) (startF 2 ds) (Po0 r) := by
  rintro ds r ⟨e, h, hn, rfl, rfl⟩
  refine sf_ret (es_of (d := .int (1 + ((dep e : Int) - 1))) (ec_op ec_int (ec_maxD (ea_cons (ecl_of (el_of (lc_dep h hn rfl))) ea_nil) (ea_cons ec_int ea_nil) (dep_max e).1 (dep_max e).2) rd_addI) rfl) ?_
  exact congrArg PyData.int (by omega)
theorem p_law_depth (n : Nat) : ∀ ds r, R_depth (n + 1) ds r → StF K (t__law_depth K (spF K R_parts) (spF K (R_depth n))) (startF 2 ds) (Po0 r) := by
  rintro ds r ⟨e, h, hn, rfl, rfl⟩
  have hl := parts_few e
  have hz : EvN K [some (.im (enc e)), none] (tOp (rAddU K) (tLc (iList K (tCall (spF K R_parts) [] E0 (tCons (tVar 0) tNil))) (gName 1) tYes (tCall (spF K (R_depth n)) [] E0 (tCons (tVar 1) tNil)) [1]) (tLst (tCons (tC (.int 0)) tNil))) (.lst ((((parts e).map fun p => (dep p : Int)) ++ [0]).map .int)) := by
    rw [List.map_append]
    refine en_addL (el_of (lc_dep h hn rfl)) (el_of (en_lstD (as := [.int 0]) (ea_cons ec_int ea_nil) (by simp) rfl)) ?_ ?_
    · rw [← List.map_append]
      exact immAll_ints _
    · simp
      omega
  refine sf_ret (es_of (d := .int (1 + ((dep e : Int) - 1))) (ec_op ec_int (ec_cb (ea_cons (ecl_of (el_of hz)) ea_nil) (ad_max (m := (dep e : Int) - 1) (by simp) ?_ ?_)) rd_addI) rfl) (congrArg PyData.int (by omega))
  · by_cases e0 : ((parts e).map fun p => (dep p : Int)) = []
    · rw [(dep_max e).1 e0]
      simp
    · exact List.mem_append_left _ ((dep_max e).2 e0).1
  · intro y hy
    rcases List.mem_append.mp hy with hy | hy
    · exact ((dep_max e).2 fun e0 => by rw [e0] at hy; exact absurd hy List.not_mem_nil).2 y hy
    · rw [List.mem_singleton.mp hy]
      have := dep_pos e
      omega
theorem v_tail (n : Nat) (T : Tx K mg) {e : Exp} {k : Str} (hg : Good e) (hn : dep e ≤ n + 1) (hv : valid e = (kindOk k && (parts e).all valid)) :
    StF K (tSeq (tIfS (tAnd (tTest (tOp (rNinU K) (tVar 1) (tC (.ref (He.ga K "PAIRS"))))) (tTest (tOp (rNinU K) (tVar 1) (tTup (tCons (tC (.str "pick")) (tCons (tC (.str "shift")) tNil)))))) (tRet (tC (.bl false))) tNext)
  (tRet (tCB (rAll K) (tCons (tLc (iList K (tCall (spF K R_parts) [] E0 (tCons (tVar 0) tNil))) (gName 2) tYes (tCall (spF K (R_has_valid_names n)) [] E0 (tCons (tVar 2) tNil)) [2]) tNil)))) [some (.im (enc e)), some (.im (.str k)), none, none] (Po0 (.d (.bool (valid e)))) := by
  have hP : ∀ {fs : Fm}, EvC K fs (tC (.ref (He.ga K "PAIRS"))) (.tuple (pairs.map .str)) := fun {fs} => ec_K fun H => dp_strsT (zs := pairs) T.k_PAIRS H
  have hQ : ∀ {fs : Fm}, EvC K fs (tTup (tCons (tC (.str "pick")) (tCons (tC (.str "shift")) tNil))) (.tuple ((["pick", "shift"] : List Str).map .str)) := fun {fs} => ec_tup (as := [.str "pick", .str "shift"]) (ea_cons ec_str (ea_cons ec_str ea_nil)) (by simp)
  refine sq_ret (b := !decide (k ∈ pairs) && !decide (k ∈ (["pick", "shift"] : List Str))) (et_and (et_test (ec_op (ec_var rfl) hP rd_ninT)) fun _ => et_test (ec_op (ec_var rfl) hQ rd_ninT)) (fun e => sf_ret (es_of (d := .bool false) ec_bl rfl) ?_) fun e => ?_
  · show PyData.bool false = .bool (valid _)
    rw [hv]
    have : kindOk k = false := by
      unfold kindOk
      rw [Bool.and_eq_true, Bool.not_eq_true', Bool.not_eq_true'] at e
      rw [e.1, e.2]
      rfl
    rw [this]
    rfl
  · have hk : kindOk k = true := by
      unfold kindOk
      revert e
      cases decide (k ∈ pairs) <;> cases decide (k ∈ (["pick", "shift"] : List Str)) <;> simp
    refine sf_ret (es_of (d := .bool ((parts _).all valid)) (ec_cb (ea_cons (ecl_of (el_of (en_lcM (f := enc) (xs := parts _) (fun p => .bool (valid p)) (ew_of (ei_N (en_call (R := R_parts) (ea_cons (ec_var rfl) ea_nil) (r_parts hg) (imm_parts _)) (imm_parts _))) (Nat.lt_of_le_of_lt (parts_few _) (by decide)) fun p hp => ⟨_, putc_name (by decide) (lt_rfl rfl) (imm_enc _), ?_, rfl⟩))) ea_nil) ad_allM) rfl) ?_
    · have := dep_parts hp
      exact ec_call (R := R_has_valid_names n) (ea_cons (ec_var rfl) ea_nil) ⟨p, good_parts hg hp, by omega, rfl, rfl⟩
    · show PyData.bool _ = .bool (valid _)
      rw [hv, hk, Bool.true_and]
theorem p_has_valid_names (n : Nat) (T : Tx K mg) : ∀ ds r, R_has_valid_names (n + 1) ds r → StF K (t_has_valid_names K (spF K R_parts) (spF K (R_has_valid_names n)) (spF K R_is_integer) (spF K R_is_path)) (startF 4 ds) (Po0 r) := by
  rintro ds r ⟨e, hg, hn, rfl, rfl⟩
  have gen : ∀ (k : Str), Free k → EvC K [some (.im (enc e)), none, none, none] (tOp (rIx K) (tVar 0) (tC (.int 0))) (.str k) → valid e = (kindOk k && (parts e).all valid) → StF K (t_has_valid_names K (spF K R_parts) (spF K (R_has_valid_names n)) (spF K R_is_integer) (spF K R_is_path)) [some (.im (enc e)), none, none, none] (Po0 (.d (.bool (valid e)))) := fun k hk h0 hv =>
    sq_asg (d := .str k) (es_of h0 rfl) (sq_retF (et_eq (et_test (ec_op (ec_var rfl) ec_str rd_eqS)) (decide_eq_false hk.1)) (sq_retF (et_eq (et_test (ec_op (ec_var rfl) ec_str rd_eqS)) (decide_eq_false hk.2.1))
      (sq_retF (et_eq (et_and (a := false) (b := true) (et_eq (et_test (ec_op (ec_var rfl) ec_str rd_eqS)) (decide_eq_false hk.2.2)) fun e => nomatch e) rfl) (v_tail n T hg hn hv))))
  cases e with
  | path p =>
    refine sq_asg (d := .str "path") (es_of (ec_op (ec_var rfl) ec_int (rd_ixT rfl)) rfl) (sq_retT (et_eq (et_test (ec_op (ec_var rfl) ec_str rd_eqS)) (by decide +kernel)) (sf_ret (es_of (d := .bool (pathOk p)) (ec_call (R := R_is_path) (ea_cons (ec_op (ec_var rfl) ec_int (rd_ixT rfl)) ea_nil) (r_is_path ?_)) rfl) rfl))
    exact Nat.le_trans hg.1 (by decide)
  | num i =>
    exact sq_asg (d := .str "number") (es_of (ec_op (ec_var rfl) ec_int (rd_ixT rfl)) rfl) (sq_retF (et_eq (et_test (ec_op (ec_var rfl) ec_str rd_eqS)) (by decide +kernel)) (sq_retT (et_eq (et_test (ec_op (ec_var rfl) ec_str rd_eqS)) (by decide +kernel)) (sf_ret (es_of (d := .bool (numOk i)) (ec_call (R := R_is_integer) (ea_cons (ec_op (ec_var rfl) ec_int (rd_ixT rfl)) ea_nil) ⟨i, rfl, rfl⟩) rfl) rfl)))
  | two k a b => exact gen k hg.1 (ec_op (ec_var rfl) ec_int (rd_ixT rfl)) rfl
  | three k a b c => exact gen k hg.1 (ec_op (ec_var rfl) ec_int (rd_ixT rfl)) rfl
  | shift a o =>
    refine sq_asg (d := .str "shift") (es_of (ec_op (ec_var rfl) ec_int (rd_ixT rfl)) rfl) (sq_retF (et_eq (et_test (ec_op (ec_var rfl) ec_str rd_eqS)) (by decide +kernel)) (sq_retF (et_eq (et_test (ec_op (ec_var rfl) ec_str rd_eqS)) (by decide +kernel)) ?_))
    refine sq_ret (b := true && !(o.all numOk)) (et_and (et_eq (et_test (ec_op (ec_var rfl) ec_str rd_eqS)) (by decide +kernel)) fun _ => et_not (et_B (ec_cb (ea_cons (ecl_of (el_of (en_lcM (f := PyData.int) (xs := o) (fun i => .bool (numOk i)) (ew_tup (ec_op (ec_var rfl) ec_int (rd_ixT rfl))) (Nat.lt_of_le_of_lt hg.2 (by decide)) fun i _ => ⟨_, putc_name (by decide) (lt_rfl rfl) rfl, ec_call (R := R_is_integer) (ea_cons (ec_var rfl) ea_nil) ⟨i, rfl, rfl⟩, rfl⟩))) ea_nil) ad_allM))) (fun e => sf_ret (es_of (d := .bool false) ec_bl rfl) ?_) fun e => v_tail n T hg hn ?_
    · show PyData.bool false = .bool (o.all numOk && (valid a && true))
      rw [Bool.true_and, Bool.not_eq_true'] at e
      rw [e]
      rfl
    · rw [Bool.true_and, Bool.not_eq_false'] at e
      show (o.all numOk && (valid a && true)) = (kindOk "shift" && (valid a && true))
      rw [e, show kindOk "shift" = true by decide +kernel]
theorem p_is_expression : ∀ ds r, R_is_expression ds r → StF K (t_is_expression K (spF K (R_has_valid_names 40)) (spF K (R_depth 40))) (startF 1 ds) (Po0 r) := by
  rintro ds r ⟨e, hg, hn, rfl, rfl⟩
  exact sf_ret (es_of (ec_and (ec_call (R := R_has_valid_names 40) (ea_cons (ec_var rfl) ea_nil) ⟨e, hg, hn, rfl, rfl⟩) fun _ => ec_op (ec_call (R := R_depth 40) (ea_cons (ec_var rfl) ea_nil) (r_depth hg hn)) ec_int rd_leI) rfl) rfl
end
end T95

set_option maxHeartbeats 2000000
namespace T95
open PySem PySem.Spec PyProof.Rows L2 T9
local macro_rules | `(tactic| walk_at "side") => `(tactic| first | assumption | omega | decide | rfl)
local macro_rules | `(tactic| walk_at "rd") => `(tactic| first
  | exact rd_D (by assumption) | exact rd_D0 (by assumption) rfl
  | exact rd_addI | exact rd_subI | exact rd_eqS | exact rd_eqI | exact rd_neS | exact rd_neI | exact rd_ltI | exact rd_leI | exact rd_gtI | exact rd_geI | exact rd_ltS
  | exact rd_inC | exact rd_ninC | exact rd_inT | exact rd_ninT | exact rd_ninTI
  | exact rd_ixT rfl | exact rd_ixL rfl | exact rd_ixL (by assumption) | exact rd_ixT (by assumption)
  | exact rd_mod (by walk_at "side") | exact rd_div ⟨by walk_at "side", by walk_at "side"⟩
  | exact rd_mulI (Or.inl ⟨by decide, by decide⟩) | exact rd_mulI (Or.inr ⟨by decide, by decide⟩) | exact rd_mulI (Or.inl ⟨by omega, by omega⟩)
  | exact rd_pow ⟨by decide, by decide, by decide⟩
  | exact rd_addS (by walk_at "side"))
local macro_rules | `(tactic| walk_at "ad") => `(tactic| first
  | exact ad_lenD (by assumption) | exact ad_lenM | exact ad_lenL | exact ad_lenT | exact ad_lenS (by walk_at "side") | exact ad_int | exact ad_intB | exact ad_tupleL | assumption)
local macro_rules | `(tactic| walk_at "ev") => `(tactic| first
  | exact ec_int | exact ec_str | exact ec_bl | exact ec_non
  | exact ec_var rfl | exact ec_varL rfl | exact es_var rfl | exact el_var rfl
  | assumption
  | exact ea_nil | (apply ea_cons; walk_at "ev"; walk_at "ev")
  | (apply ec_op; walk_at "ev"; walk_at "ev"; walk_at "rd")
  | (apply ec_un; walk_at "ev"; exact ud_neg)
  | (apply ec_cb; walk_at "ev"; walk_at "ad")
  | (apply ec_chain; walk_at "ev"; walk_at "ev"; walk_at "rd"; walk_at "ev"; walk_at "rd")
  | exact ecl_of (el_of (by assumption)) | exact el_of (by assumption)
  | (apply ec_call; walk_at "ev"; walk_at "call")
  | (apply ec_tup; walk_at "ev"; (simp; done))
  | (apply et_test; walk_at "ev") | (apply et_B; walk_at "ev") | (apply et_not; walk_at "ev")
  | (apply et_and; walk_at "ev"; (intro _; walk_at "ev")) | (apply et_or; walk_at "ev"; (intro _; walk_at "ev"))
  | (apply ec_and; walk_at "ev"; (intro _; walk_at "ev")) | (apply ec_or; walk_at "ev"; (intro _; walk_at "ev")) | (apply ec_not; walk_at "ev")
  | exact eo_none | (apply eo_some; walk_at "ev"))
local macro_rules | `(tactic| walk_at "call") => `(tactic| first
  | assumption | exact r_is_name (by walk_at "side") | exact r_is_path (by walk_at "side")
  | exact ⟨rfl, rfl⟩ | exact ⟨_, rfl, rfl⟩ | exact ⟨_, _, rfl, rfl⟩ | exact ⟨_, _, (by assumption), rfl, rfl⟩)
section
variable {K : PySem.W.Frag} {mg : Str → Option Value}
def R_read_integer : RR := fun ds r => ∃ w : Str, w.length ≤ 95000 ∧ ds = [.str w] ∧ r = .d (if intWord w = true then .int (intOf w) else .none)
def R_integer_word : RR := fun ds r => ∃ w : Str, w.length ≤ 95000 ∧ ds = [.str w] ∧ r = .d (.bool (intWord w))
def R_words (n : Nat) : RR := fun ds r => ∃ e, Good e ∧ valid e = true ∧ dep e ≤ n ∧ (wordsE e).length ≤ 90000 ∧ ds = [enc e] ∧ r = .n (.lst ((wordsE e).map .str))
theorem rest_le (w : Str) : (rest w).length ≤ w.length := cutS_length _ _ _
theorem digs_le (w : Str) : (digs w).length ≤ w.length := by
  unfold digs
  split
  · exact rest_le w
  · exact Nat.le_refl _
theorem ad_intS {w : Str} {n : Int} (h : intText? w = some n) (hl : w.length ≤ 640) : AD K rIntS [.str w] (.int n) := fun xs H hx Q q => by
  cases hx with
  | cons h1 h2 => cases h2 with
    | nil =>
      cases dp_str h1
      exact ⟨w, n, rfl, h, hl, q _ H (Evl.Ex.refl H) (.int n)⟩
theorem ad_strI {n : Int} (h : numOk n = true) : AD K rStrI [.int n] (.str (strI n)) := fun xs H hx Q q => by
  cases hx with
  | cons h1 h2 => cases h2 with
    | nil =>
      cases dp_int h1
      refine ⟨n, rfl, ?_, q _ H (Evl.Ex.refl H) (.str _)⟩
      unfold numOk at h
      rw [Bool.and_eq_true, decide_eq_true_eq, decide_eq_true_eq] at h
      have : n.natAbs < 2 ^ 100 := by
        have : (2 : Nat) ^ 100 = 1267650600228229401496703205376 := by decide
        omega
      by_cases h0 : n.natAbs = 0
      · rw [h0]
        decide
      · exact Nat.lt_of_lt_of_le ((Nat.log2_lt h0).mpr this) (by decide)
theorem cut1_le (w : Str) : EvC K fs (tVar i) (.str w) → w.length ≤ 95000 → EvC K fs (tSl (rSlU K) (tVar i) tNoPart (tPart (tC (.int 1)))) (.str (cutS w none (some 1))) := fun h hl => ec_slS h eo_none (eo_some ec_int) (by omega)
theorem cutR_le (w : Str) : EvC K fs (tVar i) (.str w) → w.length ≤ 95000 → EvC K fs (tSl (rSlU K) (tVar i) (tPart (tC (.int 1))) tNoPart) (.str (rest w)) := fun h hl => ec_slS h (eo_some ec_int) eo_none (by omega)
theorem hd_ix {w : Str} (h1 : 1 ≤ w.length) (hl : w.length ≤ 95000) : EvC K fs (tVar i) (.str w) → EvC K fs (tOp (rIx K) (tVar i) (tC (.int 0))) (.str ⟨#[nthC w 0]⟩) := fun h => ec_op h ec_int (rd_C (by decide) (by rw [show w.cps.toList.length = w.length by rw [Array.length_toList]; rfl]; omega) (by omega))
theorem p_read_integer : ∀ ds r, R_read_integer ds r → StF K (t_read_integer K) (startF 3 ds) (Po0 r) := by
  rintro ds r ⟨w, hw, rfl, rfl⟩
  have hdl := digs_le w
  refine sq_asg (es_var rfl) (sq_when (gs := [some (.im (.str w)), some (.im (.str (digs w))), none]) (b := decide (cutS w none (some 1) = "-")) (et_test (ec_op (cut1_le w (ec_var rfl) hw) ec_str rd_eqS)) (fun e => ?_) (fun e => ?_) ?_)
  · refine sf_asg (d := .str (digs w)) (es_of ?_ rfl) (lt_rfl rfl) (.cons (.cons (.cons .nil)))
    unfold digs
    rw [if_pos (of_decide_eq_true e)]
    exact cutR_le w (ec_var rfl) hw
  · rw [show digs w = w from if_neg (of_decide_eq_false e)]
    exact .cons (.cons (.cons .nil))
  · have hall : EvC K [some (.im (.str w)), some (.im (.str (digs w))), none] (tCB (rAll K) (tCons (tLc (iStr (tVar 1)) (gName 2) tYes (tOp (rInU K) (tVar 2) (tC (.str "0123456789"))) [2]) tNil)) (.bool ((digs w).cps.toList.all fun c => decide (c ∈ digits.cps.toList))) := by
      refine ec_cb (ea_cons (ecl_of (el_of (en_lcM (f := fun c => .str ⟨#[c]⟩) (xs := (digs w).cps.toList) (fun c => .bool (decide (c ∈ digits.cps.toList))) (ew_of (ei_str (ec_var rfl))) (by rw [Array.length_toList]; exact Nat.lt_of_le_of_lt hdl (by omega)) fun c _ => ⟨_, putc_name (by decide) (lt_rfl rfl) rfl, ?_, rfl⟩))) ea_nil) ad_allM
      exact ec_op (ec_var rfl) ec_str rd_inC
    have hlen : EvC K [some (.im (.str w)), some (.im (.str (digs w))), none] (tCB (rLen K) (tCons (tVar 1) tNil)) (.int ((digs w).length)) := ec_cb (ea_cons (ec_var rfl) ea_nil) (ad_lenS (by omega))
    refine sq_ret (et_or (et_test (ec_op hlen ec_int rd_ltI)) fun _ => et_or (et_test (ec_op hlen ec_int rd_gtI)) fun _ => et_not (et_B hall)) (fun e => sf_ret (es_of (d := .none) ec_non rfl) ?_) fun e => ?_
    · have hi : intWord w = false := by
        unfold intWord
        simp only [Bool.or_eq_true, decide_eq_true_eq, Bool.not_eq_true'] at e
        rcases e with e | e | e
        · rw [decide_eq_false (show ¬ 1 ≤ (digs w).length by omega)]
          rfl
        · rw [decide_eq_false (show ¬ (digs w).length ≤ 30 by omega), Bool.and_false]
          rfl
        · rw [e, Bool.and_false]
          rfl
      show PyData.none = (if intWord w = true then _ else _)
      rw [hi]
      rfl
    · simp only [Bool.or_eq_false_iff, decide_eq_false_iff_not, Bool.not_eq_false'] at e
      obtain ⟨e1, e2, e3⟩ := e
      have h1 : 1 ≤ (digs w).length := by omega
      have hi : intWord w = (decide (w = "0") || !decide ((⟨#[nthC (digs w) 0]⟩ : Str) = "0")) := by
        unfold intWord
        rw [e3, decide_eq_true h1, decide_eq_true (show (digs w).length ≤ 30 by omega)]
        rfl
      refine sq_ret (et_and (et_test (ec_op (hd_ix h1 (by omega) (ec_var rfl)) ec_str rd_eqS)) fun _ => et_test (ec_op (ec_var rfl) ec_str rd_neS)) (fun e => sf_ret (es_of (d := .none) ec_non rfl) ?_) fun e => ?_
      · rw [Bool.and_eq_true, Bool.not_eq_true'] at e
        show PyData.none = (if intWord w = true then _ else _)
        rw [hi, e.1, e.2]
        rfl
      · have hi' : intWord w = true := by
          rw [hi]
          revert e
          cases decide ((⟨#[nthC (digs w) 0]⟩ : Str) = "0") <;> cases decide (w = "0") <;> simp
        obtain ⟨hv, hl, _⟩ := intW hi'
        refine sf_ret (es_of (d := .int (intOf w)) (ec_cb (ea_cons (ec_var rfl) ea_nil) (ad_intS hv (by omega))) rfl) ?_
        show PyData.int (intOf w) = (if intWord w = true then _ else _)
        rw [hi']
        rfl
theorem p_integer_word : ∀ ds r, R_integer_word ds r → StF K (t__law_integer_word K) (startF 3 ds) (Po0 r) := by
  rintro ds r ⟨w, hw, rfl, rfl⟩
  have hdl := digs_le w
  refine sq_asg (d := .str (digs w)) (es_of (ec_if (b := decide (cutS w none (some 1) = "-")) (et_test (ec_op (cut1_le w (ec_var rfl) hw) ec_str rd_eqS)) (fun e => ?_) fun e => ?_) rfl) ?_
  · unfold digs
    rw [if_pos (of_decide_eq_true e)]
    exact cutR_le w (ec_var rfl) hw
  · rw [show digs w = w from if_neg (of_decide_eq_false e)]
    exact ec_var rfl
  · have hf : EvN K [some (.im (.str w)), some (.im (.str (digs w))), none] (tLc (iStr (tVar 1)) (gName 2) (tTest (tOp (rNinU K) (tVar 2) (tC (.str "0123456789")))) (tVar 2) [2]) (.lst (((digs w).cps.toList.filter fun c => !decide (c ∈ digits.cps.toList)).map fun c => .str ⟨#[c]⟩)) := by
      refine en_lcT (f := fun c => .str ⟨#[c]⟩) (xs := (digs w).cps.toList) _ _ (ew_of (ei_str (ec_var rfl))) (by rw [Array.length_toList]; exact Nat.lt_of_le_of_lt hdl (by omega)) fun c _ => ⟨_, putc_name (by decide) (lt_rfl rfl) rfl, et_test (ec_op (ec_var rfl) ec_str rd_ninC), fun _ => ⟨ec_var rfl, rfl⟩⟩
    have hlen : EvC K [some (.im (.str w)), some (.im (.str (digs w))), none] (tCB (rLen K) (tCons (tVar 1) tNil)) (.int ((digs w).length)) := ec_cb (ea_cons (ec_var rfl) ea_nil) (ad_lenS (by omega))
    have hz : ((digs w).cps.toList.all fun c => decide (c ∈ digits.cps.toList)) = !decide ((0 : Int) < (((digs w).cps.toList.filter fun c => !decide (c ∈ digits.cps.toList)).length : Nat)) := by
      rw [Bool.eq_iff_iff, List.all_eq_true, Bool.not_eq_true', decide_eq_false_iff_not]
      have hh : ((digs w).cps.toList.filter fun c => !decide (c ∈ digits.cps.toList)).length = 0 ↔ ∀ c ∈ (digs w).cps.toList, decide (c ∈ digits.cps.toList) = true := by
        rw [List.length_eq_zero_iff, List.filter_eq_nil_iff]
        simp
      constructor
      · intro h
        have := hh.mpr h
        omega
      · intro h
        exact hh.mp (by omega)
    refine sq_ret (et_or (et_test (ec_op hlen ec_int rd_ltI)) fun _ => et_or (et_test (ec_op hlen ec_int rd_gtI)) fun _ => et_test (ec_op (ec_cb (ea_cons (ecl_of (el_of hf)) ea_nil) ad_lenM) ec_int rd_gtI)) (fun e => sf_ret (es_of (d := .bool false) ec_bl rfl) ?_) fun e => ?_
    · have hi : intWord w = false := by
        unfold intWord
        rw [hz]
        simp only [Bool.or_eq_true, decide_eq_true_eq] at e
        rcases e with e | e | e
        · rw [decide_eq_false (show ¬ 1 ≤ (digs w).length by omega)]
          rfl
        · rw [decide_eq_false (show ¬ (digs w).length ≤ 30 by omega), Bool.and_false]
          rfl
        · rw [decide_eq_true e, Bool.not_true, Bool.and_false]
          rfl
      show PyData.bool false = .bool (intWord w)
      rw [hi]
    · simp only [Bool.or_eq_false_iff, decide_eq_false_iff_not] at e
      obtain ⟨e1, e2, e3⟩ := e
      have h1 : 1 ≤ (digs w).length := by omega
      refine sf_ret (es_of (ec_or (ec_op (ec_var rfl) ec_str rd_eqS) fun _ => ec_op (hd_ix h1 (by omega) (ec_var rfl)) ec_str rd_neS) rfl) ?_
      show PyData.bool _ = .bool (intWord w)
      unfold intWord
      rw [hz, decide_eq_false e3, decide_eq_true h1, decide_eq_true (show (digs w).length ≤ 30 by omega)]
      rfl
def frontE : Exp → List Str
  | .path _ => []
  | .num _ => []
  | .two k _ _ => [("(" : Str), k]
  | .three k _ _ _ => [("(" : Str), k]
  | .shift _ _ => [("(" : Str), "shift"]
def offE : Exp → List Str
  | .shift _ o => o.map strI
  | _ => []
def leafE : Exp → Bool
  | .path _ => true
  | .num _ => true
  | _ => false
theorem words_eq {e : Exp} (h : leafE e = false) : wordsE e = frontE e ++ ((parts e).flatMap wordsE ++ (offE e ++ [(")" : Str)])) := by
  cases e with
  | path _ => cases h
  | num _ => cases h
  | two _ _ _ => simp [wordsE, frontE, offE, parts]
  | three _ _ _ _ => simp [wordsE, frontE, offE, parts]
  | shift _ _ => simp [wordsE, frontE, offE, parts]
theorem valid_parts {e p : Exp} (h : valid e = true) (hp : p ∈ parts e) : valid p = true := by
  cases e with
  | path _ => exact absurd hp List.not_mem_nil
  | num _ => exact absurd hp List.not_mem_nil
  | two k a b =>
    have h' : (kindOk k && (valid a && (valid b && true))) = true := h
    simp only [Bool.and_eq_true] at h'
    simp only [parts, List.mem_cons, List.not_mem_nil, or_false] at hp
    rcases hp with rfl | rfl
    · exact h'.2.1
    · exact h'.2.2.1
  | three k a b c =>
    have h' : (kindOk k && (valid a && (valid b && (valid c && true)))) = true := h
    simp only [Bool.and_eq_true] at h'
    simp only [parts, List.mem_cons, List.not_mem_nil, or_false] at hp
    rcases hp with rfl | rfl | rfl
    · exact h'.2.1
    · exact h'.2.2.1
    · exact h'.2.2.2.1
  | shift a o =>
    have h' : (o.all numOk && (valid a && true)) = true := h
    simp only [Bool.and_eq_true] at h'
    simp only [parts, List.mem_cons, List.not_mem_nil, or_false] at hp
    rw [hp]
    exact h'.2.1
theorem flat_le {e p : Exp} {i : Nat} (hp : (parts e)[i]? = some p) : (((parts e).take i).flatMap wordsE).length + (wordsE p).length ≤ ((parts e).flatMap wordsE).length := by
  have h : (parts e).flatMap wordsE = ((parts e).take i).flatMap wordsE ++ (wordsE p ++ ((parts e).drop (i + 1)).flatMap wordsE) := by
    have h1 : parts e = (parts e).take i ++ (p :: (parts e).drop (i + 1)) := by
      obtain ⟨hi, e2⟩ := List.getElem?_eq_some_iff.mp hp
      rw [← e2, ← List.drop_eq_getElem_cons hi, List.take_append_drop]
    conv => lhs; rw [h1]
    rw [List.flatMap_append, List.flatMap_cons]
  rw [h]
  simp only [List.length_append]
  omega
theorem r_words {n : Nat} {e : Exp} (h : Good e) (hv : valid e = true) (hn : dep e ≤ n) (hl : (wordsE e).length ≤ 90000) : R_words n [enc e] (.n (.lst ((wordsE e).map .str))) := ⟨e, h, hv, hn, hl, rfl, rfl⟩
theorem p_expression_words (n : Nat) : ∀ ds r, R_words (n + 1) ds r → StF K (t_expression_words K (spF K R_parts) (spF K (R_words n))) (startF 5 ds) (Po0 r) := by
  rintro ds r ⟨e, h, hv, hn, hl, rfl, rfl⟩
  have main : ∀ k : Str, leafE e = false → frontE e = [("(" : Str), k] → k ≠ "path" → k ≠ "number" → (k = "shift" ↔ ∃ a o, e = .shift a o) → EvC K [some (.im (enc e)), none, none, none, none] (tOp (rIx K) (tVar 0) (tC (.int 0))) (.str k) →
      StF K (t_expression_words K (spF K R_parts) (spF K (R_words n))) [some (.im (enc e)), none, none, none, none] (Po0 (.n (.lst ((wordsE e).map .str)))) := fun k hle hfr k1 k2 k3 hk => by
    have he := words_eq hle
    have hlen : (wordsE e).length = 2 + (((parts e).flatMap wordsE).length + ((offE e).length + 1)) := by
      rw [he, hfr, List.length_append, List.length_append, List.length_append]
      rfl
    refine sq_asg (d := .str k) (es_of hk rfl) (sq_retF (et_eq (et_test (ec_op (ec_var rfl) ec_str rd_eqS)) (decide_eq_false k1)) (sq_retF (et_eq (et_test (ec_op (ec_var rfl) ec_str rd_eqS)) (decide_eq_false k2)) ?_))
    refine sq_asgN (o := .lst ((frontE e).map .str)) (by rw [hfr]; exact en_lstD (ea_cons ec_str (ea_cons (ec_var rfl) ea_nil)) (by simp) rfl) fun a => ?_
    refine sf_seq (M := fun f => Le f [some (.im (enc e)), some (.im (.str k)), some (.ob a (.lst ((frontE e ++ (parts e).flatMap wordsE).map .str))), none, none])
      (sf_for (fun i f => Le f [some (.im (enc e)), some (.im (.str k)), some (.ob a (.lst ((frontE e ++ ((parts e).take i).flatMap wordsE).map .str))), none, none])
        (ei_N (en_call (R := R_parts) (ea_cons (ec_var rfl) ea_nil) (r_parts h) (imm_parts e)) (imm_parts e)) (by rw [show (frontE e ++ ((parts e).take 0).flatMap wordsE) = frontE e by simp]; exact Le.refl _) (fun i d f hd hf => ?_) fun f hf => ?_) fun f hf => sf_le ?_ hf
    · rw [List.getElem?_map] at hd
      obtain ⟨p, hp, rfl⟩ := Option.map_eq_some_iff.mp hd
      have hpm : p ∈ parts e := List.mem_of_getElem? hp
      have hdp := dep_parts hpm
      have hfl := flat_le hp
      refine ⟨_, put_le hf (lt_rfl rfl) (imm_enc p), sf_le ?_ (hf.set 3 _)⟩
      refine sf_ext (i := 2) (a := a) (ds := (frontE e ++ ((parts e).take i).flatMap wordsE).map .str) (es := (wordsE p).map .str) rfl (el_of (en_call (R := R_words n) (ea_cons (ec_var rfl) ea_nil) (r_words (good_parts h hpm) (valid_parts hv hpm) (by omega) (by omega)) (immAll_strs _))) (immAll_strs _) ?_ ?_
      · rw [List.length_map, List.length_map, List.length_append, hfr]
        show 2 + _ + _ ≤ _
        omega
      · show Le _ [some (.im (enc e)), some (.im (.str k)), some (.ob a (.lst ((frontE e ++ ((parts e).take (i + 1)).flatMap wordsE).map .str))), none, none]
        rw [List.take_add_one, hp, ← List.map_append, List.flatMap_append]
        simp only [Option.toList_some, List.flatMap_cons, List.flatMap_nil, List.append_nil, List.append_assoc]
        exact .cons (.cons (.cons (.drop (.cons .nil))))
    · rw [List.length_map, List.take_length] at hf
      exact hf
    · refine sq_when (gs := [some (.im (enc e)), some (.im (.str k)), some (.ob a (.lst ((frontE e ++ ((parts e).flatMap wordsE ++ offE e)).map .str))), none, none]) (b := decide (k = "shift")) (et_test (ec_op (ec_var rfl) ec_str rd_eqS)) (fun eb => ?_) (fun eb => ?_) ?_
      · obtain ⟨x, o, rfl⟩ := k3.mp (of_decide_eq_true eb)
        have hv' : (o.all numOk && (valid x && true)) = true := hv
        have ho : ∀ y ∈ o, numOk y = true := List.all_eq_true.mp (Bool.and_eq_true_iff.mp hv').1
        have hol : o.length ≤ 90000 := h.2
        refine sf_ext (i := 2) (a := a) (es := (offE (.shift x o)).map .str) rfl (el_of ?_) (immAll_strs _) ?_ ?_
        · show EvN K _ _ (.lst ((o.map strI).map .str))
          rw [List.map_map]
          exact en_lcM (f := PyData.int) (xs := o) (fun y => .str (strI y)) (ew_tup (ec_op (ec_var rfl) ec_int (rd_ixT rfl))) (by omega) fun y hy => ⟨_, putc_name (by decide) (lt_rfl rfl) rfl, ec_cb (ea_cons (ec_var rfl) ea_nil) (ad_strI (ho y hy)), rfl⟩
        · rw [List.length_map, List.length_map, List.length_append, hfr]
          show 2 + _ + _ ≤ _
          omega
        · rw [← List.append_assoc, List.map_append (l₂ := offE _)]
          exact .cons (.cons (.cons (.cons (.cons .nil))))
      · have : offE e = [] := by
          cases e with
          | shift x o => exact absurd (k3.mpr ⟨x, o, rfl⟩) (of_decide_eq_false eb)
          | path _ => rfl
          | num _ => rfl
          | two _ _ _ => rfl
          | three _ _ _ _ => rfl
        rw [this, List.append_nil]
        exact .cons (.cons (.cons (.cons (.cons .nil))))
      · refine sf_retN (o := .lst ((wordsE e).map .str)) (en_lst (en_addL (el_var rfl) (el_of (en_lstD (as := [.str ")"]) (ea_cons ec_str ea_nil) (by simp) rfl)) ?_ ?_) ?_) fun _ => rfl
        · rw [show [PyData.str ")"] = [(")" : Str)].map .str from rfl, ← List.map_append]
          exact immAll_strs _
        · rw [List.length_map, List.length_append, List.length_append, hfr]
          show 2 + _ + 1 ≤ _
          omega
        · rw [show [PyData.str ")"] = [(")" : Str)].map .str from rfl, ← List.map_append, he]
          simp
  cases e with
  | path p =>
    refine sq_asg (d := .str "path") (es_of (ec_op (ec_var rfl) ec_int (rd_ixT rfl)) rfl) (sq_retT (et_eq (et_test (ec_op (ec_var rfl) ec_str rd_eqS)) (by decide +kernel)) (sf_retN (o := .lst [.str ("@" ++ p)]) (en_lstD (ea_cons (ec_op ec_str (ec_op (ec_var rfl) ec_int (rd_ixT rfl)) (rd_addS ?_)) ea_nil) (by simp) rfl) fun _ => rfl))
    have := h.1
    show 1 + p.length ≤ _
    omega
  | num i => exact sq_asg (d := .str "number") (es_of (ec_op (ec_var rfl) ec_int (rd_ixT rfl)) rfl) (sq_retF (et_eq (et_test (ec_op (ec_var rfl) ec_str rd_eqS)) (by decide +kernel)) (sq_retT (et_eq (et_test (ec_op (ec_var rfl) ec_str rd_eqS)) (by decide +kernel)) (sf_retN (o := .lst [.str (strI i)]) (en_lstD (ea_cons (ec_cb (ea_cons (ec_op (ec_var rfl) ec_int (rd_ixT rfl)) ea_nil) (ad_strI hv)) ea_nil) (by simp) rfl) fun _ => rfl)))
  | two k a b => exact main k rfl rfl h.1.1 h.1.2.1 ⟨fun e => absurd e h.1.2.2, fun ⟨_, _, e⟩ => nomatch e⟩ (ec_op (ec_var rfl) ec_int (rd_ixT rfl))
  | three k a b c => exact main k rfl rfl h.1.1 h.1.2.1 ⟨fun e => absurd e h.1.2.2, fun ⟨_, _, e⟩ => nomatch e⟩ (ec_op (ec_var rfl) ec_int (rd_ixT rfl))
  | shift a o => exact main "shift" rfl rfl (by decide +kernel) (by decide +kernel) ⟨fun _ => ⟨a, o, rfl⟩, fun _ => rfl⟩ (ec_op (ec_var rfl) ec_int (rd_ixT rfl))
end
end T95

set_option maxHeartbeats 2000000
namespace T95
open PySem PySem.Spec PyProof.Rows L2 T9
local macro_rules | `(tactic| walk_at "side") => `(tactic| first | assumption | omega | decide | rfl)
local macro_rules | `(tactic| walk_at "rd") => `(tactic| first
  | exact rd_D (by assumption) | exact rd_D0 (by assumption) rfl
  | exact rd_addI | exact rd_subI | exact rd_eqS | exact rd_eqI | exact rd_neS | exact rd_neI | exact rd_ltI | exact rd_leI | exact rd_gtI | exact rd_geI | exact rd_ltS
  | exact rd_inC | exact rd_ninC | exact rd_inT | exact rd_ninT | exact rd_ninTI
  | exact rd_ixT rfl | exact rd_ixL rfl | exact rd_ixL (by assumption) | exact rd_ixT (by assumption)
  | exact rd_mod (by walk_at "side") | exact rd_div ⟨by walk_at "side", by walk_at "side"⟩
  | exact rd_mulI (Or.inl ⟨by decide, by decide⟩) | exact rd_mulI (Or.inr ⟨by decide, by decide⟩) | exact rd_mulI (Or.inl ⟨by omega, by omega⟩)
  | exact rd_pow ⟨by decide, by decide, by decide⟩
  | exact rd_addS (by walk_at "side"))
local macro_rules | `(tactic| walk_at "ad") => `(tactic| first
  | exact ad_lenD (by assumption) | exact ad_lenM | exact ad_lenL | exact ad_lenT | exact ad_lenS (by walk_at "side") | exact ad_int | exact ad_intB | exact ad_tupleL | assumption)
local macro_rules | `(tactic| walk_at "ev") => `(tactic| first
  | exact ec_int | exact ec_str | exact ec_bl | exact ec_non
  | exact ec_var rfl | exact ec_varL rfl | exact es_var rfl | exact el_var rfl
  | assumption
  | exact ea_nil | (apply ea_cons; walk_at "ev"; walk_at "ev")
  | (apply ec_op; walk_at "ev"; walk_at "ev"; walk_at "rd")
  | (apply ec_un; walk_at "ev"; exact ud_neg)
  | (apply ec_cb; walk_at "ev"; walk_at "ad")
  | (apply ec_chain; walk_at "ev"; walk_at "ev"; walk_at "rd"; walk_at "ev"; walk_at "rd")
  | exact ecl_of (el_of (by assumption)) | exact el_of (by assumption)
  | (apply ec_call; walk_at "ev"; walk_at "call")
  | (apply ec_tup; walk_at "ev"; (simp; done))
  | (apply et_test; walk_at "ev") | (apply et_B; walk_at "ev") | (apply et_not; walk_at "ev")
  | (apply et_and; walk_at "ev"; (intro _; walk_at "ev")) | (apply et_or; walk_at "ev"; (intro _; walk_at "ev"))
  | (apply ec_and; walk_at "ev"; (intro _; walk_at "ev")) | (apply ec_or; walk_at "ev"; (intro _; walk_at "ev")) | (apply ec_not; walk_at "ev")
  | exact eo_none | (apply eo_some; walk_at "ev"))
local macro_rules | `(tactic| walk_at "call") => `(tactic| first
  | assumption | exact r_is_name (by walk_at "side") | exact r_is_path (by walk_at "side")
  | exact ⟨rfl, rfl⟩ | exact ⟨_, rfl, rfl⟩ | exact ⟨_, _, rfl, rfl⟩ | exact ⟨_, _, (by assumption), rfl, rfl⟩)
section
variable {K : PySem.W.Frag} {mg : Str → Option Value}
theorem p_law_words (n : Nat) : ∀ ds r, R_words (n + 1) ds r → StF K (t__law_words K (spF K R_parts) (spF K (R_words n))) (startF 4 ds) (Po0 r) := by
  rintro ds r ⟨e, h, hv, hn, hl, rfl, rfl⟩
  have main : ∀ k : Str, leafE e = false → frontE e = [("(" : Str), k] → k ≠ "path" → k ≠ "number" → (k = "shift" ↔ ∃ a o, e = .shift a o) → (∀ fs : Fm, fs[0]? = some (some (.im (enc e))) → EvC K fs (tOp (rIx K) (tVar 0) (tC (.int 0))) (.str k)) →
      StF K (t__law_words K (spF K R_parts) (spF K (R_words n))) [some (.im (enc e)), none, none, none] (Po0 (.n (.lst ((wordsE e).map .str)))) := fun k hle hfr k1 k2 k3 hk => by
    have he := words_eq hle
    have hlen : (wordsE e).length = 2 + (((parts e).flatMap wordsE).length + ((offE e).length + 1)) := by
      rw [he, hfr, List.length_append, List.length_append, List.length_append]
      rfl
    refine sq_retF (et_eq (et_test (ec_op (hk _ rfl) ec_str rd_eqS)) (decide_eq_false k1)) (sq_retF (et_eq (et_test (ec_op (hk _ rfl) ec_str rd_eqS)) (decide_eq_false k2)) ?_)
    refine sq_asgN (o := .lst ((frontE e).map .str)) (by rw [hfr]; exact en_lstD (ea_cons ec_str (ea_cons (hk _ rfl) ea_nil)) (by simp) rfl) fun a => ?_
    refine sf_seq (M := fun f => ∃ a : Addr, Le f [some (.im (enc e)), some (.ob a (.lst ((frontE e ++ (parts e).flatMap wordsE).map .str))), none, none])
      (sf_for (fun i f => ∃ a : Addr, Le f [some (.im (enc e)), some (.ob a (.lst ((frontE e ++ ((parts e).take i).flatMap wordsE).map .str))), none, none])
        (ei_N (en_call (R := R_parts) (ea_cons (ec_var rfl) ea_nil) (r_parts h) (imm_parts e)) (imm_parts e)) ⟨a, by rw [show (frontE e ++ ((parts e).take 0).flatMap wordsE) = frontE e by simp]; exact Le.refl _⟩ (fun i d f hd hf => ?_) fun f hf => ?_) fun f ⟨a, hf⟩ => sf_le ?_ hf
    · rw [List.getElem?_map] at hd
      obtain ⟨p, hp, rfl⟩ := Option.map_eq_some_iff.mp hd
      obtain ⟨a, hf⟩ := hf
      have hpm : p ∈ parts e := List.mem_of_getElem? hp
      have hdp := dep_parts hpm
      have hfl := flat_le hp
      refine ⟨_, put_le hf (lt_rfl rfl) (imm_enc p), sf_le ?_ (hf.set 2 _)⟩
      refine sf_asgN (o := .lst ((frontE e ++ ((parts e).take i).flatMap wordsE).map .str ++ (wordsE p).map .str)) (en_addL (el_var rfl) (el_of (en_call (R := R_words n) (ea_cons (ec_var rfl) ea_nil) (r_words (good_parts h hpm) (valid_parts hv hpm) (by omega) (by omega)) (immAll_strs _))) ?_ ?_) (lt_rfl rfl) fun b => ⟨b, ?_⟩
      · rw [← List.map_append]
        exact immAll_strs _
      · rw [List.length_map, List.length_map, List.length_append, hfr]
        show 2 + _ + _ ≤ _
        omega
      · rw [List.take_add_one, hp, ← List.map_append, List.flatMap_append]
        simp only [Option.toList_some, List.flatMap_cons, List.flatMap_nil, List.append_nil, List.append_assoc]
        exact .cons (.cons (.drop (.cons .nil)))
    · obtain ⟨a, hf⟩ := hf
      rw [List.length_map, List.take_length] at hf
      exact ⟨a, hf⟩
    · refine sf_seq (M := fun f => ∃ a : Addr, Le f [some (.im (enc e)), some (.ob a (.lst ((frontE e ++ ((parts e).flatMap wordsE ++ offE e)).map .str))), none, none]) (sf_if (b := decide (k = "shift")) (et_test (ec_op (hk _ rfl) ec_str rd_eqS)) (fun eb => ?_) (fun eb => sf_next ⟨a, ?_⟩)) fun f ⟨a, hf⟩ => sf_le ?_ hf
      · obtain ⟨x, o, rfl⟩ := k3.mp (of_decide_eq_true eb)
        have hv' : (o.all numOk && (valid x && true)) = true := hv
        have ho : ∀ y ∈ o, numOk y = true := List.all_eq_true.mp (Bool.and_eq_true_iff.mp hv').1
        have hol : o.length ≤ 90000 := h.2
        refine sf_asgN (o := .lst ((frontE (.shift x o) ++ (parts (.shift x o)).flatMap wordsE).map .str ++ (offE (.shift x o)).map .str)) (en_addL (el_var rfl) (el_of ?_) ?_ ?_) (lt_rfl rfl) fun b => ⟨b, ?_⟩
        · show EvN K _ _ (.lst ((o.map strI).map .str))
          rw [List.map_map]
          exact en_lcM (f := PyData.int) (xs := o) (fun y => .str (strI y)) (ew_tup (ec_op (ec_var rfl) ec_int (rd_ixT rfl))) (by omega) fun y hy => ⟨_, putc_name (by decide) (lt_rfl rfl) rfl, ec_cb (ea_cons (ec_var rfl) ea_nil) (ad_strI (ho y hy)), rfl⟩
        · rw [← List.map_append]
          exact immAll_strs _
        · rw [List.length_map, List.length_map, List.length_append, hfr]
          show 2 + _ + _ ≤ _
          omega
        · rw [← List.append_assoc, ← List.map_append]
          exact .cons (.cons (.cons (.cons .nil)))
      · have : offE e = [] := by
          cases e with
          | shift x o => exact absurd (k3.mpr ⟨x, o, rfl⟩) (of_decide_eq_false eb)
          | path _ => rfl
          | num _ => rfl
          | two _ _ _ => rfl
          | three _ _ _ _ => rfl
        rw [this, List.append_nil]
        exact .cons (.cons (.cons (.cons .nil)))
      · refine sf_retN (o := .lst ((wordsE e).map .str)) (en_lst (en_addL (el_var rfl) (el_of (en_lstD (as := [.str ")"]) (ea_cons ec_str ea_nil) (by simp) rfl)) ?_ ?_) ?_) fun _ => rfl
        · rw [show [PyData.str ")"] = [(")" : Str)].map .str from rfl, ← List.map_append]
          exact immAll_strs _
        · rw [List.length_map, List.length_append, List.length_append, hfr]
          show 2 + _ + 1 ≤ _
          omega
        · rw [show [PyData.str ")"] = [(")" : Str)].map .str from rfl, ← List.map_append, he]
          simp
  have ix : ∀ (k : Str) (rs : List PyData), enc e = .tuple (.str k :: rs) → ∀ fs : Fm, fs[0]? = some (some (.im (enc e))) → EvC K fs (tOp (rIx K) (tVar 0) (tC (.int 0))) (.str k) := fun k rs hk fs h0 => by
    rw [hk] at h0
    refine ec_op (ec_var h0) ec_int (rd_ixT ?_)
    unfold atI ixN
    rw [if_pos (by decide), if_pos (by first | (simp; done) | (simp; omega))]
    rfl
  cases e with
  | path p =>
    refine sq_retT (et_eq (et_test (ec_op (ix "path" _ rfl _ rfl) ec_str rd_eqS)) (by decide +kernel)) (sf_retN (o := .lst [.str ("@" ++ p)]) (en_lstD (ea_cons (ec_op ec_str (ec_op (ec_var rfl) ec_int (rd_ixT rfl)) (rd_addS ?_)) ea_nil) (by simp) rfl) fun _ => rfl)
    have := h.1
    show 1 + p.length ≤ _
    omega
  | num i => exact sq_retF (et_eq (et_test (ec_op (ix "number" _ rfl _ rfl) ec_str rd_eqS)) (by decide +kernel)) (sq_retT (et_eq (et_test (ec_op (ix "number" _ rfl _ rfl) ec_str rd_eqS)) (by decide +kernel)) (sf_retN (o := .lst [.str (strI i)]) (en_lstD (ea_cons (ec_cb (ea_cons (ec_op (ec_var rfl) ec_int (rd_ixT rfl)) ea_nil) (ad_strI hv)) ea_nil) (by simp) rfl) fun _ => rfl))
  | two k a b => exact main k rfl rfl h.1.1 h.1.2.1 ⟨fun e => absurd e h.1.2.2, fun ⟨_, _, e⟩ => nomatch e⟩ (ix k _ rfl)
  | three k a b c => exact main k rfl rfl h.1.1 h.1.2.1 ⟨fun e => absurd e h.1.2.2, fun ⟨_, _, e⟩ => nomatch e⟩ (ix k _ rfl)
  | shift a o => exact main "shift" rfl rfl (by decide +kernel) (by decide +kernel) ⟨fun _ => ⟨a, o, rfl⟩, fun _ => rfl⟩ (ix "shift" _ rfl)
end
end T95

set_option maxHeartbeats 2000000
namespace T95
open PySem PySem.Spec PyProof.Rows L2 T9
local macro_rules | `(tactic| walk_at "side") => `(tactic| first | assumption | omega | decide | rfl)
local macro_rules | `(tactic| walk_at "rd") => `(tactic| first
  | exact rd_D (by assumption) | exact rd_D0 (by assumption) rfl
  | exact rd_addI | exact rd_subI | exact rd_eqS | exact rd_eqI | exact rd_neS | exact rd_neI | exact rd_ltI | exact rd_leI | exact rd_gtI | exact rd_geI | exact rd_ltS
  | exact rd_inC | exact rd_ninC | exact rd_inT | exact rd_ninT | exact rd_ninTI
  | exact rd_ixT rfl | exact rd_ixL rfl | exact rd_ixL (by assumption) | exact rd_ixT (by assumption)
  | exact rd_mod (by walk_at "side") | exact rd_div ⟨by walk_at "side", by walk_at "side"⟩
  | exact rd_mulI (Or.inl ⟨by decide, by decide⟩) | exact rd_mulI (Or.inr ⟨by decide, by decide⟩) | exact rd_mulI (Or.inl ⟨by omega, by omega⟩)
  | exact rd_pow ⟨by decide, by decide, by decide⟩
  | exact rd_addS (by walk_at "side"))
local macro_rules | `(tactic| walk_at "ad") => `(tactic| first
  | exact ad_lenD (by assumption) | exact ad_lenM | exact ad_lenL | exact ad_lenT | exact ad_lenS (by walk_at "side") | exact ad_int | exact ad_intB | exact ad_tupleL | assumption)
local macro_rules | `(tactic| walk_at "ev") => `(tactic| first
  | exact ec_int | exact ec_str | exact ec_bl | exact ec_non
  | exact ec_var rfl | exact ec_varL rfl | exact es_var rfl | exact el_var rfl
  | assumption
  | exact ea_nil | (apply ea_cons; walk_at "ev"; walk_at "ev")
  | (apply ec_op; walk_at "ev"; walk_at "ev"; walk_at "rd")
  | (apply ec_un; walk_at "ev"; exact ud_neg)
  | (apply ec_cb; walk_at "ev"; walk_at "ad")
  | (apply ec_chain; walk_at "ev"; walk_at "ev"; walk_at "rd"; walk_at "ev"; walk_at "rd")
  | exact ecl_of (el_of (by assumption)) | exact el_of (by assumption)
  | (apply ec_call; walk_at "ev"; walk_at "call")
  | (apply ec_tup; walk_at "ev"; (simp; done))
  | (apply et_test; walk_at "ev") | (apply et_B; walk_at "ev") | (apply et_not; walk_at "ev")
  | (apply et_and; walk_at "ev"; (intro _; walk_at "ev")) | (apply et_or; walk_at "ev"; (intro _; walk_at "ev"))
  | (apply ec_and; walk_at "ev"; (intro _; walk_at "ev")) | (apply ec_or; walk_at "ev"; (intro _; walk_at "ev")) | (apply ec_not; walk_at "ev")
  | exact eo_none | (apply eo_some; walk_at "ev"))
local macro_rules | `(tactic| walk_at "call") => `(tactic| first
  | assumption | exact r_is_name (by walk_at "side") | exact r_is_path (by walk_at "side")
  | exact ⟨rfl, rfl⟩ | exact ⟨_, rfl, rfl⟩ | exact ⟨_, _, rfl, rfl⟩ | exact ⟨_, _, (by assumption), rfl, rfl⟩)
section
variable {K : PySem.W.Frag} {mg : Str → Option Value}
def encO : Option Exp → PyData
  | some e => enc e
  | none => .none
structure ShE (e : Exp) : Prop where
  lay : (enc e).canLay0 = true
  dep : (enc e).depth ≤ 62
def ItOk : Item → Prop
  | .w s => s.length ≤ 90000 ∧ PyData.strOk s = true
  | .t e => ShE e
def R_atom : RR := fun ds r => ∃ i : Item, ItOk i ∧ ds = [encI i] ∧ r = .d (encO (atom i))
def R_grouped : RR := fun ds r => ∃ g : List Item, (∀ i ∈ g, ItOk i) ∧ g.length ≤ 90000 ∧ ds = [.list (g.map encI)] ∧ r = .d (encO (grouped g))
theorem ty_enc (e : Exp) : tyD (enc e) = "tuple" := by cases e <;> rfl
theorem isi_t {e : Exp} (h : EvC K fs te (enc e)) : EvC K fs (tCB (rIsi K) (tCons te (tCons (tC (.ty "tuple")) tNil))) (.bool true) := ec_isi h (by rw [ty_enc]; rfl)
theorem isi_w {s : Str} (h : EvC K fs te (.str s)) : EvC K fs (tCB (rIsi K) (tCons te (tCons (tC (.ty "tuple")) tNil))) (.bool false) := ec_isi h rfl
theorem p_law_atom : ∀ ds r, R_atom ds r → StF K (t__law_atom K (spF K R_integer_word) (spF K R_is_path)) (startF 1 ds) (Po0 r) := by
  rintro ds r ⟨i, hi, rfl, rfl⟩
  cases i with
  | t e => exact sq_retT (et_B (isi_t (ec_var rfl))) (sf_ret (es_of (d := enc e) (ec_var rfl) (imm_enc e)) rfl)
  | w s =>
    have hl : s.length ≤ 95000 := by have := hi.1; omega
    have hr := rest_le s
    refine sq_retF (et_B (isi_w (ec_var rfl))) (sq_ret (b := isAt s) (et_test (ec_op (cut1_le s (ec_var rfl) hl) ec_str rd_eqS)) (fun e => ?_) fun e => ?_)
    · refine sf_ret (es_of (d := encO (atomW s)) (ec_if (b := pathOk (rest s)) (et_B (ec_call (R := R_is_path) (ea_cons (cutR_le s (ec_var rfl) hl) ea_nil) (r_is_path (by have := hi.1; omega)))) (fun e2 => ?_) fun e2 => ?_) ?_) rfl
      · unfold atomW
        rw [if_pos e, if_pos e2]
        exact ec_tup (as := [.str "path", .str (rest s)]) (ea_cons ec_str (ea_cons (cutR_le s (ec_var rfl) hl) ea_nil)) (by simp)
      · unfold atomW
        rw [if_pos e, if_neg (by rw [e2]; exact Bool.false_ne_true)]
        exact ec_non
      · cases atomW s with
        | none => rfl
        | some e => exact imm_enc e
    · refine sf_ret (es_of (d := encO (atomW s)) (ec_if (b := intWord s) (et_B (ec_call (R := R_integer_word) (ea_cons (ec_var rfl) ea_nil) ⟨s, hl, rfl, rfl⟩)) (fun e2 => ?_) fun e2 => ?_) ?_) rfl
      · obtain ⟨hv, hlen, _⟩ := intW e2
        unfold atomW
        rw [if_neg (by rw [e]; exact Bool.false_ne_true), if_pos e2]
        exact ec_tup (as := [.str "number", .int (intOf s)]) (ea_cons ec_str (ea_cons (ec_cb (ea_cons (ec_var rfl) ea_nil) (ad_intS hv (by omega))) ea_nil)) (by simp)
      · unfold atomW
        rw [if_neg (by rw [e]; exact Bool.false_ne_true), if_neg (by rw [e2]; exact Bool.false_ne_true)]
        exact ec_non
      · cases atomW s with
        | none => rfl
        | some e => exact imm_enc e
theorem strOk_rest {s : Str} (h : PyData.strOk s = true) : PyData.strOk (rest s) = true := ok_cut h _ _
theorem atom_sh {i : Item} (h : ItOk i) {e : Exp} (ha : atom i = some e) : ShE e := by
  cases i with
  | t x =>
    cases ha
    exact h
  | w s =>
    have ha' : atomW s = some e := ha
    unfold atomW at ha'
    split at ha'
    · split at ha'
      · cases ha'
        exact ⟨by show (PyData.strOk "path" && (PyData.strOk (rest s) && true)) = true; rw [strOk_rest h.2, show PyData.strOk "path" = true by decide +kernel]; rfl, by show max 0 (max 0 0) + 1 ≤ 62; decide⟩
      · cases ha'
    · split at ha'
      · cases ha'
        exact ⟨by show (PyData.strOk "number" && (true && true)) = true; decide +kernel, by show max 0 (max 0 0) + 1 ≤ 62; decide⟩
      · cases ha'
theorem atoms_none {its : List Item} : (its.map fun i => encO (atom i)).any (fun z => PyData.eqv z .none) = (atoms its).isNone := by
  induction its with
  | nil => rfl
  | cons i r ih =>
    rw [List.map_cons, List.any_cons, ih]
    cases ha : atom i with
    | none => cases hb : atoms r <;> simp [atoms, ha, hb, encO, PyData.eqv]
    | some e =>
      have he : PyData.eqv (encO (some e)) .none = false := by cases e <;> rfl
      rw [he]
      cases hb : atoms r <;> simp [atoms, ha, hb]
theorem atoms_map : ∀ {its : List Item} {ps : List Exp}, atoms its = some ps → (its.map fun i => encO (atom i)) = ps.map enc
  | [], ps, h => by
    cases h
    rfl
  | i :: r, ps, h => by
    obtain ⟨e, es, h1, h2, rfl⟩ := atoms_inv h
    rw [List.map_cons, List.map_cons, h1, atoms_map h2]
    rfl
theorem sh_list {ds : List PyData} (h : ∀ d ∈ ds, d.canLay0 = true ∧ d.depth ≤ 62) : SeqAt.shaped (.list ds) = true := by
  have h1 : PyData.canLayAll0 ds = true ∧ PyData.depthAll ds ≤ 62 := by
    induction ds with
    | nil => exact ⟨rfl, Nat.zero_le _⟩
    | cons d r ih =>
      obtain ⟨i1, i2⟩ := ih fun x hx => h x (List.mem_cons_of_mem _ hx)
      obtain ⟨d1, d2⟩ := h d (List.mem_cons_self ..)
      refine ⟨?_, ?_⟩
      · show (d.canLay0 && PyData.canLayAll0 r) = true
        rw [d1, i1]
        rfl
      · show max d.depth (PyData.depthAll r) ≤ 62
        omega
  unfold SeqAt.shaped
  rw [show (PyData.list ds).canLay0 = true from h1.1, decide_eq_true (show (PyData.list ds).depth ≤ 64 from by show PyData.depthAll ds + 1 ≤ 64; omega)]
  rfl
theorem rd_inD {d : PyData} {ds : List PyData} (h1 : SeqAt.shaped d = true) (h2 : SeqAt.shaped (.list ds) = true) : RD K (rInD K) d (.list ds) (.bool (ds.any fun z => PyData.eqv z d)) := fun x y H hx hy Q q =>
  ⟨d, ds, hx, hy, h1, h2, q _ H (Evl.Ex.refl H) (.bl _)⟩
theorem imm_encI (i : Item) : imm (encI i) = true := by
  cases i with
  | w s => rfl
  | t e => exact imm_enc e
theorem imm_encO (o : Option Exp) : imm (encO o) = true := by
  cases o with
  | none => rfl
  | some e => exact imm_enc e
theorem offs_num : ∀ {its : List Item} {ps : List Exp}, atoms its = some ps → its.any badOff = false → ps.map enc = (ps.map numOfE).map fun n => PyData.tuple [.str "number", .int n]
  | [], ps, h, _ => by
    cases h
    rfl
  | i :: r, ps, h, hb => by
    obtain ⟨e, es, h1, h2, rfl⟩ := atoms_inv h
    rw [List.any_cons, Bool.or_eq_false_iff] at hb
    have ih := offs_num h2 hb.2
    rw [List.map_cons, List.map_cons, List.map_cons, ih]
    cases i with
    | t _ => cases hb.1
    | w s =>
      have h1' : atomW s = some e := h1
      unfold atomW at h1'
      rw [if_neg (by rw [show isAt s = false from hb.1]; exact Bool.false_ne_true)] at h1'
      split at h1'
      · cases h1'
        rfl
      · cases h1'
theorem cut_drop {α : Type} (ds : List α) (n : Nat) : T9.cutD ds (some (n : Int)) none = ds.drop n := by
  unfold T9.cutD
  have h1 : HT.sIx ds.length 0 (some (n : Int)) = min n ds.length := by
    unfold HT.sIx
    simp
    try omega
  have h2 : HT.sIx ds.length ds.length none = ds.length := rfl
  rw [h1, h2]
  by_cases h : n ≤ ds.length
  · rw [Nat.min_eq_left h]
    exact List.take_of_length_le (by rw [List.length_drop]; exact Nat.le_refl _)
  · rw [Nat.min_eq_right (by omega), List.drop_eq_nil_of_le (by omega), List.drop_eq_nil_of_le (by omega)]
    exact List.take_nil
theorem en_drop {ds : List PyData} {n : Nat} {i : Nat} (h : EvC K fs (tVar i) (.list ds)) (hi : immAll ds = true) : EvN K fs (tSl (rSlU K) (tVar i) (tPart (tC (.int (n : Int)))) tNoPart) (.lst (ds.drop n)) := by
  have z := en_slL h (eo_some (i := (n : Int)) ec_int) eo_none hi
  rwa [cut_drop] at z
theorem imm_drop {ds : List PyData} (n : Nat) (hi : immAll ds = true) : immAll (ds.drop n) = true := immAll_iff.mpr fun d hd => immAll_iff.mp hi d (List.mem_of_mem_drop hd)
theorem p_law_grouped : ∀ ds r, R_grouped ds r → StF K (t__law_grouped K (spF K R_atom)) (startF 4 ds) (Po0 r) := by
  rintro ds r ⟨g, hg, hl, rfl, rfl⟩
  have hlen : EvC K [some (.im (.list (g.map encI))), none, none, none] (tCB (rLen K) (tCons (tVar 0) tNil)) (.int (g.length : Int)) := ec_cb (ea_cons (ec_var rfl) ea_nil) ad_lenM
  cases g with
  | nil => exact sq_retT (et_eq (et_or (a := true) (b := true) (et_eq (et_test (ec_op hlen ec_int rd_eqI)) (by decide)) fun e => nomatch e) rfl) (sf_ret (es_of (d := .none) ec_non rfl) rfl)
  | cons i0 its =>
    have hne : decide ((((i0 :: its).length : Nat) : Int) = 0) = false := decide_eq_false (by rw [List.length_cons]; omega)
    have ix0 : ∀ fs : Fm, fs[0]? = some (some (.im (.list ((i0 :: its).map encI)))) → EvC K fs (tOp (rIx K) (tVar 0) (tC (.int 0))) (encI i0) := fun fs h0 => by
      refine ec_op (ec_var h0) ec_int (rd_ixL ?_)
      unfold atI ixN
      rw [if_pos (by decide), if_pos (by first | (simp; done) | (simp; omega))]
      rfl
    cases i0 with
    | t e => exact sq_retT (et_eq (et_or (a := false) (b := true) (et_eq (et_test (ec_op hlen ec_int rd_eqI)) hne) fun _ => et_B (isi_t (ix0 _ rfl))) rfl) (sf_ret (es_of (d := .none) ec_non rfl) rfl)
    | w k =>
      have hk : ∀ fs : Fm, fs[0]? = some (some (.im (.list ((.w k :: its).map encI)))) → EvC K fs (tOp (rIx K) (tVar 0) (tC (.int 0))) (.str k) := ix0
      have hits : ∀ i ∈ its, ItOk i := fun i hi => hg i (List.mem_cons_of_mem _ hi)
      have hil : its.length < 100000 := by rw [List.length_cons] at hl; omega
      have immg : immAll ((Item.w k :: its).map encI) = true := immAll_map imm_encI _
      refine sq_retF (et_eq (et_or (a := false) (b := false) (et_eq (et_test (ec_op hlen ec_int rd_eqI)) hne) fun _ => et_B (isi_w (hk _ rfl))) rfl) ?_
      refine sq_asgN (o := .lst (its.map fun i => encO (atom i))) (en_lcM (f := encI) (xs := its) (fun i => encO (atom i)) (ew_of (ei_N (en_drop (n := 1) (ds := (Item.w k :: its).map encI) (ec_var rfl) immg) (imm_drop 1 immg))) hil fun i hi => ⟨_, putc_name (by decide) (lt_rfl rfl) (imm_encI i), ec_call (R := R_atom) (ea_cons (ec_var rfl) ea_nil) ⟨i, hits i hi, rfl, rfl⟩, imm_encO _⟩) fun a => ?_
      have hsh : SeqAt.shaped (.list (its.map fun i => encO (atom i))) = true := sh_list fun d hd => by
        obtain ⟨i, hi, rfl⟩ := List.mem_map.mp hd
        cases ha : atom i with
        | none => exact ⟨rfl, Nat.zero_le _⟩
        | some e => exact ⟨(atom_sh (hits i hi) ha).lay, (atom_sh (hits i hi) ha).dep⟩
      refine sq_ret (b := (atoms its).isNone) (et_eq (et_test (ec_op ec_non (ec_varL rfl) (rd_inD rfl hsh))) atoms_none) (fun e => sf_ret (es_of (d := .none) ec_non rfl) ?_) fun e => ?_
      · show PyData.none = encO (grouped (.w k :: its))
        rw [show grouped (.w k :: its) = none by
          show (match atoms its with | none => none | some ps => if k = "shift" then mkShift ps its else mkE k ps) = none
          rw [Option.isNone_iff_eq_none.mp e]]
        rfl
      · obtain ⟨ps, hps⟩ : ∃ ps, atoms its = some ps := by
          cases h : atoms its with
          | none => rw [h] at e; cases e
          | some ps => exact ⟨ps, rfl⟩
        have hgr : grouped (.w k :: its) = if k = "shift" then mkShift ps its else mkE k ps := by
          show (match atoms its with | none => none | some ps => _) = _
          rw [hps]
        rw [hgr, atoms_map hps]
        have hpl : ps.length = its.length := by
          have z := congrArg List.length (atoms_map hps)
          rw [List.length_map, List.length_map] at z
          exact z.symm
        have immp : immAll (ps.map enc) = true := immAll_mapM fun x _ => imm_enc x
        refine sq_ret (b := decide (k = "shift")) (et_test (ec_op (hk _ rfl) ec_str rd_eqS)) (fun ek => ?_) fun ek => ?_
        · rw [if_pos (of_decide_eq_true ek)]
          have hfl : EvN K ([some (.im (.list ((Item.w k :: its).map encI))), none, none, none].set 1 (some (.ob a (.lst (ps.map enc))))) (tLc (iList K (tSl (rSlU K) (tVar 0) (tPart (tC (.int 2))) tNoPart)) (gName 2) (tOr (tB (tCB (rIsi K) (tCons (tVar 2) (tCons (tC (.ty "tuple")) tNil)))) (tTest (tOp (rEqU K) (tSl (rSlU K) (tVar 2) tNoPart (tPart (tC (.int 1)))) (tC (.str "@"))))) (tVar 2) [2]) (.lst (((its.drop 1).filter badOff).map encI)) := by
            refine en_lcT (f := encI) (xs := its.drop 1) badOff encI (ew_eq (ew_of (ei_N (en_drop (n := 2) (ds := (Item.w k :: its).map encI) (ec_var rfl) immg) (imm_drop 2 immg))) (by rw [List.map_drop, List.map_cons]; rfl)) (by rw [List.length_drop]; omega) fun i hi => ⟨_, putc_name (by decide) (lt_rfl rfl) (imm_encI i), ?_, fun _ => ⟨ec_var rfl, imm_encI i⟩⟩
            cases i with
            | t e => exact et_eq (et_or (a := true) (b := true) (et_B (isi_t (ec_var rfl))) fun e => nomatch e) rfl
            | w s =>
              have hs := hits _ (List.mem_of_mem_drop hi)
              exact et_eq (et_or (a := false) (et_B (isi_w (ec_var rfl))) fun _ => et_test (ec_op (cut1_le s (ec_var rfl) (by have := hs.1; omega)) ec_str rd_eqS)) rfl
          have hbz : decide ((0 : Int) < ((((its.drop 1).filter badOff).length : Nat) : Int)) = (its.drop 1).any badOff := by
            rw [Bool.eq_iff_iff, decide_eq_true_eq, List.any_eq_true]
            constructor
            · intro h
              have h0 : 0 < ((its.drop 1).filter badOff).length := by omega
              obtain ⟨x, hx⟩ := List.exists_mem_of_length_pos h0
              exact ⟨x, (List.mem_filter.mp hx).1, (List.mem_filter.mp hx).2⟩
            · rintro ⟨x, hx, hb⟩
              have := List.length_pos_of_mem (List.mem_filter.mpr ⟨hx, hb⟩)
              omega
          refine sq_ret (et_or (et_test (ec_op (ec_cb (ea_cons (ec_varL rfl) ea_nil) ad_lenM) ec_int rd_ltI)) fun _ => et_test (ec_op (ec_cb (ea_cons (ecl_of (el_of hfl)) ea_nil) ad_lenM) ec_int rd_gtI)) (fun eb => sf_ret (es_of (d := .none) ec_non rfl) ?_) fun eb => ?_
          · show PyData.none = encO (mkShift ps its)
            rw [hbz, Bool.or_eq_true, decide_eq_true_eq] at eb
            cases ps with
            | nil => rfl
            | cons p r =>
              have hb : (its.drop 1).any badOff = true := eb.resolve_left (by rw [List.length_cons]; omega)
              unfold mkShift
              dsimp only
              rw [if_pos hb]
              rfl
          · rw [hbz, Bool.or_eq_false_iff, decide_eq_false_iff_not] at eb
            cases ps with
            | nil => exact absurd (show (([] : List Exp).length : Int) < 1 by decide) eb.1
            | cons p r =>
              cases its with
              | nil => cases hpl
              | cons j its2 =>
                obtain ⟨e1, es, h1, h2, he⟩ := atoms_inv hps
                cases he
                have hn := offs_num h2 eb.2
                have hmk : mkShift (p :: r) (j :: its2) = some (.shift p (r.map numOfE)) := by
                  unfold mkShift
                  dsimp only
                  rw [if_neg (by rw [eb.2]; exact Bool.false_ne_true)]
                rw [hmk]
                refine sf_ret (es_of (d := .tuple [.str "shift", enc p, .tuple ((r.map numOfE).map .int)]) (ec_tup (ea_cons ec_str (ea_cons (ec_op (ec_varL rfl) ec_int (rd_ixL ?_)) (ea_cons ?_ ea_nil))) (by simp)) (imm_enc (.shift p _))) rfl
                · unfold atI ixN
                  rw [if_pos (by decide), if_pos (by first | (simp; done) | (simp; omega))]
                  rfl
                · refine ec_cb (ea_cons (ecl_of (el_of (en_lcM (f := fun n => PyData.tuple [.str "number", .int n]) (xs := r.map numOfE) .int (ew_eq (ew_of (ei_N (en_drop (n := 1) (ds := (p :: r).map enc) (ec_varL rfl) immp) (imm_drop 1 immp))) (by rw [List.map_cons]; exact hn)) ?_ fun n _ => ⟨_, putc_name (by decide) (lt_rfl rfl) rfl, ec_op (ec_var rfl) ec_int (rd_ixT rfl), rfl⟩))) ea_nil) ad_tupleL
                  rw [List.length_map]
                  rw [List.length_cons] at hpl
                  omega
        · rw [if_neg (of_decide_eq_false ek)]
          have hlp : EvC K ([some (.im (.list ((Item.w k :: its).map encI))), none, none, none].set 1 (some (.ob a (.lst (ps.map enc))))) (tCB (rLen K) (tCons (tVar 1) tNil)) (.int (ps.length : Int)) := ec_cb (ea_cons (ec_varL rfl) ea_nil) ad_lenM
          have htt : EvC K ([some (.im (.list ((Item.w k :: its).map encI))), none, none, none].set 1 (some (.ob a (.lst (ps.map enc))))) (tTup (tCons (tC (.str "add")) (tCons (tC (.str "sub")) (tCons (tC (.str "mul")) (tCons (tC (.str "min")) (tCons (tC (.str "max")) (tCons (tC (.str "less")) tNil))))))) (.tuple (pairs.map .str)) := ec_tup (as := [.str "add", .str "sub", .str "mul", .str "min", .str "max", .str "less"]) (ea_cons ec_str (ea_cons ec_str (ea_cons ec_str (ea_cons ec_str (ea_cons ec_str (ea_cons ec_str ea_nil)))))) (by simp)
          refine sq_ret (b := (decide (k ∈ pairs) && decide ((ps.length : Int) = 2)) || (decide (k = "pick") && decide ((ps.length : Int) = 3))) (et_or (et_and (et_test (ec_op (hk _ rfl) htt rd_inT)) fun _ => et_test (ec_op hlp ec_int rd_eqI)) fun _ => et_and (et_test (ec_op (hk _ rfl) ec_str rd_eqS)) fun _ => et_test (ec_op hlp ec_int rd_eqI)) (fun eb => ?_) fun eb => sf_ret (es_of (d := .none) ec_non rfl) ?_
          · have key : ∃ e, mkE k ps = some e ∧ enc e = .tuple (.str k :: ps.map enc) := by
              rw [Bool.or_eq_true, Bool.and_eq_true, Bool.and_eq_true, decide_eq_true_eq, decide_eq_true_eq, decide_eq_true_eq, decide_eq_true_eq] at eb
              rcases eb with ⟨k1, k2⟩ | ⟨k1, k2⟩
              · match ps, k2 with
                | [x, y], _ => exact ⟨.two k x y, by unfold mkE; dsimp only; rw [if_pos k1], rfl⟩
                | [], h => cases h
                | [_], h => exact absurd h (by simp)
                | _ :: _ :: _ :: _, h => exact absurd h (by rw [List.length_cons, List.length_cons, List.length_cons]; omega)
              · match ps, k2 with
                | [x, y, z], _ => exact ⟨.three k x y z, by unfold mkE; dsimp only; rw [if_pos k1], rfl⟩
                | [], h => cases h
                | [_], h => exact absurd h (by simp)
                | [_, _], h => exact absurd h (by simp)
                | _ :: _ :: _ :: _ :: _, h => exact absurd h (by rw [List.length_cons, List.length_cons, List.length_cons, List.length_cons]; omega)
            obtain ⟨e, he, hee⟩ := key
            rw [he]
            refine sf_ret (es_of (d := enc e) (ec_eq (ec_op (ec_tup (as := [.str k]) (ea_cons (hk _ rfl) ea_nil) (by simp)) (ec_cb (ea_cons (ec_varL rfl) ea_nil) ad_tupleL) (rd_addT ?_)) ?_) (imm_enc e)) rfl
            · rw [List.length_map]
              rw [hpl]
              simp
              omega
            · rw [hee]
              rfl
          · show PyData.none = encO (mkE k ps)
            rw [Bool.or_eq_false_iff, Bool.and_eq_false_iff, Bool.and_eq_false_iff, decide_eq_false_iff_not, decide_eq_false_iff_not, decide_eq_false_iff_not, decide_eq_false_iff_not] at eb
            rw [show mkE k ps = none by
              unfold mkE
              split
              · exact if_neg (eb.1.resolve_right fun h => h rfl)
              · exact if_neg (eb.2.resolve_right fun h => h rfl)
              · rfl]
            rfl
end
end T95

set_option maxHeartbeats 2000000
namespace T95
open PySem PySem.Spec PyProof.Rows L2 T9
local macro_rules | `(tactic| walk_at "side") => `(tactic| first | assumption | omega | decide | rfl)
local macro_rules | `(tactic| walk_at "rd") => `(tactic| first
  | exact rd_D (by assumption) | exact rd_D0 (by assumption) rfl
  | exact rd_addI | exact rd_subI | exact rd_eqS | exact rd_eqI | exact rd_neS | exact rd_neI | exact rd_ltI | exact rd_leI | exact rd_gtI | exact rd_geI | exact rd_ltS
  | exact rd_inC | exact rd_ninC | exact rd_inT | exact rd_ninT | exact rd_ninTI
  | exact rd_ixT rfl | exact rd_ixL rfl | exact rd_ixL (by assumption) | exact rd_ixT (by assumption)
  | exact rd_mod (by walk_at "side") | exact rd_div ⟨by walk_at "side", by walk_at "side"⟩
  | exact rd_mulI (Or.inl ⟨by decide, by decide⟩) | exact rd_mulI (Or.inr ⟨by decide, by decide⟩) | exact rd_mulI (Or.inl ⟨by omega, by omega⟩)
  | exact rd_pow ⟨by decide, by decide, by decide⟩
  | exact rd_addS (by walk_at "side"))
local macro_rules | `(tactic| walk_at "ad") => `(tactic| first
  | exact ad_lenD (by assumption) | exact ad_lenM | exact ad_lenL | exact ad_lenT | exact ad_lenS (by walk_at "side") | exact ad_int | exact ad_intB | exact ad_tupleL | assumption)
local macro_rules | `(tactic| walk_at "ev") => `(tactic| first
  | exact ec_int | exact ec_str | exact ec_bl | exact ec_non
  | exact ec_var rfl | exact ec_varL rfl | exact es_var rfl | exact el_var rfl
  | assumption
  | exact ea_nil | (apply ea_cons; walk_at "ev"; walk_at "ev")
  | (apply ec_op; walk_at "ev"; walk_at "ev"; walk_at "rd")
  | (apply ec_un; walk_at "ev"; exact ud_neg)
  | (apply ec_cb; walk_at "ev"; walk_at "ad")
  | (apply ec_chain; walk_at "ev"; walk_at "ev"; walk_at "rd"; walk_at "ev"; walk_at "rd")
  | exact ecl_of (el_of (by assumption)) | exact el_of (by assumption)
  | (apply ec_call; walk_at "ev"; walk_at "call")
  | (apply ec_tup; walk_at "ev"; (simp; done))
  | (apply et_test; walk_at "ev") | (apply et_B; walk_at "ev") | (apply et_not; walk_at "ev")
  | (apply et_and; walk_at "ev"; (intro _; walk_at "ev")) | (apply et_or; walk_at "ev"; (intro _; walk_at "ev"))
  | (apply ec_and; walk_at "ev"; (intro _; walk_at "ev")) | (apply ec_or; walk_at "ev"; (intro _; walk_at "ev")) | (apply ec_not; walk_at "ev")
  | exact eo_none | (apply eo_some; walk_at "ev"))
local macro_rules | `(tactic| walk_at "call") => `(tactic| first
  | assumption | exact r_is_name (by walk_at "side") | exact r_is_path (by walk_at "side")
  | exact ⟨rfl, rfl⟩ | exact ⟨_, rfl, rfl⟩ | exact ⟨_, _, rfl, rfl⟩ | exact ⟨_, _, (by assumption), rfl, rfl⟩)
section
variable {K : PySem.W.Frag} {mg : Str → Option Value}
structure TsOk (ts : List Str) : Prop where
  w : ∀ t ∈ ts, t.length ≤ 90000 ∧ PyData.strOk t = true
  len : ts.length ≤ 80000
  cnt : ts.count ("(" : Str) ≤ 58
def R_parsed : RR := fun ds r => ∃ ts : List Str, TsOk ts ∧ ds = [txts ts] ∧ r = .d (encO (due0 ts))
theorem prun_app : ∀ {us vs : List Str} {rs : List Item}, prun rs (us ++ vs) = match prun rs us with
    | none => none
    | some r => prun r vs
  | [], _, _ => rfl
  | u :: us, vs, rs => by
    show (match pstep rs u with | none => none | some r => prun r (us ++ vs)) = (match (match pstep rs u with | none => none | some r => prun r us) with | none => none | some r => prun r vs)
    cases pstep rs u with
    | none => rfl
    | some r => exact prun_app
theorem der_sh {us : List Str} {e : Exp} (h : Der us e) : (∀ w ∈ us, PyData.strOk w = true) → (enc e).canLay0 = true ∧ (enc e).depth ≤ dep e + 1 := by
  induction h with
  | path h =>
    rename_i w
    intro hw
    exact ⟨by show (PyData.strOk "path" && (PyData.strOk (rest w) && true)) = true; rw [strOk_rest (hw w (List.mem_cons_self ..)), show PyData.strOk "path" = true by decide +kernel]; rfl, by show max 0 (max 0 0) + 1 ≤ 1 + 1; decide⟩
  | num h => exact fun _ => ⟨by show (PyData.strOk "number" && (true && true)) = true; decide +kernel, by show max 0 (max 0 0) + 1 ≤ 1 + 1; decide⟩
  | two hk _ _ ia ib =>
    rename_i k ta tb a b _ _
    intro hw
    obtain ⟨a1, a2⟩ := ia fun w h => hw w (by simp [h])
    obtain ⟨b1, b2⟩ := ib fun w h => hw w (by simp [h])
    refine ⟨?_, ?_⟩
    · show (PyData.strOk k && ((enc a).canLay0 && ((enc b).canLay0 && true))) = true
      rw [hw k (by simp), a1, b1]
      rfl
    · show max 0 (max (enc a).depth (max (enc b).depth 0)) + 1 ≤ 1 + max (dep a) (dep b) + 1
      omega
  | three _ _ _ ia ib ic =>
    rename_i ta tb tc a b c _ _ _
    intro hw
    obtain ⟨a1, a2⟩ := ia fun w h => hw w (by simp [h])
    obtain ⟨b1, b2⟩ := ib fun w h => hw w (by simp [h])
    obtain ⟨c1, c2⟩ := ic fun w h => hw w (by simp [h])
    refine ⟨?_, ?_⟩
    · show (PyData.strOk "pick" && ((enc a).canLay0 && ((enc b).canLay0 && ((enc c).canLay0 && true)))) = true
      rw [show PyData.strOk "pick" = true by decide +kernel, a1, b1, c1]
      rfl
    · show max 0 (max (enc a).depth (max (enc b).depth (max (enc c).depth 0))) + 1 ≤ 1 + max (dep a) (max (dep b) (dep c)) + 1
      omega
  | shift _ ho ia =>
    rename_i ta os a _
    intro hw
    obtain ⟨a1, a2⟩ := ia fun w h => hw w (by simp [h])
    have hz : ∀ o : List Int, PyData.canLayAll0 (o.map .int) = true ∧ PyData.depthAll (o.map .int) = 0 := fun o => by
      induction o with
      | nil => exact ⟨rfl, rfl⟩
      | cons x r ih => exact ⟨by show (true && PyData.canLayAll0 (r.map .int)) = true; rw [ih.1]; rfl, by show max 0 (PyData.depthAll (r.map .int)) = 0; rw [ih.2]; rfl⟩
    obtain ⟨z1, z2⟩ := hz (os.map intOf)
    refine ⟨?_, ?_⟩
    · show (PyData.strOk "shift" && ((enc a).canLay0 && (PyData.canLayAll0 ((os.map intOf).map .int) && true))) = true
      rw [show PyData.strOk "shift" = true by decide +kernel, a1, z1]
      rfl
    · show max 0 (max (enc a).depth (max (PyData.depthAll ((os.map intOf).map .int) + 1) 0)) + 1 ≤ 1 + dep a + 1
      rw [z2]
      omega
theorem yl_ok {i : Item} {us : List Str} (h : Yl i us) (hw : ∀ w ∈ us, w.length ≤ 90000 ∧ PyData.strOk w = true) (hc : us.count ("(" : Str) ≤ 58) : ItOk i := by
  cases h with
  | w _ => exact hw _ (List.mem_cons_self ..)
  | t hd _ =>
    obtain ⟨h1, h2⟩ := der_sh hd fun w h => (hw w h).2
    have := der_dep hd
    exact ⟨h1, by omega⟩
theorem ys_ok {rs : List Item} {us : List Str} (h : Ys rs us) : (∀ w ∈ us, w.length ≤ 90000 ∧ PyData.strOk w = true) → us.count ("(" : Str) ≤ 58 → ∀ i ∈ rs, ItOk i := by
  induction h with
  | nil => exact fun _ _ i hi => absurd hi List.not_mem_nil
  | cons h1 h2 ih =>
    intro hw hc i hi
    rw [List.count_append] at hc
    rcases List.mem_cons.mp hi with e | e
    · rw [e]
      exact yl_ok h2 (fun w h => hw w (List.mem_append_right _ h)) (by omega)
    · exact ih (fun w h => hw w (List.mem_append_left _ h)) (by omega) i e
theorem ys_len {rs : List Item} {us : List Str} (h : Ys rs us) : rs.length ≤ us.length := by
  induction h with
  | nil => exact Nat.le_refl _
  | cons h1 h2 ih =>
    have : 1 ≤ (by assumption : List Str).length := by
      cases h2 with
      | w _ => exact Nat.le_refl _
      | t hd _ =>
        cases hd <;> simp
    rw [List.length_cons, List.length_append]
    omega
theorem popG_len : ∀ {rs g : List Item}, (popG rs g).1.length + (popG rs g).2.length = rs.length + g.length
  | [], g => rfl
  | i :: r, g => by
    unfold popG
    split
    · rfl
    · rw [popG_len, List.length_cons, List.length_cons]
      omega
theorem popG_mem : ∀ {rs g : List Item} {i : Item}, i ∈ (popG rs g).2 → i ∈ rs ∨ i ∈ g
  | [], g, i, h => Or.inr h
  | j :: r, g, i, h => by
    unfold popG at h
    split at h
    · exact Or.inr h
    · rcases popG_mem h with h | h
      · exact Or.inl (List.mem_cons_of_mem _ h)
      · rcases List.mem_cons.mp h with e | e
        · rw [e]
          exact Or.inl (List.mem_cons_self ..)
        · exact Or.inr e
theorem sh_item {i : Item} (h : ItOk i) : SeqAt.shaped (encI i) = true := by
  cases i with
  | w s =>
    show (PyData.strOk s && decide (0 ≤ 64)) = true
    rw [h.2]
    rfl
  | t e =>
    show ((enc e).canLay0 && decide ((enc e).depth ≤ 64)) = true
    rw [h.lay, decide_eq_true (Nat.le_trans h.dep (by decide))]
    rfl
theorem ne_open {fs : Fm} {te : TE} {i : Item} (h : ItOk i) (he : EvC K fs te (encI i)) : EvC K fs (tOp (rNeU K) te (tC (.str "("))) (.bool (!isOpen i)) := by
  cases i with
  | w s => exact ec_op he ec_str rd_neS
  | t e =>
    refine ec_eq (ec_op he ec_str (rd_neD (sh_item h) (by decide +kernel))) ?_
    cases e <;> rfl
theorem eq_open {fs : Fm} {te : TE} {i : Item} (h : ItOk i) (he : EvC K fs te (encI i)) : EvC K fs (tOp (rEqU K) te (tC (.str "("))) (.bool (isOpen i)) := by
  cases i with
  | w s => exact ec_op he ec_str rd_eqS
  | t e =>
    refine ec_eq (ec_op he ec_str (rd_eqD (sh_item h) (by decide +kernel))) ?_
    cases e <;> rfl
theorem last_ix {xs : List PyData} {x : PyData} : atI (xs ++ [x]) (-1) = some x := by
  unfold atI ixN
  rw [if_neg (by decide), List.length_append, List.length_singleton]
  rw [if_pos (by omega)]
  show (xs ++ [x])[_]? = _
  rw [show (-1 + ((xs.length + 1 : Nat) : Int)).toNat = xs.length by omega, List.getElem?_append_right (Nat.le_refl _), Nat.sub_self]
  rfl
abbrev stk (rs : List Item) : List PyData := rs.reverse.map encI
theorem stk_cons (i : Item) (rs : List Item) : stk (i :: rs) = stk rs ++ [encI i] := by
  unfold stk
  rw [List.reverse_cons, List.map_append]
  rfl
theorem imm_stk (rs : List Item) : immAll (stk rs) = true := immAll_map imm_encI _
def dueI : List Item → Option Exp
  | [i] => if isOpen i = true then none else atom i
  | _ => none
theorem due0_of {ts : List Str} {rs : List Item} (h : prun [] ts = some rs) : due0 ts = dueI rs := by
  unfold due0
  rw [h]
  rcases rs with _ | ⟨i, _ | ⟨j, r⟩⟩ <;> rfl
theorem p_law_parsed : ∀ ds r, R_parsed ds r → StF K (t__law_parsed K (spF K R_atom) (spF K R_grouped)) (startF 5 ds) (Po0 r) := by
  rintro ds r ⟨ts, hT, rfl, rfl⟩
  refine sq_asgN (o := .lst []) (en_lstD ea_nil (by decide) rfl) fun a => ?_
  have inv : ∀ {i : Nat} {rs : List Item}, prun [] (ts.take i) = some rs → (∀ x ∈ rs, ItOk x) ∧ rs.length ≤ 80000 := fun {i rs} h => by
    have z := prun_ys .nil h
    rw [List.nil_append] at z
    have hsub : (ts.take i).Sublist ts := List.take_sublist _ _
    exact ⟨ys_ok z (fun w hw => hT.w w (hsub.subset hw)) (Nat.le_trans (hsub.count_le _) hT.cnt), Nat.le_trans (ys_len z) (Nat.le_trans hsub.length_le hT.len)⟩
  have step : ∀ {i : Nat} {t : Str} {rs : List Item}, ts[i]? = some t → prun [] (ts.take i) = some rs → prun [] (ts.take (i + 1)) = pstep rs t := fun {i t rs} ht h => by
    rw [List.take_add_one, ht, show (some t).toList = [t] from rfl, prun_app, h]
    show (match pstep rs t with | none => none | some r => some r) = _
    cases pstep rs t <;> rfl
  have fail : ∀ {i : Nat} {t : Str} {rs : List Item}, ts[i]? = some t → prun [] (ts.take i) = some rs → pstep rs t = none → due0 ts = none := fun {i t rs} ht h hp => by
    have e : prun [] ts = none := by
      conv => lhs; rw [← List.take_append_drop (i + 1) ts]
      rw [prun_app, step ht h, hp]
    unfold due0
    rw [e]
  refine sf_seq (M := fun f => ∃ rs, prun [] ts = some rs ∧ Le f [some (.im (txts ts)), some (.ob a (.lst (stk rs))), none, none, none])
    (sf_for (fun i f => ∃ rs, prun [] (ts.take i) = some rs ∧ Le f [some (.im (txts ts)), some (.ob a (.lst (stk rs))), none, none, none]) (ei_var rfl) ⟨[], rfl, Le.refl _⟩ (fun i d f hd hf => ?_) fun f hf => ?_) fun f hf => ?_
  · rw [List.getElem?_map] at hd
    obtain ⟨t, ht, rfl⟩ := Option.map_eq_some_iff.mp hd
    obtain ⟨rs, hp, hf⟩ := hf
    obtain ⟨hok, hlen⟩ := inv hp
    have htw := hT.w t (List.mem_of_getElem? ht)
    have hsl : (stk rs).length < 100000 := by
      rw [List.length_map, List.length_reverse]
      omega
    have hst := step ht hp
    refine ⟨_, put_le hf (lt_rfl rfl) rfl, sf_le ?_ (hf.set 2 _)⟩
    refine sf_if (b := decide (t = "(")) (et_test (ec_op (ec_var rfl) ec_str rd_eqS)) (fun e => ?_) fun e => ?_
    · have et := of_decide_eq_true e
      refine sf_app (i := 1) (a := a) (ds := stk rs) rfl ec_str rfl hsl ⟨.w "(" :: rs, ?_, ?_⟩
      · rw [hst]
        unfold pstep
        rw [if_pos et]
      · rw [stk_cons]
        exact .cons (.cons (.drop (.cons (.cons .nil))))
    · have et := of_decide_eq_false e
      refine sf_if (b := decide (t = ")")) (et_test (ec_op (ec_var rfl) ec_str rd_eqS)) (fun e2 => ?_) fun e2 => ?_
      · have et2 := of_decide_eq_true e2
        have hps : pstep rs t = match popG rs [] with
            | ([], _) => none
            | (_ :: r, g) => match grouped g with
              | none => none
              | some e => some (.t e :: r) := by
          unfold pstep
          rw [if_neg et, if_pos et2]
          all_goals first | rfl | (generalize popG rs [] = pq; obtain ⟨q, g⟩ := pq; cases q <;> rfl)
        refine sq_asgN (o := .lst []) (en_lstD ea_nil (by decide) rfl) fun b => ?_
        refine sf_seq (M := fun f => ∃ c : Addr, Le f [some (.im (txts ts)), some (.ob a (.lst (stk (popG rs []).1))), some (.im (.str t)), some (.ob c (.lst ((popG rs []).2.map encI))), none])
          (sf_while (fun m f => ∃ (q g : List Item) (c : Addr), m = q.length ∧ popG rs [] = popG q g ∧ (∀ x ∈ q, ItOk x) ∧ q.length + g.length ≤ 80000 ∧ Le f [some (.im (txts ts)), some (.ob a (.lst (stk q))), some (.im (.str t)), some (.ob c (.lst (g.map encI))), none]) rs.length ⟨rs, [], b, rfl, rfl, hok, hlen, .cons (.cons (.cons (.cons (.cons .nil))))⟩ fun m f hw => ?_) fun f hf => ?_
        · obtain ⟨q, g, c, rfl, hpq, hqo, hql, hf⟩ := hw
          cases q with
          | nil =>
            refine ⟨false, et_le hf (et_eq (et_and (a := false) (b := true) (et_eq (et_test (ec_op (ec_cb (ea_cons (ec_varL rfl) ea_nil) ad_lenM) ec_int rd_gtI)) (by decide)) fun e => nomatch e) rfl), fun e => absurd e (by decide), fun _ => ⟨c, ?_⟩⟩
            rw [hpq]
            exact hf
          | cons x q =>
            rw [stk_cons] at hf
            have hlx : EvC K [some (.im (txts ts)), some (.ob a (.lst (stk q ++ [encI x]))), some (.im (.str t)), some (.ob c (.lst (g.map encI))), none] (tCB (rLen K) (tCons (tVar 1) tNil)) (.int ((stk q ++ [encI x]).length : Int)) := ec_cb (ea_cons (ec_varL rfl) ea_nil) ad_lenL
            refine ⟨!isOpen x, et_le hf (et_eq (et_and (a := true) (et_eq (et_test (ec_op hlx ec_int rd_gtI)) (decide_eq_true (by rw [List.length_append, List.length_singleton]; omega))) fun _ => et_test (ne_open (hqo x (List.mem_cons_self ..)) (ec_op (ec_varL rfl) (ec_un ec_int ud_neg) (rd_ixL last_ix)))) rfl), fun ho => ?_, fun ho => ⟨c, ?_⟩⟩
            · have ho' : isOpen x = false := by simpa using ho
              refine sf_le (sf_popcat (i := 1) (j := 3) (a := a) (c := c) (ds := stk q) (d := encI x) (es := g.map encI) rfl rfl (by decide) (imm_encI x) (immAll_map imm_encI g) (by rw [List.length_map, List.length_cons] at *; omega) fun c' => ⟨q.length, Nat.lt_succ_self _, q, x :: g, c', rfl, ?_, fun y hy => hqo y (List.mem_cons_of_mem _ hy), by rw [List.length_cons] at hql ⊢; omega, ?_⟩) hf
              · rw [hpq]
                show (if isOpen x = true then _ else popG q (x :: g)) = _
                rw [if_neg (by rw [ho']; exact Bool.false_ne_true)]
              · exact .cons (.cons (.cons (.cons (.cons .nil))))
            · have ho' : isOpen x = true := by simpa using ho
              have e : popG (x :: q) g = (x :: q, g) := by
                show (if isOpen x = true then _ else _) = _
                rw [if_pos ho']
              rw [hpq, e, stk_cons]
              exact hf
        · obtain ⟨c, hf⟩ := hf
          refine sf_le ?_ hf
          have hgl : (popG rs []).2.length ≤ 80000 := by
            have := popG_len (rs := rs) (g := [])
            rw [List.length_nil] at this
            omega
          have hgo : ∀ x ∈ (popG rs []).2, ItOk x := fun x hx => (popG_mem hx).elim (hok x) fun h => absurd h List.not_mem_nil
          have hql : (popG rs []).1.length ≤ 80000 := by
            have := popG_len (rs := rs) (g := [])
            rw [List.length_nil] at this
            omega
          generalize popG rs [] = pq at hps hgl hgo hql
          obtain ⟨q, g⟩ := pq
          cases q with
          | nil =>
            have hd := fail ht hp hps
            rw [hd]
            exact sq_retT (et_eq (et_test (ec_op (ec_cb (ea_cons (ec_varL rfl) ea_nil) ad_lenL) ec_int rd_eqI)) (decide_eq_true rfl)) (sf_ret (es_of (d := .none) ec_non rfl) rfl)
          | cons x q =>
            rw [stk_cons]
            refine sq_retF (et_eq (et_test (ec_op (ec_cb (ea_cons (ec_varL rfl) ea_nil) ad_lenL) ec_int rd_eqI)) (decide_eq_false (by rw [List.length_append, List.length_singleton]; omega))) ?_
            refine sf_seq1 (sf_pop (i := 1) (a := a) (ds := stk q) (d := encI x) rfl (imm_encI x) rfl) ?_
            refine sq_asg (d := encO (grouped g)) (es_of (ec_call (R := R_grouped) (ea_cons (ec_varL rfl) ea_nil) ⟨g, hgo, Nat.le_trans hgl (by decide), rfl, rfl⟩) (imm_encO _)) ?_
            cases hg : grouped g with
            | none =>
              have hd := fail ht hp (by rw [hps]; show (match grouped g with | none => none | some e => some (Item.t e :: q)) = none; rw [hg])
              rw [hd]
              exact sq_retT (et_eq (et_test (ec_isN (ec_var rfl))) rfl) (sf_ret (es_of (d := .none) ec_non rfl) rfl)
            | some e =>
              refine sq_retF (et_eq (et_test (ec_isN (d := enc e) (ec_var rfl))) (by cases e <;> rfl)) ?_
              refine sf_app (i := 1) (a := a) (ds := stk q) (d := enc e) rfl (ec_var rfl) (imm_enc e) (by rw [List.length_map, List.length_reverse]; rw [List.length_cons] at hql; omega) ⟨.t e :: q, ?_, ?_⟩
              · rw [hst, hps]
                show (match grouped g with | none => none | some e => some (Item.t e :: q)) = _
                rw [hg]
              · rw [stk_cons]
                exact .cons (.cons (.drop (.drop (.drop .nil))))
      · have et2 := of_decide_eq_false e2
        refine sf_app (i := 1) (a := a) (ds := stk rs) (d := .str t) rfl (ec_var rfl) rfl hsl ⟨.w t :: rs, ?_, ?_⟩
        · rw [hst]
          unfold pstep
          rw [if_neg et, if_neg et2]
        · rw [stk_cons]
          exact .cons (.cons (.drop (.cons (.cons .nil))))
  · obtain ⟨rs, hp, hf⟩ := hf
    rw [List.length_map, List.take_length] at hp
    exact ⟨rs, hp, hf⟩
  · obtain ⟨rs, hp, hf⟩ := hf
    refine sf_le ?_ hf
    have hz : prun [] (ts.take ts.length) = some rs := by rw [List.take_length]; exact hp
    obtain ⟨hok, hlen⟩ := inv hz
    have hll : EvC K [some (.im (txts ts)), some (.ob a (.lst (stk rs))), none, none, none] (tCB (rLen K) (tCons (tVar 1) tNil)) (.int (rs.length : Int)) := ec_eq (ec_cb (ea_cons (ec_varL rfl) ea_nil) ad_lenL) (by rw [List.length_map, List.length_reverse])
    have hdue := due0_of hp
    rcases rs with _ | ⟨i, _ | ⟨j, r⟩⟩
    · rw [hdue]
      exact sq_retT (et_eq (et_or (a := true) (b := true) (et_eq (et_test (ec_op hll ec_int rd_neI)) (by decide)) fun e => nomatch e) rfl) (sf_ret (es_of (d := .none) ec_non rfl) rfl)
    · have hi0 : EvC K [some (.im (txts ts)), some (.ob a (.lst (stk [i]))), none, none, none] (tOp (rIx K) (tVar 1) (tC (.int 0))) (encI i) := ec_op (ec_varL rfl) ec_int (rd_ixL rfl)
      refine sq_ret (b := false || isOpen i) (et_or (et_eq (et_test (ec_op hll ec_int rd_neI)) (by rw [decide_eq_true (by rfl)]; rfl)) fun _ => et_test (eq_open (hok i (List.mem_cons_self ..)) hi0)) (fun e => sf_ret (es_of (d := .none) ec_non rfl) ?_) fun e => ?_
      · rw [Bool.false_or] at e
        show PyData.none = encO (due0 ts)
        rw [hdue]
        show PyData.none = encO (if isOpen i = true then none else atom i)
        rw [if_pos e]
        rfl
      · rw [Bool.false_or] at e
        have hd : due0 ts = atom i := by
          rw [hdue]
          show (if isOpen i = true then none else atom i) = _
          rw [if_neg (by rw [e]; exact Bool.false_ne_true)]
        rw [hd]
        exact sf_ret (es_of (d := encO (atom i)) (ec_call (R := R_atom) (ea_cons hi0 ea_nil) ⟨i, hok i (List.mem_cons_self ..), rfl, rfl⟩) (imm_encO _)) rfl
    · rw [hdue]
      exact sq_retT (et_eq (et_or (a := true) (b := true) (et_eq (et_test (ec_op hll ec_int rd_neI)) (by rw [decide_eq_false (by rw [List.length_cons, List.length_cons]; omega)]; rfl)) fun e => nomatch e) rfl) (sf_ret (es_of (d := .none) ec_non rfl) rfl)
end
end T95

set_option maxHeartbeats 2000000
namespace T95
open PySem PySem.Spec PyProof.Rows L2 T9
local macro_rules | `(tactic| walk_at "side") => `(tactic| first | assumption | omega | decide | rfl)
local macro_rules | `(tactic| walk_at "rd") => `(tactic| first
  | exact rd_D (by assumption) | exact rd_D0 (by assumption) rfl
  | exact rd_addI | exact rd_subI | exact rd_eqS | exact rd_eqI | exact rd_neS | exact rd_neI | exact rd_ltI | exact rd_leI | exact rd_gtI | exact rd_geI | exact rd_ltS
  | exact rd_inC | exact rd_ninC | exact rd_inT | exact rd_ninT | exact rd_ninTI
  | exact rd_ixT rfl | exact rd_ixL rfl | exact rd_ixL (by assumption) | exact rd_ixT (by assumption)
  | exact rd_mod (by walk_at "side") | exact rd_div ⟨by walk_at "side", by walk_at "side"⟩
  | exact rd_mulI (Or.inl ⟨by decide, by decide⟩) | exact rd_mulI (Or.inr ⟨by decide, by decide⟩) | exact rd_mulI (Or.inl ⟨by omega, by omega⟩)
  | exact rd_pow ⟨by decide, by decide, by decide⟩
  | exact rd_addS (by walk_at "side"))
local macro_rules | `(tactic| walk_at "ad") => `(tactic| first
  | exact ad_lenD (by assumption) | exact ad_lenM | exact ad_lenL | exact ad_lenT | exact ad_lenS (by walk_at "side") | exact ad_int | exact ad_intB | exact ad_tupleL | assumption)
local macro_rules | `(tactic| walk_at "ev") => `(tactic| first
  | exact ec_int | exact ec_str | exact ec_bl | exact ec_non
  | exact ec_var rfl | exact ec_varL rfl | exact es_var rfl | exact el_var rfl
  | assumption
  | exact ea_nil | (apply ea_cons; walk_at "ev"; walk_at "ev")
  | (apply ec_op; walk_at "ev"; walk_at "ev"; walk_at "rd")
  | (apply ec_un; walk_at "ev"; exact ud_neg)
  | (apply ec_cb; walk_at "ev"; walk_at "ad")
  | (apply ec_chain; walk_at "ev"; walk_at "ev"; walk_at "rd"; walk_at "ev"; walk_at "rd")
  | exact ecl_of (el_of (by assumption)) | exact el_of (by assumption)
  | (apply ec_call; walk_at "ev"; walk_at "call")
  | (apply ec_tup; walk_at "ev"; (simp; done))
  | (apply et_test; walk_at "ev") | (apply et_B; walk_at "ev") | (apply et_not; walk_at "ev")
  | (apply et_and; walk_at "ev"; (intro _; walk_at "ev")) | (apply et_or; walk_at "ev"; (intro _; walk_at "ev"))
  | (apply ec_and; walk_at "ev"; (intro _; walk_at "ev")) | (apply ec_or; walk_at "ev"; (intro _; walk_at "ev")) | (apply ec_not; walk_at "ev")
  | exact eo_none | (apply eo_some; walk_at "ev"))
local macro_rules | `(tactic| walk_at "call") => `(tactic| first
  | assumption | exact r_is_name (by walk_at "side") | exact r_is_path (by walk_at "side")
  | exact ⟨rfl, rfl⟩ | exact ⟨_, rfl, rfl⟩ | exact ⟨_, _, rfl, rfl⟩ | exact ⟨_, _, (by assumption), rfl, rfl⟩)
section
variable {K : PySem.W.Frag} {mg : Str → Option Value}
abbrev CR (K : PySem.W.Frag) : Addr := He.ga K "ExpressionReader"
abbrev CI (K : PySem.W.Frag) : Addr := He.ga K "InvalidExpression"
def rdF (w : Addr) (n : Nat) : List (Str × V) := [("words", .ref w), ("at", .int n)]
def rdr (K : PySem.W.Frag) (dx w : Addr) (n : Nat) : HO := .ins (CR K) dx (rdF w n)
/-- all but the object at a stays -/
def Eb (a : Addr) (H H' : Hp) : Prop := ∀ b o, b ≠ a → H b = some o → H' b = some o
theorem Eb.trans {a : Addr} {H H1 H2 : Hp} (h : Eb a H H1) (g : Eb a H1 H2) : Eb a H H2 := fun b o n e => g b o n (h b o n e)
theorem Eb.ex {a : Addr} {H H1 : Hp} (h : Ex H H1) : Eb a H H1 := fun b o _ e => h b o e
theorem sql_eb {a w dx w' : Addr} {n : Nat} {H H' : Hp} {xs : List V} (h : SqL K H w xs) (ha : H a = some (rdr K dx w' n)) (e : Eb a H H') : SqL K H' w xs := by
  rcases h with h | h
  · refine .inl ?_
    rcases h with h | ⟨o, h⟩
    · exact .inl (e w _ (fun z => by rw [z, ha] at h; cases h) h)
    · exact .inr ⟨o, e w _ (fun z => by rw [z, ha] at h; cases h) h⟩
  · exact .inr h
theorem lk_at (w : Addr) (n : Nat) : (rdF w n).lookup ("at" : Str) = some (.int n) := by
  have e : (("at" : Str) == ("words" : Str)) = false := by decide +kernel
  unfold rdF
  simp [List.lookup, e]
theorem lk_words (w : Addr) (n : Nat) : (rdF w n).lookup ("words" : Str) = some (.ref w) := by unfold rdF; simp [List.lookup]
theorem put_at (w : Addr) (n m : Nat) : putF "at" (.int m) (rdF w n) = rdF w m := by
  have e : ¬ (("words" : Str) = ("at" : Str)) := by decide +kernel
  unfold rdF
  simp [putF, e]
section
variable {a dx w : Addr} {n : Nat} {H : Hp} {σ : L2.St} {Q : VK}
theorem fldA (T : Tx K mg) (h0 : σ[0]? = some (some (.ref a))) (h : H a = some (rdr K dx w n)) (q : Q (.int n) H) : tFld K (tVar 0) "at" σ H Q := ⟨_, h0, a, CR K, dx, rdF w n, _, rfl, h, T.l_ExpressionReader, T.n_ExpressionReader_at, lk_at w n, q⟩
theorem fldW (T : Tx K mg) (h0 : σ[0]? = some (some (.ref a))) (h : H a = some (rdr K dx w n)) (q : Q (.ref w) H) : tFld K (tVar 0) "words" σ H Q := ⟨_, h0, a, CR K, dx, rdF w n, _, rfl, h, T.l_ExpressionReader, T.n_ExpressionReader_words, lk_words w n, q⟩
end
def spStep (K : PySem.W.Frag) : Sp := fun vs H Q _ => ∃ (a dx w : Addr) (ws : List Str) (n : Nat), vs = [V.ref a] ∧ H a = some (rdr K dx w n) ∧ SqL K H w (ws.map V.str) ∧
  ∀ H', Eb a H H' → H' a = some (rdr K dx w (n + 1)) → Q (.str (ws.getD n "")) H'
theorem r_step (T : Tx K mg) (vs : List V) (H : Hp) (Q : VK) (E : XK) (h : spStep K vs H Q E) : t_step K { nx := fun _ H' => Q .non H', rt := Q } (L2.start ["self"] vs) H := by
  obtain ⟨a, dx, w, ws, n, rfl, ha, hw, q⟩ := h
  refine ⟨_, rfl, a, CR K, dx, rdF w n, .int n, rfl, ha, T.l_ExpressionReader, T.n_ExpressionReader_at, lk_at w n, n, 1, rfl, rfl, dx, rdF w n, ha, (by show 2 < 1000; decide), ?_⟩
  rw [show V.int ((n : Int) + 1) = V.int ((n + 1 : Nat) : Int) from rfl, put_at]
  have hb : Eb a H (upd H a (rdr K dx w (n + 1))) := fun b o hb e => by rw [upd_ne hb]; exact e
  have ha1 : (upd H a (rdr K dx w (n + 1))) a = some (rdr K dx w (n + 1)) := upd_same
  have hw1 := sql_eb hw ha hb
  have eH : upd H a (HO.ins (CR K) dx (rdF w (n + 1))) = upd H a (rdr K dx w (n + 1)) := rfl
  rw [eH]
  generalize upd H a (rdr K dx w (n + 1)) = H1 at hb ha1 hw1
  have hd : Dp K H1 (.ref w) (txts ws) := .lst hw1 (dpAll_strs ws)
  refine ⟨_, rfl, a, CR K, dx, rdF w (n + 1), _, rfl, ha1, T.l_ExpressionReader, T.n_ExpressionReader_at, lk_at w (n + 1), ?_⟩
  refine ⟨_, rfl, a, CR K, dx, rdF w (n + 1), _, rfl, ha1, T.l_ExpressionReader, T.n_ExpressionReader_words, lk_words w (n + 1), ?_⟩
  dsimp only [tNil]
  refine (ad_lenM (K := K) (f := PyData.str) (xs := ws)) [V.ref w] H1 (.cons hd .nil) _ fun v H2 e2 hv => ?_
  cases dp_int hv
  have ha2 := e2 a _ ha1
  refine (rd_leI (K := K)) _ _ H2 (.int _) (.int _) _ fun v H3 e3 hv => ?_
  cases dp_bl hv
  have ha3 := e3 a _ ha2
  have hb3 : Eb a H H3 := hb.trans (Eb.ex (e2.trans e3))
  refine ⟨_, rfl, ?_⟩
  by_cases hlt : n < ws.length
  · rw [if_pos (decide_eq_true (by omega))]
    have hd3 : Dp K H3 (.ref w) (txts ws) := dp_ex (e2.trans e3) _ _ hd
    refine ⟨_, rfl, a, CR K, dx, rdF w (n + 1), _, rfl, ha3, T.l_ExpressionReader, T.n_ExpressionReader_words, lk_words w (n + 1), ?_⟩
    refine ⟨_, rfl, a, CR K, dx, rdF w (n + 1), _, rfl, ha3, T.l_ExpressionReader, T.n_ExpressionReader_at, lk_at w (n + 1), ?_⟩
    dsimp only [tC]
    refine (rd_subI (K := K)) _ _ H3 (.int _) (.int 1) _ fun v H4 e4 hv => ?_
    cases dp_int hv
    have z := rd_M (K := K) (f := PyData.str) (xs := ws) (i := ((n + 1 : Nat) : Int) - 1) "" (by omega) (by omega)
    refine z _ _ H4 (dp_ex e4 _ _ hd3) (.int _) _ fun v H5 e5 hv => ?_
    cases dp_str hv
    have e : nth ws (((n + 1 : Nat) : Int) - 1) "" = ws.getD n "" := by
      unfold nth
      rw [show (((n + 1 : Nat) : Int) - 1).toNat = n by omega]
    rw [e]
    exact q H5 (hb3.trans (Eb.ex (e4.trans e5))) (e5 a _ (e4 a _ ha3))
  · rw [if_neg (by rw [decide_eq_false (by omega)]; exact Bool.false_ne_true)]
    have e : ws.getD n "" = "" := by
      rw [List.getD_eq_getElem?_getD, List.getElem?_eq_none (by omega)]
      rfl
    rw [e] at q
    exact q H3 hb3 ha3
/-! ### statements of the reader -/
structure Px where
  nx : Fm → Nat → Prop
  rt : PyData → Nat → Prop
  xs : Prop
/-- the reader's base: its words stand there, itself not -/
structure RB (K : PySem.W.Frag) (B : Hp) (a w : Addr) (ws : List Str) : Prop where
  na : B a = none
  hw : SqL K B w (ws.map V.str)
structure RC where
  B : Hp
  a : Addr
  dx : Addr
  w : Addr
  E : XK
def RC.At (c : RC) (K : PySem.W.Frag) (H : Hp) (σ : L2.St) (fs : Fm) (n : Nat) : Prop := Fr K c.B c.B H σ fs ∧ σ[0]? = some (some (.ref c.a)) ∧ H c.a = some (rdr K c.dx c.w n)
def SX (K : PySem.W.Frag) (c : RC) (ts : TS) (fs : Fm) (n : Nat) (P : Px) : Prop := ∀ (H : Hp) (σ : L2.St) (D : Ends), c.At K H σ fs n →
  (∀ fs' n' σ' H', P.nx fs' n' → c.At K H' σ' fs' n' → D.nx σ' H') → (∀ v H' d n', P.rt d n' → imm d = true → Dp K H' v d → Ex c.B H' → H' c.a = some (rdr K c.dx c.w n') → D.rt v H') →
  (P.xs → ∀ H', Ex c.B H' → c.E (.ref (CI K)) none H') → ts D σ H
def EX (K : PySem.W.Frag) (c : RC) (te : TE) (fs : Fm) (n : Nat) (d : PyData) (n' : Nat) : Prop := ∀ (H : Hp) (σ : L2.St), c.At K H σ fs n → ∀ Q : VK, (∀ v H', c.At K H' σ fs n' → Dp K H' v d → Q v H') → te σ H Q
def EXx (K : PySem.W.Frag) (c : RC) (te : TE) (fs : Fm) (n : Nat) : Prop := ∀ (H : Hp) (σ : L2.St), c.At K H σ fs n → (∀ H', Ex c.B H' → c.E (.ref (CI K)) none H') → ∀ Q : VK, te σ H Q
variable {c : RC} {fs : Fm} {n n' m : Nat} {te ta tb : TE} {tt : TT} {tu tz : TS} {d : PyData} {P : Px}
theorem RC.At.mono {H H' : Hp} {σ : L2.St} (h : c.At K H σ fs n) (e : Ex H H') : c.At K H' σ fs n := ⟨h.1.mono e, h.2.1, e _ _ h.2.2⟩
/-- another state of the reader -/
theorem RC.At.eb {H H' : Hp} {σ : L2.St} (h : c.At K H σ fs n) (na : c.B c.a = none) (e : Eb c.a H H') (ha : H' c.a = some (rdr K c.dx c.w n')) : c.At K H' σ fs n' := by
  obtain ⟨F, h0, h1⟩ := h
  have eB : Ex c.B H' := fun b o hb => e b o (fun z => by rw [z, na] at hb; cases hb) (F.ex b o hb)
  refine ⟨⟨F.exB, eB, F.len, fun i s hs => ?_, F.apart⟩, h0, ha⟩
  obtain ⟨v, v1, v2⟩ := F.at_ i s hs
  refine ⟨v, v1, v2.mono ⟨fun x xs hx => e x _ (fun z => by rw [z, h1] at hx; cases hx) hx, fun x o u hx => e x _ (fun z => by rw [z, h1] at hx; cases hx) hx⟩ eB fun b o hb => ?_⟩
  subst hb
  obtain ⟨u, hu, _⟩ := v2.2.2.some
  have hne : b ≠ c.a := fun z => by
    have hz := v2.2.2
    rw [z] at hz
    cases o with
    | lst ds =>
      obtain ⟨vs, k, _⟩ := hz
      rw [h1] at k
      cases k
    | dk kvs =>
      obtain ⟨vs, k, _⟩ := hz
      rw [h1] at k
      cases k
  rw [hu]
  exact e b u hne hu
theorem ex_of (h : EvC K fs te d) : EX K c te fs n d n := fun H σ h0 Q q => h c.B c.B H σ h0.1 Q fun v H1 e hv => q v H1 (h0.mono e) hv
theorem ex_op {r : R2} {x y z : PyData} (h : EX K c ta fs n x n') (hi : imm x = true) (hb : EvC K fs tb y) (hr : RD K r x y z) : EX K c (tOp r ta tb) fs n z n' := fun H σ h0 Q q =>
  h H σ h0 _ fun v H1 a1 hv => hb c.B c.B H1 σ a1.1 _ fun u H2 e2 hu => hr v u H2 (dp_ex e2 _ _ hv) hu Q fun k H3 e3 hk => q k H3 ((a1.mono e2).mono e3) hk
theorem sx_asg {i : Nat} (h : EX K c te fs n d n') (hi : imm d = true) (hl : i < fs.length) (h0 : i ≠ 0) (k : SX K c tz (fs.set i (some (.im d))) n' P) : SX K c (tSeq (tAsg te (gName i)) tz) fs n P := fun H σ D a0 nx rt xs =>
  h H σ a0 _ fun v H1 a1 hv => k H1 _ D ⟨a1.1.setD (Evl.Ex.refl H1) hl ⟨hv, .inl hi⟩, by rw [List.getElem?_set_ne h0]; exact a1.2.1, a1.2.2⟩ nx rt xs
theorem sx_asgX {i : Nat} (h : EXx K c te fs n) (hx : P.xs) : SX K c (tSeq (tAsg te (gName i)) tz) fs n P := fun H σ D a0 nx rt xs => h H σ a0 (xs hx) _
theorem sx_ret (h : EX K c te fs n d n') (hi : imm d = true) (k : P.rt d n') : SX K c (tRet te) fs n P := fun H σ D a0 nx rt xs => h H σ a0 _ fun v H1 a1 hv => rt v H1 d n' k hi hv a1.1.ex a1.2.2
theorem sx_retX (h : EXx K c te fs n) (hx : P.xs) : SX K c (tRet te) fs n P := fun H σ D a0 nx rt xs => h H σ a0 (xs hx) _
theorem sx_raise (hx : P.xs) : SX K c (tRaiseI (fun cls d _ H => c.E cls d H) (CI K)) fs n P := fun H σ D a0 nx rt xs => xs hx H a0.1.ex
theorem sx_T (h : EvT K fs tt true) (k : SX K c tu fs n { P with nx := fun _ _ => False }) : SX K c (tSeq (tIfS tt tu tNext) tz) fs n P := fun H σ D a0 nx rt xs =>
  h c.B c.B H σ a0.1 _ fun H1 e1 => k H1 σ _ (a0.mono e1) (fun _ _ _ _ z => z.elim) rt xs
theorem sx_F (h : EvT K fs tt false) (k : SX K c tz fs n P) : SX K c (tSeq (tIfS tt tu tNext) tz) fs n P := fun H σ D a0 nx rt xs =>
  h c.B c.B H σ a0.1 _ fun H1 e1 => k H1 σ D (a0.mono e1) nx rt xs
end
end T95

set_option maxHeartbeats 2000000
namespace T95
open PySem PySem.Spec PyProof.Rows L2 T9
local macro_rules | `(tactic| walk_at "side") => `(tactic| first | assumption | omega | decide | rfl)
local macro_rules | `(tactic| walk_at "rd") => `(tactic| first
  | exact rd_D (by assumption) | exact rd_D0 (by assumption) rfl
  | exact rd_addI | exact rd_subI | exact rd_eqS | exact rd_eqI | exact rd_neS | exact rd_neI | exact rd_ltI | exact rd_leI | exact rd_gtI | exact rd_geI | exact rd_ltS
  | exact rd_inC | exact rd_ninC | exact rd_inT | exact rd_ninT | exact rd_ninTI
  | exact rd_ixT rfl | exact rd_ixL rfl | exact rd_ixL (by assumption) | exact rd_ixT (by assumption)
  | exact rd_mod (by walk_at "side") | exact rd_div ⟨by walk_at "side", by walk_at "side"⟩
  | exact rd_mulI (Or.inl ⟨by decide, by decide⟩) | exact rd_mulI (Or.inr ⟨by decide, by decide⟩) | exact rd_mulI (Or.inl ⟨by omega, by omega⟩)
  | exact rd_pow ⟨by decide, by decide, by decide⟩
  | exact rd_addS (by walk_at "side"))
local macro_rules | `(tactic| walk_at "ad") => `(tactic| first
  | exact ad_lenD (by assumption) | exact ad_lenM | exact ad_lenL | exact ad_lenT | exact ad_lenS (by walk_at "side") | exact ad_int | exact ad_intB | exact ad_tupleL | assumption)
local macro_rules | `(tactic| walk_at "ev") => `(tactic| first
  | exact ec_int | exact ec_str | exact ec_bl | exact ec_non
  | exact ec_var rfl | exact ec_varL rfl | exact es_var rfl | exact el_var rfl
  | assumption
  | exact ea_nil | (apply ea_cons; walk_at "ev"; walk_at "ev")
  | (apply ec_op; walk_at "ev"; walk_at "ev"; walk_at "rd")
  | (apply ec_un; walk_at "ev"; exact ud_neg)
  | (apply ec_cb; walk_at "ev"; walk_at "ad")
  | (apply ec_chain; walk_at "ev"; walk_at "ev"; walk_at "rd"; walk_at "ev"; walk_at "rd")
  | exact ecl_of (el_of (by assumption)) | exact el_of (by assumption)
  | (apply ec_call; walk_at "ev"; walk_at "call")
  | (apply ec_tup; walk_at "ev"; (simp; done))
  | (apply et_test; walk_at "ev") | (apply et_B; walk_at "ev") | (apply et_not; walk_at "ev")
  | (apply et_and; walk_at "ev"; (intro _; walk_at "ev")) | (apply et_or; walk_at "ev"; (intro _; walk_at "ev"))
  | (apply ec_and; walk_at "ev"; (intro _; walk_at "ev")) | (apply ec_or; walk_at "ev"; (intro _; walk_at "ev")) | (apply ec_not; walk_at "ev")
  | exact eo_none | (apply eo_some; walk_at "ev"))
local macro_rules | `(tactic| walk_at "call") => `(tactic| first
  | assumption | exact r_is_name (by walk_at "side") | exact r_is_path (by walk_at "side")
  | exact ⟨rfl, rfl⟩ | exact ⟨_, rfl, rfl⟩ | exact ⟨_, _, rfl, rfl⟩ | exact ⟨_, _, (by assumption), rfl, rfl⟩)
section
variable {K : PySem.W.Frag} {mg : Str → Option Value} {c : RC} {fs : Fm} {n : Nat} {ws : List Str} {tz : TS} {P : Px}
theorem sql_ex {H H' : Hp} {w : Addr} {xs : List V} (h : SqL K H w xs) (e : Ex H H') : SqL K H' w xs := by
  rcases h with h | h
  · refine .inl ?_
    rcases h with h | ⟨o, h⟩
    · exact .inl (e w _ h)
    · exact .inr ⟨o, e w _ h⟩
  · exact .inr h
/-- the reader's place: its words -/
structure At0 (K : PySem.W.Frag) (c : RC) (ws : List Str) : Prop where
  na : c.B c.a = none
  hw : SqL K c.B c.w (ws.map V.str)
theorem lk_m {m : Str} (h1 : (m == ("words" : Str)) = false) (h2 : (m == ("at" : Str)) = false) (w : Addr) (n : Nat) : (rdF w n).lookup m = none := by
  unfold rdF
  simp [List.lookup, h1, h2]
theorem ex_step (h : At0 K c ws) : EX K c (tMeth (CR K) "step" (spStep K) [] E0 (tVar 0) tNil) fs n (.str (ws.getD n "")) (n + 1) := fun H σ h0 Q q =>
  ⟨_, h0.2.1, c.a, c.dx, rdF c.w n, rfl, h0.2.2, lk_m (by decide +kernel) (by decide +kernel) _ _, c.a, c.dx, c.w, ws, n, rfl, h0.2.2, sql_ex h.hw h0.1.ex, fun H' eb ha => q _ H' (h0.eb h.na eb ha) (.str _)⟩
theorem drop_lt {n : Nat} (h : n < ws.length) : ws.drop n = ws.getD n "" :: ws.drop (n + 1) := by
  rw [List.drop_eq_getElem_cons h, List.getD_eq_getElem?_getD, List.getElem?_eq_getElem h]
  rfl
theorem drop_ge {n : Nat} (h : ¬ n < ws.length) : ws.drop n = [] ∧ ws.getD n "" = "" := by
  refine ⟨List.drop_eq_nil_of_le (by omega), ?_⟩
  rw [List.getD_eq_getElem?_getD, List.getElem?_eq_none (by omega)]
  rfl
/-! ### promises of the reader's methods -/
def Rs (K : PySem.W.Frag) (a dx w : Addr) (n : Nat) (H : Hp) (ws : List Str) : Prop := H a = some (rdr K dx w n) ∧ SqL K H w (ws.map V.str) ∧ ws.length ≤ 80000 ∧ ∀ t ∈ ws, t.length ≤ 90000
def Raised (K : PySem.W.Frag) (a : Addr) (H : Hp) (E : XK) : Prop := ∀ H', Eb a H H' → E (.ref (CI K)) none H'
def spReadEnd (K : PySem.W.Frag) : Sp := fun vs H Q E => ∃ (a dx w : Addr) (ws : List Str) (n : Nat), vs = [V.ref a] ∧ Rs K a dx w n H ws ∧
  (endR (ws.drop n) = none → Raised K a H E) ∧ (∀ r, endR (ws.drop n) = some r → ∀ H', Eb a H H' → H' a = some (rdr K dx w (n + 1)) → Q .non H')
def spOffsets (K : PySem.W.Frag) : Sp := fun vs H Q E => ∃ (a dx w : Addr) (ws : List Str) (n : Nat), vs = [V.ref a] ∧ Rs K a dx w n H ws ∧
  (offsR (ws.drop n) = none → Raised K a H E) ∧ (∀ ns r, offsR (ws.drop n) = some (ns, r) → ∀ v H' n', Eb a H H' → H' a = some (rdr K dx w n') → n' ≤ ws.length → ws.drop n' = r → Dp K H' v (.tuple (ns.map .int)) → Q v H')
def spRead (K : PySem.W.Frag) (f : Nat) : Sp := fun vs H Q E => ∃ (a dx w : Addr) (ws : List Str) (n : Nat), vs = [V.ref a, .int (13 - (f : Int))] ∧ Rs K a dx w n H ws ∧
  (rd f (ws.drop n) = none → Raised K a H E) ∧ (∀ e r, rd f (ws.drop n) = some (e, r) → ∀ v H' n', Eb a H H' → H' a = some (rdr K dx w n') → n' ≤ ws.length → ws.drop n' = r → Dp K H' v (enc e) → Q v H')
def spParts (K : PySem.W.Frag) (f : Nat) : Sp := fun vs H Q E => ∃ (a dx w : Addr) (ws : List Str) (n k : Nat), vs = [V.ref a, .int (k : Nat), .int (12 - (f : Int))] ∧ (1 ≤ k ∧ k ≤ 3) ∧ Rs K a dx w n H ws ∧
  (partsR (rd f) k (ws.drop n) = none → Raised K a H E) ∧ (∀ es r, partsR (rd f) k (ws.drop n) = some (es, r) → ∀ p vs H' n', Eb a H H' → H' a = some (rdr K dx w n') → n' ≤ ws.length → ws.drop n' = r → H p = none → H' p = some (.lst vs) → DpAll K H' vs (es.map enc) → Q (.ref p) H')
/-- a method's frame: data behind self -/
theorem rc_start {a dx w : Addr} {H : Hp} {ws : List Str} {E : XK} {vs : List V} {ds : List PyData} {N : Nat} (h : Rs K a dx w n H ws) (hd : DpAll K H vs ds) (hi : immAll ds = true) :
    ∃ B : Hp, At0 K ⟨B, a, dx, w, E⟩ ws ∧ (∀ H', Ex B H' → Eb a H H') ∧ RC.At ⟨B, a, dx, w, E⟩ K H (([V.ref a] ++ vs).map some ++ List.replicate N none) (([some (.raw (.ref a))] ++ ds.map fun d => some (.im d)) ++ List.replicate N none) n := by
  obtain ⟨ha, hw, _⟩ := h
  have eb : Ex (fun b => if b = a then none else H b) H := fun b o hb' => by
    have hb : (if b = a then none else H b) = some o := hb'
    by_cases e : b = a
    · rw [if_pos e] at hb
      cases hb
    · rwa [if_neg e] at hb
  have inB : Eb a H (fun b => if b = a then none else H b) := fun b o hb ho => by
    show (if b = a then none else H b) = some o
    rw [if_neg hb]
    exact ho
  refine ⟨fun b => if b = a then none else H b, ⟨if_pos rfl, sql_eb hw ha inB⟩, fun H' e b o hb ho => e b o (inB b o hb ho), ⟨⟨Evl.Ex.refl _, eb, ?_, fun i s hs => ?_, fun i j b o u hij hi' hj => ?_⟩, rfl, ha⟩⟩
  · simp [dpAll_len hd]
  · match i with
    | 0 =>
      cases hs
      exact ⟨_, rfl, rfl⟩
    | i + 1 =>
      have hs' : ((ds.map fun d => some (Sl.im d)) ++ List.replicate N none)[i]? = some (some s) := hs
      by_cases hl : i < ds.length
      · rw [List.getElem?_append_left (by simpa using hl), List.getElem?_map] at hs'
        cases hdi : ds[i]? with
        | none => rw [hdi] at hs'; cases hs'
        | some d =>
          rw [hdi] at hs'
          cases hs'
          obtain ⟨v, h1, h2⟩ := dpAll_at hd hdi
          refine ⟨v, ?_, h2, .inl (immAll_iff.mp hi d (List.mem_of_getElem? hdi))⟩
          show (vs.map some ++ List.replicate N none)[i]? = _
          rw [List.getElem?_append_left (by rw [List.length_map, dpAll_len hd]; exact hl), List.getElem?_map, h1]
          rfl
      · rw [List.getElem?_append_right (by simpa using hl), List.getElem?_replicate] at hs'
        split at hs' <;> cases hs'
  · have no : ∀ {i : Nat} {b : Addr} {o : Ob}, (([some (Sl.raw (V.ref a))] ++ ds.map fun d => some (Sl.im d)) ++ List.replicate N none : Fm)[i]? = some (some (.ob b o)) → False := fun {i b o} h => by
      match i with
      | 0 => cases h
      | i + 1 =>
        have h' : ((ds.map fun d => some (Sl.im d)) ++ List.replicate N none)[i]? = some (some (.ob b o)) := h
        by_cases hl : i < ds.length
        · rw [List.getElem?_append_left (by simpa using hl), List.getElem?_map] at h'
          cases hdi : ds[i]? with
          | none => rw [hdi] at h'; cases h'
          | some d => rw [hdi] at h'; cases h'
        · rw [List.getElem?_append_right (by simpa using hl), List.getElem?_replicate] at h'
          split at h' <;> cases h'
    exact no hi'
theorem sx_last {tt : TT} {b : Bool} {tu : TS} (h : ∀ (H : Hp) (σ : L2.St), c.At K H σ fs n → ∀ Q : Bool → Hp → Prop, (∀ H', c.At K H' σ fs (n + 1) → Q b H') → tt σ H Q) (h1 : b = true → SX K c tu fs (n + 1) P) (h2 : b = false → P.nx fs (n + 1)) : SX K c (tIfS tt tu tNext) fs n P := fun H σ D a0 nx rt xs =>
  h H σ a0 _ fun H1 a1 => by
    cases b with
    | true => exact (show tu D σ H1 from h1 rfl H1 σ D a1 nx rt xs)
    | false => exact (show D.nx σ H1 from nx _ _ _ _ (h2 rfl) a1)
theorem r_read_end (vs : List V) (H : Hp) (Q : VK) (E : XK) (h : spReadEnd K vs H Q E) : t_read_end K (spStep K) E { nx := fun _ H' => Q .non H', rt := Q } (L2.start ["self"] vs) H := by
  obtain ⟨a, dx, w, ws, n, rfl, hR, hx, hq⟩ := h
  obtain ⟨B, a0, hB, st⟩ := rc_start (E := E) (N := 0) hR (vs := []) (ds := []) .nil rfl
  have hs : SX K ⟨B, a, dx, w, E⟩ (t_read_end K (spStep K) E) [some (.raw (.ref a))] n { nx := fun _ n' => n' = n + 1 ∧ endR (ws.drop n) ≠ none, rt := fun _ _ => False, xs := endR (ws.drop n) = none } := by
    refine sx_last (b := !decide (ws.getD n "" = ")")) (fun H1 σ1 h1 Q1 q1 => ex_op (ex_step a0) rfl ec_str rd_neS H1 σ1 h1 _ fun v H2 a2 hv => ?_) (fun e => sx_raise (c := ⟨B, a, dx, w, E⟩) ?_) fun e => ⟨rfl, ?_⟩
    · cases dp_bl hv
      exact ⟨_, rfl, q1 H2 a2⟩
    · have e' : ws.getD n "" ≠ ")" := by simpa using e
      by_cases hl : n < ws.length
      · rw [drop_lt hl]
        show (if ws.getD n "" = ")" then _ else none) = none
        rw [if_neg e']
      · rw [(drop_ge hl).1]
        rfl
    · have e' : ws.getD n "" = ")" := by simpa using e
      have hl : n < ws.length := by
        by_cases hl : n < ws.length
        · exact hl
        · rw [(drop_ge hl).2] at e'
          exact absurd e' (by decide +kernel)
      rw [drop_lt hl]
      show (if ws.getD n "" = ")" then _ else none) ≠ none
      rw [if_pos e']
      exact fun z => nomatch z
  refine hs H _ _ st (fun fs' n' σ' H' ⟨e1, e2⟩ a1 => ?_) (fun _ _ _ _ z => z.elim) fun z H' e => hx z H' (hB H' e)
  subst e1
  cases hr : endR (ws.drop n) with
  | none => exact absurd hr e2
  | some r => exact hq r hr H' (hB H' a1.1.ex) a1.2.2
end
end T95

set_option maxHeartbeats 2000000
namespace T95
open PySem PySem.Spec PyProof.Rows L2 T9
local macro_rules | `(tactic| walk_at "side") => `(tactic| first | assumption | omega | decide | rfl)
local macro_rules | `(tactic| walk_at "rd") => `(tactic| first
  | exact rd_D (by assumption) | exact rd_D0 (by assumption) rfl
  | exact rd_addI | exact rd_subI | exact rd_eqS | exact rd_eqI | exact rd_neS | exact rd_neI | exact rd_ltI | exact rd_leI | exact rd_gtI | exact rd_geI | exact rd_ltS
  | exact rd_inC | exact rd_ninC | exact rd_inT | exact rd_ninT | exact rd_ninTI
  | exact rd_ixT rfl | exact rd_ixL rfl | exact rd_ixL (by assumption) | exact rd_ixT (by assumption)
  | exact rd_mod (by walk_at "side") | exact rd_div ⟨by walk_at "side", by walk_at "side"⟩
  | exact rd_mulI (Or.inl ⟨by decide, by decide⟩) | exact rd_mulI (Or.inr ⟨by decide, by decide⟩) | exact rd_mulI (Or.inl ⟨by omega, by omega⟩)
  | exact rd_pow ⟨by decide, by decide, by decide⟩
  | exact rd_addS (by walk_at "side"))
local macro_rules | `(tactic| walk_at "ad") => `(tactic| first
  | exact ad_lenD (by assumption) | exact ad_lenM | exact ad_lenL | exact ad_lenT | exact ad_lenS (by walk_at "side") | exact ad_int | exact ad_intB | exact ad_tupleL | assumption)
local macro_rules | `(tactic| walk_at "ev") => `(tactic| first
  | exact ec_int | exact ec_str | exact ec_bl | exact ec_non
  | exact ec_var rfl | exact ec_varL rfl | exact es_var rfl | exact el_var rfl
  | assumption
  | exact ea_nil | (apply ea_cons; walk_at "ev"; walk_at "ev")
  | (apply ec_op; walk_at "ev"; walk_at "ev"; walk_at "rd")
  | (apply ec_un; walk_at "ev"; exact ud_neg)
  | (apply ec_cb; walk_at "ev"; walk_at "ad")
  | (apply ec_chain; walk_at "ev"; walk_at "ev"; walk_at "rd"; walk_at "ev"; walk_at "rd")
  | exact ecl_of (el_of (by assumption)) | exact el_of (by assumption)
  | (apply ec_call; walk_at "ev"; walk_at "call")
  | (apply ec_tup; walk_at "ev"; (simp; done))
  | (apply et_test; walk_at "ev") | (apply et_B; walk_at "ev") | (apply et_not; walk_at "ev")
  | (apply et_and; walk_at "ev"; (intro _; walk_at "ev")) | (apply et_or; walk_at "ev"; (intro _; walk_at "ev"))
  | (apply ec_and; walk_at "ev"; (intro _; walk_at "ev")) | (apply ec_or; walk_at "ev"; (intro _; walk_at "ev")) | (apply ec_not; walk_at "ev")
  | exact eo_none | (apply eo_some; walk_at "ev"))
local macro_rules | `(tactic| walk_at "call") => `(tactic| first
  | assumption | exact r_is_name (by walk_at "side") | exact r_is_path (by walk_at "side")
  | exact ⟨rfl, rfl⟩ | exact ⟨_, rfl, rfl⟩ | exact ⟨_, _, rfl, rfl⟩ | exact ⟨_, _, (by assumption), rfl, rfl⟩)
section
variable {K : PySem.W.Frag} {mg : Str → Option Value} {c : RC} {fs : Fm} {n n' : Nat} {ws : List Str} {ts tu tz tw : TS} {tt : TT} {te : TE} {d : PyData} {P : Px}
theorem sx_seq {M : Fm → Nat → Prop} (h1 : SX K c tu fs n { P with nx := M }) (h2 : ∀ g m, M g m → SX K c tw g m P) : SX K c (tSeq tu tw) fs n P := fun H σ D a0 nx rt xs =>
  h1 H σ _ a0 (fun g m σ' H' hm a1 => h2 g m hm H' σ' D a1 nx rt xs) rt xs
theorem sx_le {gs : Fm} (l : Le fs gs) (h : SX K c ts gs n P) : SX K c ts fs n P := fun H σ D a0 nx rt xs => h H σ D ⟨a0.1.le l, a0.2.1, a0.2.2⟩ nx rt xs
theorem sx_asgE {i : Nat} (h : EX K c te fs n d n') (hi : imm d = true) (hl : i < fs.length) (h0 : i ≠ 0) (k : P.nx (fs.set i (some (.im d))) n') : SX K c (tAsg te (gName i)) fs n P := fun H σ D a0 nx rt xs =>
  h H σ a0 _ fun v H1 a1 hv => nx _ _ _ _ k ⟨a1.1.setD (Evl.Ex.refl H1) hl ⟨hv, .inl hi⟩, by rw [List.getElem?_set_ne h0]; exact a1.2.1, a1.2.2⟩
/-- what neither raises nor touches the reader -/
theorem sx_of {M : Fm → Prop} (h : StF K ts fs { nx := M, rt := fun _ => False }) (hraw : fs[0]? = some (some (.raw (.ref c.a)))) (h0 : ∀ g, M g → g[0]? = some (some (.raw (.ref c.a)))) : SX K c ts fs n { P with nx := fun g m => M g ∧ m = n } := fun H σ D a0 nx rt xs => by
  obtain ⟨H2, F2, e1, e2, e3⟩ := a0.1.rebase
  have hno : ¬ OwnAt fs c.a := fun ⟨i, o, hi⟩ => by
    obtain ⟨g1, g2, g3⟩ := a0.1.own hi
    cases o with
    | lst ds =>
      obtain ⟨vs, k, _⟩ := g3
      rw [a0.2.2] at k
      cases k
    | dk kvs =>
      obtain ⟨vs, k, _⟩ := g3
      rw [a0.2.2] at k
      cases k
  have ha2 := e3 _ _ a0.2.2 hno
  refine h c.B H2 H σ D F2 (fun g σ' H' hm F' => nx g n σ' H' ⟨hm, rfl⟩ ⟨F'.base (Evl.Ex.refl _) e1, ?_, F'.ex _ _ ha2⟩) (fun s v H' z _ _ => z.elim) (fun _ _ _ z => z.elim) fun _ _ _ z => z.elim
  obtain ⟨v, v1, v2⟩ := F'.at_ 0 _ (h0 g hm)
  cases v2
  exact v1
theorem sx_while (W : Nat → Fm → Nat → Prop) (m0 : Nat) (h0 : W m0 fs n)
    (hs : ∀ m f k, W m f k → ∃ b, EvT K f tt b ∧ (b = true → SX K c tu f k { P with nx := fun g k' => ∃ m', m' < m ∧ W m' g k' }) ∧ (b = false → P.nx f k)) : SX K c (tWhile tt tu) fs n P := fun H σ D a0 nx rt xs =>
  ⟨fun m σ' H' => ∃ f k, W m f k ∧ c.At K H' σ' f k, ⟨m0, fs, n, h0, a0⟩, fun m σ' H' ⟨f, k, w, a1⟩ => by
    obtain ⟨b, hb, h1, h2⟩ := hs m f k w
    refine hb c.B c.B H' σ' a1.1 _ fun H1 e1 => ?_
    have a2 := a1.mono e1
    cases b with
    | true =>
      refine (show ∃ N : L2.St → Hp → Prop, _ from ⟨fun σ2 H2 => ∃ m', m' < m ∧ ∃ f' k', W m' f' k' ∧ c.At K H2 σ2 f' k', fun σ2 H2 q => q, ?_⟩)
      exact h1 rfl H1 σ' _ a2 (fun f' k' σ2 H2 ⟨m', hm, w'⟩ a3 => ⟨m', hm, f', k', w', a3⟩) rt xs
    | false => exact (show D.nx σ' H1 from nx f k σ' H1 (h2 rfl) a2)⟩
theorem p_offs (hws : ws.length ≤ 80000) (hw : ∀ w ∈ ws, w.length ≤ 90000) (a0 : At0 K c ws) : SX K c (t_read_offsets K (spF K R_read_integer) (spStep K) c.E) [some (.raw (.ref c.a)), none, none, none] n
    { nx := fun _ _ => False, rt := fun d n' => ∃ ns, offsR (ws.drop n) = some (ns, ws.drop n') ∧ n' ≤ ws.length ∧ d = .tuple (ns.map .int), xs := offsR (ws.drop n) = none } := by
  have hwl : ∀ k, (ws.getD k "").length ≤ 90000 := fun k => by
    by_cases hl : k < ws.length
    · rw [List.getD_eq_getElem?_getD, List.getElem?_eq_getElem hl]
      exact hw _ (List.getElem_mem hl)
    · rw [(drop_ge hl).2]
      exact Nat.zero_le _
  refine sx_seq (M := fun g m => (∃ b, g = [some (.raw (.ref c.a)), some (.ob b (.lst [])), none, none]) ∧ m = n) (sx_of (sf_asgN (o := .lst []) (en_lstD ea_nil (by decide) rfl) (lt_rfl rfl) fun b => ⟨b, rfl⟩) rfl fun g ⟨b, e⟩ => by rw [e]; rfl) fun g m ⟨⟨b, e⟩, em⟩ => ?_
  subst e em
  refine sx_asg (ex_step a0) rfl (lt_rfl rfl) (by decide) ?_
  refine sx_seq (M := fun g k => ∃ (b : Addr) (ns : List Int), Le g [some (.raw (.ref c.a)), some (.ob b (.lst (ns.map .int))), some (.im (.str (ws.getD (k - 1) ""))), none] ∧ 1 ≤ k ∧ k ≤ ws.length ∧ offsR (ws.drop m) = some (ns, ws.drop k))
    (sx_while (fun q g k => ∃ (b : Addr) (ns : List Int), Le g [some (.raw (.ref c.a)), some (.ob b (.lst (ns.map .int))), some (.im (.str (ws.getD (k - 1) ""))), none] ∧ 1 ≤ k ∧ q = ws.length + 1 - k ∧ ns.length ≤ k - 1 ∧
        offsR (ws.drop m) = match offsR (ws.drop (k - 1)) with
          | some (ms, r) => some (ns ++ ms, r)
          | none => none) (ws.length + 1 - (m + 1)) ⟨b, [], .cons (.cons (.cons (.cons .nil))), Nat.le_add_left 1 m, rfl, Nat.zero_le _, by
        rw [Nat.add_sub_cancel]
        cases offsR (ws.drop m) with
        | none => rfl
        | some p => rfl⟩ fun q g k ⟨b, ns, hg, hk, hq, hnl, ho⟩ => ?_) fun g k ⟨b, ns, hg, hk1, hk2, ho⟩ => ?_
  · subst hq
    refine ⟨!decide (ws.getD (k - 1) "" = ")"), et_le hg (et_test (ec_op (ec_var rfl) ec_str rd_neS)), fun e => ?_, fun e => ?_⟩
    · have e' : ws.getD (k - 1) "" ≠ ")" := by simpa using e
      refine sx_le hg (sx_asg (d := if intWord (ws.getD (k - 1) "") = true then .int (intOf (ws.getD (k - 1) "")) else .none) (ex_of (ec_call (R := R_read_integer) (ea_cons (ec_var rfl) ea_nil) ⟨_, Nat.le_trans (hwl _) (by decide), rfl, rfl⟩)) (by split <;> rfl) (lt_rfl rfl) (by decide) ?_)
      by_cases hi : intWord (ws.getD (k - 1) "") = true
      · rw [if_pos hi]
        have hl : k - 1 < ws.length := by
          by_cases hl : k - 1 < ws.length
          · exact hl
          · rw [(drop_ge hl).2] at hi
            exact absurd rfl (int_not hi).2.2.2
        have hst : offsR (ws.drop (k - 1)) = match offsR (ws.drop k) with
            | some (ms, r) => some (intOf (ws.getD (k - 1) "") :: ms, r)
            | none => none := by
          rw [drop_lt hl, show k - 1 + 1 = k by omega]
          show (if ws.getD (k - 1) "" = ")" then _ else _) = _
          rw [if_neg e', if_pos hi]
          all_goals (cases offsR (ws.drop k) <;> rfl)
        refine sx_F (et_eq (et_test (ec_isN (d := .int (intOf (ws.getD (k - 1) ""))) (ec_var rfl))) rfl) ?_
        refine sx_seq (M := fun g m' => g = [some (.raw (.ref c.a)), some (.ob b (.lst ((ns ++ [intOf (ws.getD (k - 1) "")]).map .int))), some (.im (.str (ws.getD (k - 1) ""))), some (.im (.int (intOf (ws.getD (k - 1) ""))))] ∧ m' = k) (sx_of (sf_app (i := 1) (a := b) (ds := ns.map .int) rfl (ec_var rfl) rfl (by rw [List.length_map]; omega) ?_) rfl fun g e => by rw [e]; rfl) fun g m' ⟨e1, e2⟩ => ?_
        · rw [List.map_append]
          rfl
        · subst e1 e2
          refine sx_asgE (ex_step a0) rfl (lt_rfl rfl) (by decide) ⟨ws.length + 1 - (m' + 1), by omega, b, ns ++ [intOf (ws.getD (m' - 1) "")], .cons (.cons (.cons (.drop .nil))), by omega, rfl, by rw [List.length_append, List.length_singleton]; omega, ?_⟩
          rw [ho, hst, Nat.add_sub_cancel]
          cases offsR (ws.drop m') with
          | none => rfl
          | some p => simp
      · rw [if_neg hi]
        refine sx_T (et_eq (et_test (ec_isN (d := .none) (ec_var rfl))) rfl) (sx_raise (c := c) ?_)
        show offsR (ws.drop m) = none
        rw [ho]
        have hz : offsR (ws.drop (k - 1)) = none := by
          by_cases hl : k - 1 < ws.length
          · rw [drop_lt hl]
            show (if ws.getD (k - 1) "" = ")" then _ else _) = _
            rw [if_neg e', if_neg hi]
          · rw [(drop_ge hl).1]
            rfl
        rw [hz]
    · have e' : ws.getD (k - 1) "" = ")" := by simpa using e
      have hl : k - 1 < ws.length := by
        by_cases hl : k - 1 < ws.length
        · exact hl
        · rw [(drop_ge hl).2] at e'
          exact absurd e' (by decide +kernel)
      refine ⟨b, ns, hg, hk, by omega, ?_⟩
      rw [ho, drop_lt hl, show k - 1 + 1 = k by omega]
      show (match (if ws.getD (k - 1) "" = ")" then some (([] : List Int), ws.drop k) else _) with | some (ms, r) => some (ns ++ ms, r) | none => none) = _
      rw [if_pos e']
      show some (ns ++ [], ws.drop k) = _
      rw [List.append_nil]
  · refine sx_le hg (sx_ret (d := .tuple (ns.map .int)) (ex_of (ec_cb (ea_cons (ec_varL rfl) ea_nil) ad_tupleL)) (immAll_ints ns) ⟨ns, ho, hk2, rfl⟩)
theorem r_offsets (vs : List V) (H : Hp) (Q : VK) (E : XK) (h : spOffsets K vs H Q E) : t_read_offsets K (spF K R_read_integer) (spStep K) E { nx := fun _ H' => Q .non H', rt := Q } (L2.start ["self", "numbers", "word", "number"] vs) H := by
  obtain ⟨a, dx, w, ws, n, rfl, hR, hx, hq⟩ := h
  obtain ⟨B, a0, hB, st⟩ := rc_start (E := E) (N := 3) hR (vs := []) (ds := []) .nil rfl
  refine p_offs (c := ⟨B, a, dx, w, E⟩) hR.2.2.1 hR.2.2.2 a0 H _ _ st (fun _ _ _ _ z => z.elim) (fun v H' d n' ⟨ns, h1, h2, h3⟩ _ hv e ha => ?_) fun z H' e => hx z H' (hB H' e)
  subst h3
  exact hq ns _ h1 v H' n' (hB H' e) ha h2 rfl hv
theorem r_parts_ (f : Nat) (vs : List V) (H : Hp) (Q : VK) (E : XK) (h : spParts K f vs H Q E) : t_read_parts K (spRead K f) E { nx := fun _ H' => Q .non H', rt := Q } (L2.start ["self", "count", "level", "k"] vs) H := by
  obtain ⟨a, dx, w, ws, n, cnt, rfl, ⟨hk0, hk⟩, ⟨ha, hw, hws, hww⟩, hx, hq⟩ := h
  refine ⟨_, rfl, (cnt : Int), rfl, by omega, by omega, fun D hD => ?_⟩
  rw [show ((cnt : Nat) : Int).toNat = cnt from Int.toNat_natCast cnt]
  have haD : a ≠ D := fun z => by
    rw [← z, ha] at hD
    cases hD
  refine lc_range (lo := 0) (n := cnt) (fun i H' => i ≤ cnt ∧ Eb a H H' ∧ ∃ (es : List Exp) (n' : Nat) (us : List V), H' a = some (rdr K dx w n') ∧ H' D = some (.lst us) ∧ DpAll K H' us (es.map enc) ∧ n' ≤ max n ws.length ∧ us.length = i ∧ (i = 0 → n' = n) ∧ (0 < i → n' ≤ ws.length) ∧
      partsR (rd f) cnt (ws.drop n) = match partsR (rd f) (cnt - i) (ws.drop n') with
        | some (es2, r) => some (es ++ es2, r)
        | none => none) ?_ (fun i H1 hi hp => ?_) fun H1 hp => ?_
  · refine ⟨Nat.zero_le _, fun b o hb ho => ?_, [], n, [], ?_, upd_same, .nil, Nat.le_max_left _ _, rfl, fun _ => rfl, fun z => absurd z (Nat.lt_irrefl 0), ?_⟩
    · rw [upd_ne (fun z => by rw [z, hD] at ho; cases ho)]
      exact ho
    · rw [upd_ne haD]
      exact ha
    · rw [Nat.sub_zero]
      cases partsR (rd f) cnt (ws.drop n) with
      | none => rfl
      | some p => rfl
  · obtain ⟨_, hb, es, n', us, h1, h2, h3, h4, h5, h6, h6', h7⟩ := hp
    obtain ⟨j, hj⟩ : ∃ j, cnt - i = j + 1 := ⟨cnt - i - 1, by omega⟩
    rw [hj] at h7
    have hw1 := sql_eb hw ha hb
    refine ⟨rfl, ?_⟩
    refine ⟨_, rfl, a, dx, rdF w n', rfl, h1, lk_m (by decide +kernel) (by decide +kernel) _ _, _, rfl, Or.inl ⟨_, 1, rfl, rfl, ?_⟩⟩
    refine ⟨a, dx, w, ws, n', by show [V.ref a, V.int (12 - (f : Int) + 1)] = _; rw [show 12 - (f : Int) + 1 = 13 - (f : Int) by omega], ⟨h1, hw1, hws, hww⟩, fun hr => ?_, fun e r hr v H2 n2 e2 ha2 hn2 hd2 hv => ?_⟩
    · refine fun H2 e2 => hx ?_ H2 (hb.trans e2)
      rw [h7]
      simp only [partsR, hr]
    · have hD2 : H2 D = some (.lst us) := e2 D _ (fun z => haD z.symm) h2
      have immE : immAll (es.map enc) = true := immAll_mapM fun x _ => imm_enc x
      have ej : Ej H1 H2 := ⟨fun x xs hx => e2 x _ (fun z => by rw [z, h1] at hx; cases hx) hx, fun x o u hx => e2 x _ (fun z => by rw [z, h1] at hx; cases hx) hx⟩
      have ej2 : Ej H2 (upd H2 D (.lst (us ++ [v]))) := Ej.upd hD2 (fun _ z => nomatch z) (fun _ _ z => nomatch z)
      refine ⟨us, hD2, Evl.sz_lt (by omega), by omega, fun b o hbb ho => ?_, es ++ [e], n2, us ++ [v], by rw [upd_ne haD]; exact ha2, upd_same, ?_, Nat.le_trans hn2 (Nat.le_max_right _ _), by rw [List.length_append, h5]; rfl, fun z => absurd z (Nat.succ_ne_zero i), fun _ => hn2, ?_⟩
      · have hbD : b ≠ D := fun z => by rw [z, hD] at ho; cases ho
        rw [upd_ne hbD]
        exact (hb.trans e2) b o hbb ho
      · rw [List.map_append]
        exact dpAll_app (dpAll_ej (ej.trans ej2) _ _ immE h3) (.cons (dp_ej ej2 _ _ (imm_enc e) hv) .nil)
      · rw [h7, show cnt - (i + 1) = j by omega, hd2]
        simp only [partsR, hr]
        cases partsR (rd f) j r with
        | none => rfl
        | some p => simp
  · obtain ⟨_, hb, es, n', us, h1, h2, h3, h4, h5, h6, h6', h7⟩ := hp
    rw [Nat.sub_self] at h7
    have h8 : partsR (rd f) cnt (ws.drop n) = some (es, ws.drop n') := by
      rw [h7]
      show some (es ++ [], ws.drop n') = _
      rw [List.append_nil]
    exact hq es _ h8 D us H1 n' hb h1 (h6' (by omega)) rfl hD h2 h3
end
end T95

set_option maxHeartbeats 2000000
namespace T95
open PySem PySem.Spec PyProof.Rows L2 T9
local macro_rules | `(tactic| walk_at "side") => `(tactic| first | assumption | omega | decide | rfl)
local macro_rules | `(tactic| walk_at "rd") => `(tactic| first
  | exact rd_D (by assumption) | exact rd_D0 (by assumption) rfl
  | exact rd_addI | exact rd_subI | exact rd_eqS | exact rd_eqI | exact rd_neS | exact rd_neI | exact rd_ltI | exact rd_leI | exact rd_gtI | exact rd_geI | exact rd_ltS
  | exact rd_inC | exact rd_ninC | exact rd_inT | exact rd_ninT | exact rd_ninTI
  | exact rd_ixT rfl | exact rd_ixL rfl | exact rd_ixL (by assumption) | exact rd_ixT (by assumption)
  | exact rd_mod (by walk_at "side") | exact rd_div ⟨by walk_at "side", by walk_at "side"⟩
  | exact rd_mulI (Or.inl ⟨by decide, by decide⟩) | exact rd_mulI (Or.inr ⟨by decide, by decide⟩) | exact rd_mulI (Or.inl ⟨by omega, by omega⟩)
  | exact rd_pow ⟨by decide, by decide, by decide⟩
  | exact rd_addS (by walk_at "side"))
local macro_rules | `(tactic| walk_at "ad") => `(tactic| first
  | exact ad_lenD (by assumption) | exact ad_lenM | exact ad_lenL | exact ad_lenT | exact ad_lenS (by walk_at "side") | exact ad_int | exact ad_intB | exact ad_tupleL | assumption)
local macro_rules | `(tactic| walk_at "ev") => `(tactic| first
  | exact ec_int | exact ec_str | exact ec_bl | exact ec_non
  | exact ec_var rfl | exact ec_varL rfl | exact es_var rfl | exact el_var rfl
  | assumption
  | exact ea_nil | (apply ea_cons; walk_at "ev"; walk_at "ev")
  | (apply ec_op; walk_at "ev"; walk_at "ev"; walk_at "rd")
  | (apply ec_un; walk_at "ev"; exact ud_neg)
  | (apply ec_cb; walk_at "ev"; walk_at "ad")
  | (apply ec_chain; walk_at "ev"; walk_at "ev"; walk_at "rd"; walk_at "ev"; walk_at "rd")
  | exact ecl_of (el_of (by assumption)) | exact el_of (by assumption)
  | (apply ec_call; walk_at "ev"; walk_at "call")
  | (apply ec_tup; walk_at "ev"; (simp; done))
  | (apply et_test; walk_at "ev") | (apply et_B; walk_at "ev") | (apply et_not; walk_at "ev")
  | (apply et_and; walk_at "ev"; (intro _; walk_at "ev")) | (apply et_or; walk_at "ev"; (intro _; walk_at "ev"))
  | (apply ec_and; walk_at "ev"; (intro _; walk_at "ev")) | (apply ec_or; walk_at "ev"; (intro _; walk_at "ev")) | (apply ec_not; walk_at "ev")
  | exact eo_none | (apply eo_some; walk_at "ev"))
local macro_rules | `(tactic| walk_at "call") => `(tactic| first
  | assumption | exact r_is_name (by walk_at "side") | exact r_is_path (by walk_at "side")
  | exact ⟨rfl, rfl⟩ | exact ⟨_, rfl, rfl⟩ | exact ⟨_, _, rfl, rfl⟩ | exact ⟨_, _, (by assumption), rfl, rfl⟩)
section
variable {K : PySem.W.Frag} {mg : Str → Option Value} {c : RC} {fs : Fm} {n m f : Nat} {ws : List Str} {tz : TS} {P : Px}
structure AtW (K : PySem.W.Frag) (c : RC) (ws : List Str) : Prop extends At0 K c ws where
  len : ws.length ≤ 80000
  w : ∀ t ∈ ws, t.length ≤ 90000
theorem AtW.rs (h : AtW K c ws) {H : Hp} {σ : L2.St} (h0 : c.At K H σ fs n) : Rs K c.a c.dx c.w n H ws := ⟨h0.2.2, sql_ex h.hw h0.1.ex, h.len, h.w⟩
theorem AtW.word (h : AtW K c ws) (k : Nat) : (ws.getD k "").length ≤ 90000 := by
  by_cases hl : k < ws.length
  · rw [List.getD_eq_getElem?_getD, List.getElem?_eq_getElem hl]
    exact h.w _ (List.getElem_mem hl)
  · rw [(drop_ge hl).2]
    exact Nat.zero_le _
theorem idx_of {r : List Str} (h : m ≤ ws.length) (e : ws.drop m = r) : m = ws.length - r.length := by
  rw [← e, List.length_drop]
  omega
theorem eb_ex (h : At0 K c ws) {H H' : Hp} {σ : L2.St} (h0 : c.At K H σ fs n) (e : Eb c.a H H') : Ex c.B H' := fun b o hb => e b o (fun z => by rw [z, h.na] at hb; cases hb) (h0.1.ex b o hb)
theorem ex_lvl (h : fs[1]? = some (some (.im (.int (13 - ((f + 1 : Nat) : Int)))))) {H : Hp} {σ : L2.St} (h0 : c.At K H σ fs n) {Q : VK} (q : ∀ H', c.At K H' σ fs n → Ex H H' → Q (.int (13 - (f : Int))) H') : tOp (rAddU K) (tVar 1) (tC (.int 1)) σ H Q :=
  (ec_op (ec_var h) ec_int rd_addI) c.B c.B H σ h0.1 Q fun v H1 e hv => by
    cases dp_int hv
    rw [show (13 - ((f + 1 : Nat) : Int) + 1) = 13 - (f : Int) by omega]
    exact q H1 (h0.mono e) e
theorem ex_read (h : AtW K c ws) (h1 : fs[1]? = some (some (.im (.int (13 - ((f + 1 : Nat) : Int)))))) {e : Exp} {r : List Str} (hr : rd f (ws.drop n) = some (e, r)) :
    EX K c (tMeth (CR K) "read" (spRead K f) [] c.E (tVar 0) (tCons (tOp (rAddU K) (tVar 1) (tC (.int 1))) tNil)) fs n (enc e) (ws.length - r.length) := fun H σ h0 Q q =>
  ⟨_, h0.2.1, c.a, c.dx, rdF c.w n, rfl, h0.2.2, lk_m (by decide +kernel) (by decide +kernel) _ _, ex_lvl h1 h0 fun H1 a1 e1 => ⟨c.a, c.dx, c.w, ws, n, rfl, h.rs a1, fun hz => (by rw [hr] at hz; cases hz), fun e2 r2 he v H2 n2 eb ha hn hd hv => by
    rw [hr] at he
    cases he
    rw [idx_of hn hd] at ha
    exact q v H2 (a1.eb h.na eb ha) hv⟩⟩
theorem exx_read (h : AtW K c ws) (h1 : fs[1]? = some (some (.im (.int (13 - ((f + 1 : Nat) : Int)))))) (hr : rd f (ws.drop n) = none) :
    EXx K c (tMeth (CR K) "read" (spRead K f) [] c.E (tVar 0) (tCons (tOp (rAddU K) (tVar 1) (tC (.int 1))) tNil)) fs n := fun H σ h0 xs Q =>
  ⟨_, h0.2.1, c.a, c.dx, rdF c.w n, rfl, h0.2.2, lk_m (by decide +kernel) (by decide +kernel) _ _, ex_lvl h1 h0 fun H1 a1 e1 => ⟨c.a, c.dx, c.w, ws, n, rfl, h.rs a1, fun _ H2 e2 => xs H2 (eb_ex h.toAt0 a1 e2), fun e2 r2 he => by
    rw [hr] at he
    cases he⟩⟩
theorem ex_offs (h : AtW K c ws) {ns : List Int} {r : List Str} (hr : offsR (ws.drop n) = some (ns, r)) : EX K c (tMeth (CR K) "read_offsets" (spOffsets K) [] c.E (tVar 0) tNil) fs n (.tuple (ns.map .int)) (ws.length - r.length) := fun H σ h0 Q q =>
  ⟨_, h0.2.1, c.a, c.dx, rdF c.w n, rfl, h0.2.2, lk_m (by decide +kernel) (by decide +kernel) _ _, c.a, c.dx, c.w, ws, n, rfl, h.rs h0, fun hz => (by rw [hr] at hz; cases hz), fun ms r2 he v H2 n2 eb ha hn hd hv => by
    rw [hr] at he
    cases he
    rw [idx_of hn hd] at ha
    exact q v H2 (h0.eb h.na eb ha) hv⟩
theorem exx_offs (h : AtW K c ws) (hr : offsR (ws.drop n) = none) : EXx K c (tMeth (CR K) "read_offsets" (spOffsets K) [] c.E (tVar 0) tNil) fs n := fun H σ h0 xs Q =>
  ⟨_, h0.2.1, c.a, c.dx, rdF c.w n, rfl, h0.2.2, lk_m (by decide +kernel) (by decide +kernel) _ _, c.a, c.dx, c.w, ws, n, rfl, h.rs h0, fun _ H2 e2 => xs H2 (eb_ex h.toAt0 h0 e2), fun ms r2 he => by
    rw [hr] at he
    cases he⟩
theorem isAt_ix {w : Str} (hw : w ≠ "") : decide ((⟨#[nthC w 0]⟩ : Str) = "@") = isAt w := by
  cases ht : TL.tl w with
  | nil => exact absurd (str_tl (ht.trans (by decide +kernel))) hw
  | cons x r =>
    rw [Bool.eq_iff_iff, decide_eq_true_eq, isAt_iff, nthC_head ht]
    constructor
    · intro e
      have z := congrArg TL.tl e
      rw [show TL.tl (⟨#[x]⟩ : Str) = [x] from rfl, show TL.tl ("@" : Str) = [64] by decide +kernel] at z
      cases z
      exact ⟨r, ht⟩
    · rintro ⟨r2, e⟩
      rw [ht] at e
      cases e
      exact str_tl (by rw [show TL.tl (⟨#[64]⟩ : Str) = [64] from rfl]; decide +kernel)
theorem ne_len {w : Str} (h : w ≠ "") : 1 ≤ w.length := by
  rw [TL.len_tl]
  cases ht : TL.tl w with
  | nil => exact absurd (str_tl (ht.trans (by decide +kernel))) h
  | cons x r => simp
/-- parts, the end, the tuple -/
theorem parts_tail (h : AtW K c ws) {k : Str} {cnt : Nat} (hc : 1 ≤ cnt ∧ cnt ≤ 3) (mk : List Exp → Exp) (hmk : ∀ es : List Exp, es.length = cnt → enc (mk es) = .tuple (.str k :: es.map enc)) {H : Hp} {σ : L2.St} {D : Ends}
    (h0 : c.At K H σ fs m) (h1 : fs[1]? = some (some (.im (.int (13 - ((f + 1 : Nat) : Int)))))) (h4 : fs[4]? = some (some (.im (.str k)))) (h6 : fs.length = 7)
    (hx : closeR mk (partsR (rd f) cnt (ws.drop m)) = none → ∀ H', Ex c.B H' → c.E (.ref (CI K)) none H')
    (hq : ∀ es r v H' n', closeR mk (partsR (rd f) cnt (ws.drop m)) = some (mk es, r) → ws.drop n' = r → n' ≤ ws.length → imm (enc (mk es)) = true → Dp K H' v (enc (mk es)) → Ex c.B H' → H' c.a = some (rdr K c.dx c.w n') → D.rt v H')
    (hl : ∀ es r, partsR (rd f) cnt (ws.drop m) = some (es, r) → es.length = cnt) :
    (tAsg (tMeth (CR K) "read_parts" (spParts K f) [] c.E (tVar 0) (tCons (tC (.int (cnt : Nat))) (tCons (tVar 1) tNil))) (gName 6)) { D with nx := (tSeq (tDrop (tMeth (CR K) "read_end" (spReadEnd K) [] c.E (tVar 0) tNil)) (tRet (tTup (tCons (tVar 4) (StX.tStar K (tVar 6) tNil))))) D } σ H := by
  obtain ⟨v1, w1, w2⟩ := h0.1.at_ 1 _ h1
  have w3 : v1 = .int (13 - ((f + 1 : Nat) : Int)) := dp_int (show Stab K c.B H v1 (.int _) from w2).1
  obtain ⟨v4, u1, u2⟩ := h0.1.at_ 4 _ h4
  have u3 : v4 = .str k := dp_str (show Stab K c.B H v4 (.str _) from u2).1
  subst w3 u3
  refine ⟨_, h0.2.1, c.a, c.dx, rdF c.w m, rfl, h0.2.2, lk_m (by decide +kernel) (by decide +kernel) _ _, _, w1, c.a, c.dx, c.w, ws, m, cnt, by rw [show (13 - ((f + 1 : Nat) : Int)) = 12 - (f : Int) by omega]; rfl, hc, h.rs h0, fun hz H2 e2 => ?_, fun es r hes p us H2 n2 eb ha hn hd hp0 hp hv => ?_⟩
  · exact hx (by rw [hz]; rfl) H2 (eb_ex h.toAt0 h0 e2)
  · have a2 : c.At K H2 σ fs n2 := h0.eb h.na eb ha
    have hpa : p ≠ c.a := fun z => by
      rw [z, h0.2.2] at hp0
      cases hp0
    have s0 : (σ.set 6 (some (.ref p)))[0]? = some (some (.ref c.a)) := by rw [List.getElem?_set_ne (by decide)]; exact h0.2.1
    have s4 : (σ.set 6 (some (.ref p)))[4]? = some (some (.str k)) := by rw [List.getElem?_set_ne (by decide)]; exact u1
    have s6 : (σ.set 6 (some (.ref p)))[6]? = some (some (.ref p)) := List.getElem?_set_self (by rw [h0.1.len, h6]; decide)
    refine ⟨_, s0, c.a, c.dx, rdF c.w n2, rfl, ha, lk_m (by decide +kernel) (by decide +kernel) _ _, c.a, c.dx, c.w, ws, n2, rfl, ⟨ha, sql_ex h.hw a2.1.ex, h.len, h.w⟩, fun hz H3 e3 => ?_, fun r3 hr3 H3 e3 ha3 => ?_⟩
    · rw [hd] at hz
      exact hx (by rw [hes]; show (match endR r with | none => none | some r' => some (mk es, r')) = none; rw [hz]) H3 (eb_ex h.toAt0 a2 e3)
    · have hp3 : H3 p = some (.lst us) := e3 p _ hpa hp
      have a3 : c.At K H3 σ fs (n2 + 1) := a2.eb h.na e3 ha3
      have immE : immAll (es.map enc) = true := immAll_mapM fun x _ => imm_enc x
      have ej : Ej H2 H3 := ⟨fun x xs hx => e3 x _ (fun z => by rw [z, ha] at hx; cases hx) hx, fun x o u hx => e3 x _ (fun z => by rw [z, ha] at hx; cases hx) hx⟩
      have hv3 := dpAll_ej ej _ _ immE hv
      have hr3' := hr3
      rw [hd] at hr3'
      have er := endR_inv hr3
      have hlt : n2 < ws.length := by
        by_cases hlt : n2 < ws.length
        · exact hlt
        · rw [(drop_ge hlt).1] at er
          cases er
      have hd1 : ws.drop (n2 + 1) = r3 := by
        rw [drop_lt hlt] at er
        injection er
      have hel := hl es r hes
      refine ⟨_, s4, _, s6, p, us, rfl, .inr (Evl.sq_of hp3), Evl.sz_of (by rw [List.append_nil]; show us.length + 1 ≤ 100000; rw [dpAll_len hv3, List.length_map]; omega), fun q2 hq2 => ?_⟩
      have e4 : Ex H3 (upd H3 q2 (.tup ([V.str k] ++ (us ++ [])))) := Evl.Ex.new hq2
      refine hq es r3 _ _ (n2 + 1) ?_ hd1 hlt (imm_enc _) ?_ (a3.1.ex.trans e4) (e4 _ _ ha3)
      · rw [hes]
        show (match endR r with | none => none | some r' => some (mk es, r')) = _
        rw [hr3']
      · rw [hmk es hel]
        refine .tup (Evl.st_of upd_same) ?_
        rw [List.append_nil] at e4 ⊢
        exact .cons (.str k) (dpAll_ex e4 _ _ hv3)
end
end T95

set_option maxHeartbeats 2000000
namespace T95
open PySem PySem.Spec PyProof.Rows L2 T9
local macro_rules | `(tactic| walk_at "side") => `(tactic| first | assumption | omega | decide | rfl)
local macro_rules | `(tactic| walk_at "rd") => `(tactic| first
  | exact rd_D (by assumption) | exact rd_D0 (by assumption) rfl
  | exact rd_addI | exact rd_subI | exact rd_eqS | exact rd_eqI | exact rd_neS | exact rd_neI | exact rd_ltI | exact rd_leI | exact rd_gtI | exact rd_geI | exact rd_ltS
  | exact rd_inC | exact rd_ninC | exact rd_inT | exact rd_ninT | exact rd_ninTI
  | exact rd_ixT rfl | exact rd_ixL rfl | exact rd_ixL (by assumption) | exact rd_ixT (by assumption)
  | exact rd_mod (by walk_at "side") | exact rd_div ⟨by walk_at "side", by walk_at "side"⟩
  | exact rd_mulI (Or.inl ⟨by decide, by decide⟩) | exact rd_mulI (Or.inr ⟨by decide, by decide⟩) | exact rd_mulI (Or.inl ⟨by omega, by omega⟩)
  | exact rd_pow ⟨by decide, by decide, by decide⟩
  | exact rd_addS (by walk_at "side"))
local macro_rules | `(tactic| walk_at "ad") => `(tactic| first
  | exact ad_lenD (by assumption) | exact ad_lenM | exact ad_lenL | exact ad_lenT | exact ad_lenS (by walk_at "side") | exact ad_int | exact ad_intB | exact ad_tupleL | assumption)
local macro_rules | `(tactic| walk_at "ev") => `(tactic| first
  | exact ec_int | exact ec_str | exact ec_bl | exact ec_non
  | exact ec_var rfl | exact ec_varL rfl | exact es_var rfl | exact el_var rfl
  | assumption
  | exact ea_nil | (apply ea_cons; walk_at "ev"; walk_at "ev")
  | (apply ec_op; walk_at "ev"; walk_at "ev"; walk_at "rd")
  | (apply ec_un; walk_at "ev"; exact ud_neg)
  | (apply ec_cb; walk_at "ev"; walk_at "ad")
  | (apply ec_chain; walk_at "ev"; walk_at "ev"; walk_at "rd"; walk_at "ev"; walk_at "rd")
  | exact ecl_of (el_of (by assumption)) | exact el_of (by assumption)
  | (apply ec_call; walk_at "ev"; walk_at "call")
  | (apply ec_tup; walk_at "ev"; (simp; done))
  | (apply et_test; walk_at "ev") | (apply et_B; walk_at "ev") | (apply et_not; walk_at "ev")
  | (apply et_and; walk_at "ev"; (intro _; walk_at "ev")) | (apply et_or; walk_at "ev"; (intro _; walk_at "ev"))
  | (apply ec_and; walk_at "ev"; (intro _; walk_at "ev")) | (apply ec_or; walk_at "ev"; (intro _; walk_at "ev")) | (apply ec_not; walk_at "ev")
  | exact eo_none | (apply eo_some; walk_at "ev"))
local macro_rules | `(tactic| walk_at "call") => `(tactic| first
  | assumption | exact r_is_name (by walk_at "side") | exact r_is_path (by walk_at "side")
  | exact ⟨rfl, rfl⟩ | exact ⟨_, rfl, rfl⟩ | exact ⟨_, _, rfl, rfl⟩ | exact ⟨_, _, (by assumption), rfl, rfl⟩)
section
variable {K : PySem.W.Frag} {mg : Str → Option Value} {c : RC} {n m f : Nat} {ws : List Str} {P : Px}
abbrev PxR (ws : List Str) (n f : Nat) : Px := { nx := fun _ _ => False, rt := fun d n' => ∃ e, rd f (ws.drop n) = some (e, ws.drop n') ∧ n' ≤ ws.length ∧ d = enc e, xs := rd f (ws.drop n) = none }
theorem rd_ge (h : ¬ n < ws.length) : rd f (ws.drop n) = none := by
  rw [(drop_ge h).1]
  cases f <;> rfl
theorem rd_emp (h : ws.getD n "" = "") : rd f (ws.drop n) = none := by
  by_cases hl : n < ws.length
  · rw [drop_lt hl, h]
    cases f with
    | zero => rfl
    | succ f =>
      unfold rd
      rw [if_pos rfl]
  · exact rd_ge hl
theorem p_read0 {s1 s2 s3 s4 s5 : Sp} (h : AtW K c ws) : SX K c (t_read K s1 s2 s3 s4 s5 (spStep K) c.E) [some (.raw (.ref c.a)), some (.im (.int (13 - ((0 : Nat) : Int)))), none, none, none, none, none] n (PxR ws n 0) := by
  refine sx_asg (ex_step h.toAt0) rfl (lt_rfl rfl) (by decide) (sx_T (et_eq (et_or (a := true) (b := true) (et_eq (et_test (ec_op (ec_var rfl) ec_int rd_gtI)) (by decide)) fun e => nomatch e) rfl) (sx_raise (c := c) rfl))
theorem parts_len {rdf : List Str → Option (Exp × List Str)} : ∀ {k : Nat} {ts : List Str} {es : List Exp} {r : List Str}, partsR rdf k ts = some (es, r) → es.length = k
  | 0, _, _, _, h => by
    cases h
    rfl
  | k + 1, ts, es, r, h => by
    unfold partsR at h
    cases h1 : rdf ts with
    | none => rw [h1] at h; cases h
    | some p =>
      obtain ⟨e, q⟩ := p
      rw [h1] at h
      dsimp only at h
      cases h2 : partsR rdf k q with
      | none => rw [h2] at h; cases h
      | some p2 =>
        obtain ⟨es2, q2⟩ := p2
        rw [h2] at h
        cases h
        rw [List.length_cons, parts_len h2]
theorem drop_suf {pre r : List Str} (h : ws = pre ++ r) : ws.drop (ws.length - r.length) = r := by
  conv => lhs; rw [h]
  rw [List.length_append, Nat.add_sub_cancel]
  exact List.drop_left' rfl
theorem p_read (T : Tx K mg) (h : AtW K c ws) (hf : f + 1 ≤ 12) : SX K c (t_read K (spF K R_read_integer) (spReadEnd K) (spParts K f) (spOffsets K) (spRead K f) (spStep K) c.E) [some (.raw (.ref c.a)), some (.im (.int (13 - ((f + 1 : Nat) : Int)))), none, none, none, none, none] n (PxR ws n (f + 1)) := by
  have hP : ∀ {fs : Fm}, EvC K fs (tC (.ref (He.ga K "PAIRS"))) (.tuple (pairs.map .str)) := fun {fs} => ec_K fun H => dp_strsT (zs := pairs) T.k_PAIRS H
  have hwl := h.word n
  refine sx_asg (ex_step h.toAt0) rfl (lt_rfl rfl) (by decide) ?_
  have hlv : EvT K ([some (.raw (.ref c.a)), some (.im (.int (13 - ((f + 1 : Nat) : Int)))), none, none, none, none, none].set 2 (some (.im (.str (ws.getD n ""))))) (tTest (tOp rGtI (tVar 1) (tC (.int 12)))) false := et_eq (et_test (ec_op (ec_var rfl) ec_int rd_gtI)) (decide_eq_false (by omega))
  by_cases hw : ws.getD n "" = ""
  · exact sx_T (et_eq (et_or (a := false) hlv fun _ => et_test (ec_op (ec_var rfl) ec_str rd_eqS)) (by rw [decide_eq_true hw]; rfl)) (sx_raise (c := c) (rd_emp hw))
  · have hl : n < ws.length := by
      by_cases hl : n < ws.length
      · exact hl
      · exact absurd (drop_ge hl).2 hw
    have hrd : rd (f + 1) (ws.drop n) = rd (f + 1) (ws.getD n "" :: ws.drop (n + 1)) := by rw [drop_lt hl]
    generalize ws.getD n "" = t at hw hwl hrd hlv
    refine sx_F (et_eq (et_or (a := false) hlv fun _ => et_test (ec_op (ec_var rfl) ec_str rd_eqS)) (by rw [decide_eq_false hw]; rfl)) ?_
    have hix : EvC K ([some (.raw (.ref c.a)), some (.im (.int (13 - ((f + 1 : Nat) : Int)))), none, none, none, none, none].set 2 (some (.im (.str t)))) (tOp (rEqU K) (tOp (rIx K) (tVar 2) (tC (.int 0))) (tC (.str "@"))) (.bool (isAt t)) := by
      rw [← isAt_ix hw]
      exact ec_op (hd_ix (ne_len hw) (by omega) (ec_var rfl)) ec_str rd_eqS
    by_cases ha : isAt t = true
    · refine sx_T (et_eq (et_test hix) ha) (sx_ret (d := enc (.path (rest t))) (ex_of (ec_tup (as := [.str "path", .str (rest t)]) (ea_cons ec_str (ea_cons (cutR_le t (ec_var rfl) (by omega)) ea_nil)) (by simp))) rfl ⟨.path (rest t), ?_, hl, rfl⟩)
      rw [hrd]
      unfold rd
      rw [if_neg hw, if_pos ha]
    · have ha' : isAt t = false := by simpa using ha
      refine sx_F (et_eq (et_test hix) ha') ?_
      by_cases hp : t = "("
      · subst hp
        refine sx_F (et_eq (et_test (ec_op (ec_var rfl) ec_str rd_neS)) (by decide +kernel)) ?_
        refine sx_asg (ex_step h.toAt0) rfl (lt_rfl rfl) (by decide) ?_
        have hkd : ws.drop (n + 1) = [] ∨ ws.drop (n + 1) = ws.getD (n + 1) "" :: ws.drop (n + 1 + 1) := by
          by_cases hl2 : n + 1 < ws.length
          · exact Or.inr (drop_lt hl2)
          · exact Or.inl (drop_ge hl2).1
        have hk0 : ws.drop (n + 1) = [] → ws.getD (n + 1) "" = "" := fun e => by
          by_cases hl2 : n + 1 < ws.length
          · rw [drop_lt hl2] at e
            cases e
          · exact (drop_ge hl2).2
        generalize ws.getD (n + 1) "" = k at hkd hk0
        have hrk : rd (f + 1) (ws.drop n) = (match ws.drop (n + 1) with
            | [] => none
            | k :: us => if k = "shift" then (match rd f us with
                | none => none
                | some (e, r) => match offsR r with
                  | none => none
                  | some (ns, r') => some (Exp.shift e ns, r'))
              else if k ∈ pairs then closeR (two_ k) (partsR (rd f) 2 us)
              else if k = "pick" then closeR (three_ k) (partsR (rd f) 3 us) else none) := by
          rw [hrd]
          conv => lhs; unfold rd
          rw [if_neg hw, if_neg ha, if_pos rfl]
          all_goals (cases ws.drop (n + 1) <;> rfl)
        by_cases hsh : k = "shift"
        · subst hsh
          have hd2 : ws.drop (n + 1) = ("shift" : Str) :: ws.drop (n + 1 + 1) := hkd.resolve_left fun e => absurd (hk0 e) (by decide +kernel)
          rw [hd2] at hrk
          have hrk' : rd (f + 1) (ws.drop n) = match rd f (ws.drop (n + 1 + 1)) with
                | none => none
                | some (e, r) => match offsR r with
                  | none => none
                  | some (ns, r') => some (Exp.shift e ns, r') := by
            rw [hrk]
            show (if ("shift" : Str) = "shift" then _ else _) = _
            rw [if_pos rfl]
          refine sx_T (et_eq (et_test (ec_op (ec_var rfl) ec_str rd_eqS)) (by decide +kernel)) ?_
          cases hr : rd f (ws.drop (n + 1 + 1)) with
          | none =>
            refine sx_asgX (exx_read h rfl hr) ?_
            show rd (f + 1) (ws.drop n) = none
            rw [hrk', hr]
          | some p =>
            obtain ⟨e, r⟩ := p
            obtain ⟨us, hus, _, _⟩ := rd_inv hr
            have hdr : ws.drop (ws.length - r.length) = r := by
              exact drop_suf (pre := ws.take (n + 1 + 1) ++ us) (by rw [List.append_assoc, ← hus, List.take_append_drop])
            refine sx_asg (ex_read h rfl hr) (imm_enc e) (lt_rfl rfl) (by decide) ?_
            cases ho : offsR r with
            | none =>
              refine sx_retX (fun H σ a1 xs Q => ?_) ?_
              · obtain ⟨v5, w1, w2⟩ := a1.1.at_ 5 _ rfl
                exact ⟨v5, w1, exx_offs h (by rw [hdr]; exact ho) H σ a1 xs _⟩
              · show rd (f + 1) (ws.drop n) = none
                rw [hrk', hr]
                dsimp only
                rw [ho]
            | some p2 =>
              obtain ⟨ns, r2⟩ := p2
              obtain ⟨os, hos, _, _⟩ := offsR_inv ho
              have hd3 : ws.drop (ws.length - r2.length) = r2 := drop_suf (pre := ws.take (n + 1 + 1) ++ us ++ (os ++ [(")" : Str)])) (by
                have z : ws = ws.take (n + 1 + 1) ++ (us ++ (os ++ ((")" : Str) :: r2))) := by rw [← hos, ← hus, List.take_append_drop]
                conv => lhs; rw [z]
                simp)
              refine sx_ret (d := enc (.shift e ns)) (n' := ws.length - r2.length) (fun H σ a1 Q q => ?_) (imm_enc _) ⟨.shift e ns, ?_, Nat.sub_le _ _, rfl⟩
              · obtain ⟨v5, w1, w2⟩ := a1.1.at_ 5 _ rfl
                refine ⟨v5, w1, ex_offs h (by rw [hdr]; exact ho) H σ a1 _ fun v H1 a2 hv => ⟨Evl.sz_of (by show 3 ≤ 100000; decide), fun p hp => ?_⟩⟩
                obtain ⟨v5', w1', w2'⟩ := a2.1.at_ 5 _ rfl
                have ev : v5 = v5' := by
                  rw [w1] at w1'
                  cases w1'
                  rfl
                subst ev
                have e3 : Ex H1 (upd H1 p (.tup [V.str "shift", v5, v])) := Evl.Ex.new hp
                exact q _ _ (a2.mono e3) (.tup (Evl.st_of upd_same) (.cons (.str "shift") (.cons (dp_ex e3 _ _ (show Stab K c.B H1 v5 (enc e) from w2').1) (.cons (dp_ex e3 _ _ hv) .nil))))
              · rw [hrk', hr]
                dsimp only
                rw [ho, hd3]
        · refine sx_F (et_eq (et_test (ec_op (ec_var rfl) ec_str rd_eqS)) (decide_eq_false hsh)) fun H σ D a1 nx rt xs => ?_
          have hrk2 : rd (f + 1) (ws.drop n) = if k ∈ pairs then closeR (two_ k) (partsR (rd f) 2 (ws.drop (n + 1 + 1))) else if k = "pick" then closeR (three_ k) (partsR (rd f) 3 (ws.drop (n + 1 + 1))) else none := by
            rw [hrk]
            rcases hkd with e | e
            · rw [e]
              have ek := hk0 e
              subst ek
              rw [if_neg (by decide +kernel), if_neg (by decide +kernel)]
            · rw [e]
              show (if k = "shift" then _ else _) = _
              rw [if_neg hsh]
          refine (et_test (ec_op (ec_var rfl) hP rd_inT)) c.B c.B H σ a1.1 _ fun H1 e1 => ?_
          have a2 := a1.mono e1
          by_cases hk : k ∈ pairs
          · rw [if_pos hk] at hrk2
            show (if decide (k ∈ pairs) = true then _ else _)
            rw [if_pos (decide_eq_true hk)]
            exact parts_tail h (k := k) (cnt := 2) ⟨by decide, by decide⟩ (two_ k) (fun es he => by
              match es, he with
              | [x, y], _ => rfl) a2 rfl rfl rfl (fun hz => xs (hrk2.trans hz)) (fun es r v H' n' hz hd hn hi hv e ha => rt v H' _ n' ⟨two_ k es, by rw [hrk2, hz, hd], hn, rfl⟩ hi hv e ha) fun es r => parts_len
          · rw [if_neg hk] at hrk2
            show (if decide (k ∈ pairs) = true then _ else _)
            rw [if_neg (by rw [decide_eq_false hk]; exact Bool.false_ne_true)]
            refine (et_test (ec_op (ec_var rfl) ec_str rd_eqS)) c.B c.B H1 σ a2.1 _ fun H2 e2 => ?_
            have a3 := a2.mono e2
            by_cases hk2 : k = "pick"
            · rw [if_pos hk2] at hrk2
              rw [if_pos (decide_eq_true hk2)]
              exact parts_tail h (k := k) (cnt := 3) ⟨by decide, by decide⟩ (three_ k) (fun es he => by
                match es, he with
                | [x, y, z], _ => rfl) a3 rfl rfl rfl (fun hz => xs (hrk2.trans hz)) (fun es r v H' n' hz hd hn hi hv e ha => rt v H' _ n' ⟨three_ k es, by rw [hrk2, hz, hd], hn, rfl⟩ hi hv e ha) fun es r => parts_len
            · rw [if_neg hk2] at hrk2
              rw [if_neg (by rw [decide_eq_false hk2]; exact Bool.false_ne_true)]
              exact xs hrk2 H2 a3.1.ex
      · refine sx_T (et_eq (et_test (ec_op (ec_var rfl) ec_str rd_neS)) (by rw [decide_eq_false hp]; rfl)) ?_
        refine sx_asg (d := if intWord t = true then .int (intOf t) else .none) (ex_of (ec_call (R := R_read_integer) (ea_cons (ec_var rfl) ea_nil) ⟨_, by omega, rfl, rfl⟩)) (by split <;> rfl) (lt_rfl rfl) (by decide) ?_
        by_cases hi : intWord t = true
        · rw [if_pos hi]
          refine sx_F (et_eq (et_test (ec_isN (d := .int (intOf t)) (ec_var rfl))) rfl) (sx_ret (d := enc (.num (intOf t))) (ex_of (ec_tup (as := [.str "number", .int (intOf t)]) (ea_cons ec_str (ea_cons (ec_var rfl) ea_nil)) (by simp))) rfl ⟨.num (intOf t), ?_, hl, rfl⟩)
          rw [hrd]
          unfold rd
          rw [if_neg hw, if_neg ha, if_neg hp, if_pos hi]
        · rw [if_neg hi]
          refine sx_T (et_eq (et_test (ec_isN (d := .none) (ec_var rfl))) rfl) (sx_raise (c := c) ?_)
          show rd (f + 1) (ws.drop n) = none
          rw [hrd]
          unfold rd
          rw [if_neg hw, if_neg ha, if_neg hp, if_neg hi]
end
end T95

set_option maxHeartbeats 2000000
namespace T95
open PySem PySem.Spec PyProof.Rows L2 T9
local macro_rules | `(tactic| walk_at "side") => `(tactic| first | assumption | omega | decide | rfl)
local macro_rules | `(tactic| walk_at "rd") => `(tactic| first
  | exact rd_D (by assumption) | exact rd_D0 (by assumption) rfl
  | exact rd_addI | exact rd_subI | exact rd_eqS | exact rd_eqI | exact rd_neS | exact rd_neI | exact rd_ltI | exact rd_leI | exact rd_gtI | exact rd_geI | exact rd_ltS
  | exact rd_inC | exact rd_ninC | exact rd_inT | exact rd_ninT | exact rd_ninTI
  | exact rd_ixT rfl | exact rd_ixL rfl | exact rd_ixL (by assumption) | exact rd_ixT (by assumption)
  | exact rd_mod (by walk_at "side") | exact rd_div ⟨by walk_at "side", by walk_at "side"⟩
  | exact rd_mulI (Or.inl ⟨by decide, by decide⟩) | exact rd_mulI (Or.inr ⟨by decide, by decide⟩) | exact rd_mulI (Or.inl ⟨by omega, by omega⟩)
  | exact rd_pow ⟨by decide, by decide, by decide⟩
  | exact rd_addS (by walk_at "side"))
local macro_rules | `(tactic| walk_at "ad") => `(tactic| first
  | exact ad_lenD (by assumption) | exact ad_lenM | exact ad_lenL | exact ad_lenT | exact ad_lenS (by walk_at "side") | exact ad_int | exact ad_intB | exact ad_tupleL | assumption)
local macro_rules | `(tactic| walk_at "ev") => `(tactic| first
  | exact ec_int | exact ec_str | exact ec_bl | exact ec_non
  | exact ec_var rfl | exact ec_varL rfl | exact es_var rfl | exact el_var rfl
  | assumption
  | exact ea_nil | (apply ea_cons; walk_at "ev"; walk_at "ev")
  | (apply ec_op; walk_at "ev"; walk_at "ev"; walk_at "rd")
  | (apply ec_un; walk_at "ev"; exact ud_neg)
  | (apply ec_cb; walk_at "ev"; walk_at "ad")
  | (apply ec_chain; walk_at "ev"; walk_at "ev"; walk_at "rd"; walk_at "ev"; walk_at "rd")
  | exact ecl_of (el_of (by assumption)) | exact el_of (by assumption)
  | (apply ec_call; walk_at "ev"; walk_at "call")
  | (apply ec_tup; walk_at "ev"; (simp; done))
  | (apply et_test; walk_at "ev") | (apply et_B; walk_at "ev") | (apply et_not; walk_at "ev")
  | (apply et_and; walk_at "ev"; (intro _; walk_at "ev")) | (apply et_or; walk_at "ev"; (intro _; walk_at "ev"))
  | (apply ec_and; walk_at "ev"; (intro _; walk_at "ev")) | (apply ec_or; walk_at "ev"; (intro _; walk_at "ev")) | (apply ec_not; walk_at "ev")
  | exact eo_none | (apply eo_some; walk_at "ev"))
local macro_rules | `(tactic| walk_at "call") => `(tactic| first
  | assumption | exact r_is_name (by walk_at "side") | exact r_is_path (by walk_at "side")
  | exact ⟨rfl, rfl⟩ | exact ⟨_, rfl, rfl⟩ | exact ⟨_, _, rfl, rfl⟩ | exact ⟨_, _, (by assumption), rfl, rfl⟩)
section
variable {K : PySem.W.Frag} {mg : Str → Option Value}
theorem r_read0 {s1 s2 s3 s4 s5 : Sp} (vs : List V) (H : Hp) (Q : VK) (E : XK) (h : spRead K 0 vs H Q E) : t_read K s1 s2 s3 s4 s5 (spStep K) E { nx := fun _ H' => Q .non H', rt := Q } (L2.start ["self", "level", "word", "number", "kind", "inner", "parts"] vs) H := by
  obtain ⟨a, dx, w, ws, n, rfl, hR, hx, hq⟩ := h
  obtain ⟨B, a0, hB, st⟩ := rc_start (E := E) (N := 5) hR (vs := [V.int (13 - ((0 : Nat) : Int))]) (ds := [.int (13 - ((0 : Nat) : Int))]) (.cons (.int _) .nil) rfl
  refine p_read0 (c := ⟨B, a, dx, w, E⟩) ⟨a0, hR.2.2.1, hR.2.2.2⟩ H _ _ st (fun _ _ _ _ z => z.elim) (fun v H' d n' ⟨e, h1, h2, h3⟩ _ hv ee ha => ?_) fun z H' e => hx z H' (hB H' e)
  subst h3
  exact hq e _ h1 v H' n' (hB H' ee) ha h2 rfl hv
theorem r_read (T : Tx K mg) {f : Nat} (hf : f + 1 ≤ 12) (vs : List V) (H : Hp) (Q : VK) (E : XK) (h : spRead K (f + 1) vs H Q E) : t_read K (spF K R_read_integer) (spReadEnd K) (spParts K f) (spOffsets K) (spRead K f) (spStep K) E { nx := fun _ H' => Q .non H', rt := Q } (L2.start ["self", "level", "word", "number", "kind", "inner", "parts"] vs) H := by
  obtain ⟨a, dx, w, ws, n, rfl, hR, hx, hq⟩ := h
  obtain ⟨B, a0, hB, st⟩ := rc_start (E := E) (N := 5) hR (vs := [V.int (13 - ((f + 1 : Nat) : Int))]) (ds := [.int (13 - ((f + 1 : Nat) : Int))]) (.cons (.int _) .nil) rfl
  refine p_read T (c := ⟨B, a, dx, w, E⟩) ⟨a0, hR.2.2.1, hR.2.2.2⟩ hf H _ _ st (fun _ _ _ _ z => z.elim) (fun v H' d n' ⟨e, h1, h2, h3⟩ _ hv ee ha => ?_) fun z H' e => hx z H' (hB H' e)
  subst h3
  exact hq e _ h1 v H' n' (hB H' ee) ha h2 rfl hv
def spInit (K : PySem.W.Frag) : Sp := fun vs H Q _ => ∃ (x dx w : Addr), vs = [V.ref x, V.ref w] ∧ H x = some (.ins (CR K) dx []) ∧ ∀ H', Eb x H H' → H' x = some (rdr K dx w 0) → Q .non H'
theorem r_init (T : Tx K mg) (vs : List V) (H : Hp) (Q : VK) (E : XK) (h : spInit K vs H Q E) : t___init__ K { nx := fun _ H' => Q .non H', rt := Q } (L2.start ["self", "words"] vs) H := by
  obtain ⟨x, dx, w, rfl, hx, q⟩ := h
  refine ⟨_, rfl, _, rfl, x, CR K, dx, [], rfl, hx, T.l_ExpressionReader, T.n_ExpressionReader_words, (by show 0 < 1000; decide), ?_⟩
  refine ⟨_, rfl, x, CR K, dx, _, rfl, upd_same, T.l_ExpressionReader, T.n_ExpressionReader_at, (by show 1 < 1000; decide), ?_⟩
  refine q _ (fun b o hb e => by rw [upd_ne hb, upd_ne hb]; exact e) ?_
  rw [upd_same]
  have e : ¬ (("words" : Str) = ("at" : Str)) := by decide +kernel
  unfold rdr rdF
  simp [putF, e]
theorem der_good {us : List Str} {e : Exp} (h : Der us e) : (∀ w ∈ us, w.length ≤ 80000 ∧ PyData.strOk w = true) → us.length ≤ 90000 → Good e := by
  induction h with
  | path h =>
    rename_i w
    intro hw _
    obtain ⟨h1, h2⟩ := hw w (List.mem_cons_self ..)
    exact ⟨Nat.le_trans (rest_le w) h1, strOk_rest h2⟩
  | num _ => exact fun _ _ => trivial
  | two hk _ _ ia ib =>
    intro hw hl
    simp only [List.length_cons, List.length_append, List.length_nil] at hl
    exact ⟨(pairs_not hk).2.2.2.2.2, ia (fun w h => hw w (by simp [h])) (by omega), ib (fun w h => hw w (by simp [h])) (by omega)⟩
  | three _ _ _ ia ib ic =>
    intro hw hl
    simp only [List.length_cons, List.length_append, List.length_nil] at hl
    exact ⟨by unfold Free; decide +kernel, ia (fun w h => hw w (by simp [h])) (by omega), ib (fun w h => hw w (by simp [h])) (by omega), ic (fun w h => hw w (by simp [h])) (by omega)⟩
  | shift _ ho ia =>
    intro hw hl
    simp only [List.length_cons, List.length_append, List.length_nil] at hl
    exact ⟨ia (fun w h => hw w (by simp [h])) (by omega), by rw [List.length_map]; omega⟩
def spParse (K : PySem.W.Frag) : Sp := fun vs H Q E => ∃ z : Str, vs = [.str z] ∧ z.length ≤ 90000 ∧ (Txt.split z " ").length ≤ 80000 ∧ (∀ t ∈ Txt.split z " ", t.length ≤ 80000 ∧ PyData.strOk t = true) ∧
  (parse (Txt.split z " ") = none → ∀ H', Ex H H' → E (.ref (CI K)) none H') ∧ (∀ e, parse (Txt.split z " ") = some e → ∀ v H', Ex H H' → Dp K H' v (enc e) → Q v H')
theorem r_parse (T : Tx K mg) (vs : List V) (H : Hp) (Q : VK) (E : XK) (h : spParse K vs H Q E) : t_parse_expression K (spF K R_is_expression) (spRead K 12) (spInit K) E { nx := fun _ H' => Q .non H', rt := Q } (L2.start ["text", "reader", "expression"] vs) H := by
  obtain ⟨z, rfl, hz, hl, hw, hx, hq⟩ := h
  generalize hts : Txt.split z " " = ts at hl hw hx hq
  have F : Fr K H H H (L2.start ["text", "reader", "expression"] [V.str z]) [some (.im (.str z)), none, none] := fr_start (N := ["text", "reader", "expression"]) (.cons (.str z) .nil)
  have hsp : EvN K [some (.im (.str z)), none, none] (tM1 rSplitU (tVar 0) (tC (.str " "))) (.lst (ts.map .str)) := by
    rw [← hts]
    exact en_split (ec_var rfl) ec_str rfl (by omega)
  refine hsp H H H _ F _ fun w H1 e1 hwn ho => ?_
  obtain ⟨us, ho1, ho2⟩ := ho
  have eus := strs_of ho2.now
  subst eus
  intro x dx hx1 hdx1 hne
  have eA : Ex H1 (upd H1 dx (.own x)) := Evl.Ex.new hdx1
  have eB : Ex (upd H1 dx (.own x)) (upd (upd H1 dx (.own x)) x (.ins (CR K) dx [])) := Evl.Ex.new (by rw [upd_ne (fun e => hne e.symm)]; exact hx1)
  refine ⟨x, dx, w, rfl, upd_same, fun H3 b3 h3 => ⟨rfl, ?_⟩⟩
  have toH3 : Ex H1 H3 := fun b o hb => b3 b o (fun e => by rw [e, hx1] at hb; cases hb) (eB b o (eA b o hb))
  have hw3 : SqL K H3 w (ts.map V.str) := Evl.sq_of (toH3 w _ ho1)
  have notx : ∀ b o, H b = some o → b ≠ x := fun b o hb e => by
    have := e1 b o hb
    rw [e, hx1] at this
    cases this
  have exOf : ∀ {H4 : Hp}, Eb x H3 H4 → Ex H H4 := fun {H4} e b o hb => e b o (notx b o hb) (toH3 b o (e1 b o hb))
  refine ⟨_, rfl, x, dx, rdF w 0, rfl, h3, lk_m (by decide +kernel) (by decide +kernel) _ _, x, dx, w, ts, 0, rfl, ⟨h3, hw3, hl, fun t ht => Nat.le_trans (hw t ht).1 (by decide)⟩, fun hr H4 e4 => ?_, fun e r hr v H4 n4 e4 h4 hn4 hd4 hv => ?_⟩
  · refine hx ?_ H4 (exOf e4)
    unfold parse
    rw [List.drop_zero] at hr
    rw [hr]
  · rw [List.drop_zero] at hr
    obtain ⟨us2, hus, hder, hdep⟩ := rd_inv hr
    have hgood : Good e := der_good hder (fun t ht => hw t (by rw [hus]; exact List.mem_append_left _ ht)) (by
      have := congrArg List.length hus
      rw [List.length_append] at this
      omega)
    have hw4 := sql_eb hw3 h3 e4
    have hd : Dp K H4 (.ref w) (txts ts) := .lst hw4 (dpAll_strs ts)
    refine ⟨_, rfl, x, CR K, dx, rdF w n4, _, rfl, h4, T.l_ExpressionReader, T.n_ExpressionReader_at, lk_at w n4, ?_⟩
    refine ⟨_, rfl, x, CR K, dx, rdF w n4, _, rfl, h4, T.l_ExpressionReader, T.n_ExpressionReader_words, lk_words w n4, ?_⟩
    dsimp only [tNil]
    refine (ad_lenM (K := K) (f := PyData.str) (xs := ts)) [V.ref w] H4 (.cons hd .nil) _ fun u H5 e5 hu => ?_
    cases dp_int hu
    refine (rd_neI (K := K)) _ _ H5 (.int _) (.int _) _ fun u H6 e6 hu => ?_
    cases dp_bl hu
    have e46 := e5.trans e6
    refine ⟨_, rfl, ?_⟩
    by_cases hnl : n4 = ts.length
    · have hrn : r = [] := by rw [← hd4, hnl]; exact List.drop_length
      subst hrn
      have hpe : parse ts = if (valid e && decide ((dep e : Int) ≤ 12)) = true then some e else none := by
        unfold parse
        rw [hr]
      rw [if_neg (by rw [decide_eq_true (by omega)]; exact Bool.false_ne_true)]
      have hv6 := dp_ex e46 _ _ hv
      refine ⟨_, rfl, [enc e], _, ⟨e, hgood, by omega, rfl, rfl⟩, .cons hv6 .nil, fun u H7 e7 hu => ?_⟩
      cases dp_bl hu.1
      refine ⟨_, rfl, ?_⟩
      by_cases hb : (valid e && decide ((dep e : Int) ≤ 12)) = true
      · rw [if_pos hb] at hpe
        dsimp only
        rw [if_neg (by rw [hb]; exact Bool.false_ne_true)]
        exact ⟨_, rfl, hq e hpe v H7 (fun b o h => e7 b o (e46 b o (exOf e4 b o h))) (dp_ex e7 _ _ hv6)⟩
      · rw [if_neg hb] at hpe
        have hb' : (valid e && decide ((dep e : Int) ≤ 12)) = false := by simpa using hb
        dsimp only
        rw [if_pos (by rw [hb']; rfl)]
        exact hx hpe H7 fun b o h => e7 b o (e46 b o (exOf e4 b o h))
    · rw [if_pos (by rw [decide_eq_false (by omega)]; rfl)]
      have hlt : n4 < ts.length := by omega
      have hpe : parse ts = none := by
        unfold parse
        rw [hr, ← hd4, drop_lt hlt]
      exact hx hpe H6 fun b o h => e46 b o (exOf e4 b o h)
end
end T95

set_option maxHeartbeats 2000000
namespace T95
open PySem PySem.Spec PyProof.Rows L2 T9
local macro_rules | `(tactic| walk_at "side") => `(tactic| first | assumption | omega | decide | rfl)
local macro_rules | `(tactic| walk_at "rd") => `(tactic| first
  | exact rd_D (by assumption) | exact rd_D0 (by assumption) rfl
  | exact rd_addI | exact rd_subI | exact rd_eqS | exact rd_eqI | exact rd_neS | exact rd_neI | exact rd_ltI | exact rd_leI | exact rd_gtI | exact rd_geI | exact rd_ltS
  | exact rd_inC | exact rd_ninC | exact rd_inT | exact rd_ninT | exact rd_ninTI
  | exact rd_ixT rfl | exact rd_ixL rfl | exact rd_ixL (by assumption) | exact rd_ixT (by assumption)
  | exact rd_mod (by walk_at "side") | exact rd_div ⟨by walk_at "side", by walk_at "side"⟩
  | exact rd_mulI (Or.inl ⟨by decide, by decide⟩) | exact rd_mulI (Or.inr ⟨by decide, by decide⟩) | exact rd_mulI (Or.inl ⟨by omega, by omega⟩)
  | exact rd_pow ⟨by decide, by decide, by decide⟩
  | exact rd_addS (by walk_at "side"))
local macro_rules | `(tactic| walk_at "ad") => `(tactic| first
  | exact ad_lenD (by assumption) | exact ad_lenM | exact ad_lenL | exact ad_lenT | exact ad_lenS (by walk_at "side") | exact ad_int | exact ad_intB | exact ad_tupleL | assumption)
local macro_rules | `(tactic| walk_at "ev") => `(tactic| first
  | exact ec_int | exact ec_str | exact ec_bl | exact ec_non
  | exact ec_var rfl | exact ec_varL rfl | exact es_var rfl | exact el_var rfl
  | assumption
  | exact ea_nil | (apply ea_cons; walk_at "ev"; walk_at "ev")
  | (apply ec_op; walk_at "ev"; walk_at "ev"; walk_at "rd")
  | (apply ec_un; walk_at "ev"; exact ud_neg)
  | (apply ec_cb; walk_at "ev"; walk_at "ad")
  | (apply ec_chain; walk_at "ev"; walk_at "ev"; walk_at "rd"; walk_at "ev"; walk_at "rd")
  | exact ecl_of (el_of (by assumption)) | exact el_of (by assumption)
  | (apply ec_call; walk_at "ev"; walk_at "call")
  | (apply ec_tup; walk_at "ev"; (simp; done))
  | (apply et_test; walk_at "ev") | (apply et_B; walk_at "ev") | (apply et_not; walk_at "ev")
  | (apply et_and; walk_at "ev"; (intro _; walk_at "ev")) | (apply et_or; walk_at "ev"; (intro _; walk_at "ev"))
  | (apply ec_and; walk_at "ev"; (intro _; walk_at "ev")) | (apply ec_or; walk_at "ev"; (intro _; walk_at "ev")) | (apply ec_not; walk_at "ev")
  | exact eo_none | (apply eo_some; walk_at "ev"))
local macro_rules | `(tactic| walk_at "call") => `(tactic| first
  | assumption | exact r_is_name (by walk_at "side") | exact r_is_path (by walk_at "side")
  | exact ⟨rfl, rfl⟩ | exact ⟨_, rfl, rfl⟩ | exact ⟨_, _, rfl, rfl⟩ | exact ⟨_, _, (by assumption), rfl, rfl⟩)
section
variable {K : PySem.W.Frag} {mg : Str → Option Value}
open TL
def R_format : RR := fun ds r => ∃ e, Good e ∧ valid e = true ∧ dep e ≤ 40 ∧ (wordsE e).length ≤ 80000 ∧ ((wordsE e).map (·.length)).sum ≤ 80000 ∧ ds = [enc e] ∧ r = .d (.str (Txt.join " " (wordsE e)))
theorem p_format : ∀ ds r, R_format ds r → StF K (t_format_expression K (spF K (R_words 40))) (startF 1 ds) (Po0 r) := by
  rintro ds r ⟨e, h, hv, hn, hl, hs, rfl, rfl⟩
  refine sf_ret (es_of (ec_join (x := " ") (ys := wordsE e) ec_str (ecl_of (el_of (en_call (R := R_words 40) (ea_cons (ec_var rfl) ea_nil) (r_words h hv hn (by omega)) (immAll_strs _)))) ?_) rfl) rfl
  rw [show ((" " : Str).length) = 1 from rfl]
  omega
/-! ### what split leaves -/
theorem spl_cnt (S : List Nat) (s : Nat) : ∀ (x : List Nat) (k : Nat) (acc : List Nat), ((spl S k acc x).map (·.count s)).sum ≤ acc.count s + x.count s
  | [], k, acc => by
    rw [spl_nil]
    simp
  | c :: r, 0, acc => by
    show ((if pre S (c :: r) = true then acc :: spl S (S.length - 1) [] r else spl S 0 (acc ++ [c]) r).map (·.count s)).sum ≤ _
    rw [List.count_cons]
    by_cases hp : pre S (c :: r) = true
    · rw [if_pos hp, List.map_cons, List.sum_cons]
      have := spl_cnt S s r (S.length - 1) []
      rw [List.count_nil] at this
      omega
    · rw [if_neg hp]
      have := spl_cnt S s r 0 (acc ++ [c])
      rw [List.count_append, List.count_cons, List.count_nil] at this
      omega
  | c :: r, k + 1, acc => by
    have := spl_cnt S s r k acc
    rw [List.count_cons]
    show ((spl S k acc r).map (·.count s)).sum ≤ _
    omega
theorem spl_mem (S : List Nat) : ∀ (x : List Nat) (k : Nat) (acc : List Nat), ∀ p ∈ spl S k acc x, ∀ c ∈ p, c ∈ acc ∨ c ∈ x
  | [], k, acc, p, h, c, hc => by
    rw [spl_nil] at h
    rw [List.mem_singleton.mp h] at hc
    exact Or.inl hc
  | d :: r, 0, acc, p, h, c, hc => by
    have h' : p ∈ (if pre S (d :: r) = true then acc :: spl S (S.length - 1) [] r else spl S 0 (acc ++ [d]) r) := h
    by_cases hp : pre S (d :: r) = true
    · rw [if_pos hp] at h'
      rcases List.mem_cons.mp h' with e | e
      · rw [e] at hc
        exact Or.inl hc
      · rcases spl_mem S r _ [] p e c hc with z | z
        · exact absurd z List.not_mem_nil
        · exact Or.inr (List.mem_cons_of_mem _ z)
    · rw [if_neg hp] at h'
      rcases spl_mem S r 0 _ p h' c hc with z | z
      · rcases List.mem_append.mp z with z | z
        · exact Or.inl z
        · rw [List.mem_singleton.mp z]
          exact Or.inr (List.mem_cons_self ..)
      · exact Or.inr (List.mem_cons_of_mem _ z)
  | d :: r, k + 1, acc, p, h, c, hc => (spl_mem S r k acc p h c hc).imp id fun z => List.mem_cons_of_mem _ z
def sp : Str := " "
theorem split_sp (z : Str) : (Txt.split z sp).map tl = spl (tl sp) 0 [] (tl z) := split_spl z sp (by decide +kernel) (kind_ok (by decide +kernel))
structure Zok (z : Str) : Prop where
  len : z.length ≤ 79000
  cnt : (tl z).count 40 ≤ 58
  ok : PyData.strOk z = true
theorem count_le : ∀ (ts : List Str), ts.count ("(" : Str) ≤ ((ts.map tl).map (·.count 40)).sum
  | [] => Nat.le_refl _
  | t :: r => by
    have ih := count_le r
    rw [List.count_cons, List.map_cons, List.map_cons, List.sum_cons]
    by_cases h : t = "("
    · subst h
      have : (tl ("(" : Str)).count 40 = 1 := by decide +kernel
      rw [this, if_pos (by simp)]
      omega
    · rw [if_neg (by simpa using h)]
      omega
theorem split_tsok {z : Str} (h : Zok z) : TsOk (Txt.split z sp) ∧ ∀ t ∈ Txt.split z sp, t.length ≤ 80000 ∧ PyData.strOk t = true := by
  have hm := split_sp z
  have hw : ∀ t ∈ Txt.split z sp, t.length ≤ 79000 ∧ PyData.strOk t = true := fun t ht => by
    have hin : tl t ∈ spl (tl sp) 0 [] (tl z) := by
      rw [← hm]
      exact List.mem_map.mpr ⟨t, ht, rfl⟩
    have h1 := spl_le _ _ _ _ _ hin
    rw [← len_tl, ← len_tl, List.length_nil, Nat.zero_add] at h1
    refine ⟨Nat.le_trans h1 h.len, strOk_iff.mpr fun c hc => ?_⟩
    rcases spl_mem _ _ _ _ _ hin c hc with z | z
    · exact absurd z List.not_mem_nil
    · exact strOk_iff.mp h.ok c z
  have hn : (Txt.split z sp).length ≤ z.length + 1 := by
    have z1 := spl_few (tl sp) (tl z) 0 []
    rw [← hm, List.length_map, ← len_tl] at z1
    exact z1
  have hl := h.len
  refine ⟨⟨fun t ht => ⟨Nat.le_trans (hw t ht).1 (by decide), (hw t ht).2⟩, by omega, ?_⟩, fun t ht => ⟨Nat.le_trans (hw t ht).1 (by decide), (hw t ht).2⟩⟩
  have z1 := spl_cnt (tl sp) 40 (tl z) 0 []
  rw [← hm, List.count_nil, Nat.zero_add] at z1
  exact Nat.le_trans (count_le _) (Nat.le_trans z1 h.cnt)
/-! ### what join makes -/
theorem joinL_cnt {S : List Nat} {s : Nat} (hS : S.count s = 0) : ∀ ps : List (List Nat), (joinL S ps).count s = (ps.map (·.count s)).sum
  | [] => rfl
  | [p] => by
    show p.count s = _
    simp
  | p :: q :: r => by
    show (p ++ (S ++ joinL S (q :: r))).count s = _
    rw [List.count_append, List.count_append, hS, joinL_cnt hS (q :: r)]
    simp
/-- a list of words, how much it holds -/
structure Wok (ws : List Str) (N C : Nat) : Prop where
  len : (ws.map (·.length)).sum + ws.length ≤ N
  cnt : (ws.map fun w => (tl w).count 40).sum ≤ C
  ok : ∀ w ∈ ws, PyData.strOk w = true
theorem joinL_len {S : List Nat} : ∀ ps : List (List Nat), (joinL S ps).length ≤ (ps.map (·.length)).sum + ps.length * S.length
  | [] => Nat.zero_le _
  | [p] => by
    show p.length ≤ _
    simp
  | p :: q :: r => by
    have := joinL_len (S := S) (q :: r)
    show (p ++ (S ++ joinL S (q :: r))).length ≤ _
    rw [List.length_append, List.length_append, List.map_cons, List.sum_cons, List.length_cons, Nat.succ_mul]
    omega
theorem Wok.z {ws : List Str} {N C : Nat} (h : Wok ws N C) (hN : N ≤ 79000) (hC : C ≤ 58) : Zok (Txt.join sp ws) := by
  refine ⟨?_, ?_, ok_join (by decide +kernel) h.ok⟩
  · rw [join_eq, len_tl, tl_join]
    have z1 := joinL_len (S := tl sp) (ws.map tl)
    rw [List.map_map, List.length_map, show (tl sp).length = 1 from rfl, Nat.mul_one] at z1
    have e : (ws.map (List.length ∘ tl)) = ws.map (·.length) := List.map_congr_left fun w _ => (len_tl w).symm
    rw [e] at z1
    have := h.len
    omega
  · rw [join_eq, tl_join, joinL_cnt (by decide +kernel), List.map_map]
    exact Nat.le_trans h.cnt hC
end
end T95

set_option maxHeartbeats 2000000
namespace T95
open PySem PySem.Spec PyProof.Rows L2 T9
local macro_rules | `(tactic| walk_at "side") => `(tactic| first | assumption | omega | decide | rfl)
local macro_rules | `(tactic| walk_at "rd") => `(tactic| first
  | exact rd_D (by assumption) | exact rd_D0 (by assumption) rfl
  | exact rd_addI | exact rd_subI | exact rd_eqS | exact rd_eqI | exact rd_neS | exact rd_neI | exact rd_ltI | exact rd_leI | exact rd_gtI | exact rd_geI | exact rd_ltS
  | exact rd_inC | exact rd_ninC | exact rd_inT | exact rd_ninT | exact rd_ninTI
  | exact rd_ixT rfl | exact rd_ixL rfl | exact rd_ixL (by assumption) | exact rd_ixT (by assumption)
  | exact rd_mod (by walk_at "side") | exact rd_div ⟨by walk_at "side", by walk_at "side"⟩
  | exact rd_mulI (Or.inl ⟨by decide, by decide⟩) | exact rd_mulI (Or.inr ⟨by decide, by decide⟩) | exact rd_mulI (Or.inl ⟨by omega, by omega⟩)
  | exact rd_pow ⟨by decide, by decide, by decide⟩
  | exact rd_addS (by walk_at "side"))
local macro_rules | `(tactic| walk_at "ad") => `(tactic| first
  | exact ad_lenD (by assumption) | exact ad_lenM | exact ad_lenL | exact ad_lenT | exact ad_lenS (by walk_at "side") | exact ad_int | exact ad_intB | exact ad_tupleL | assumption)
local macro_rules | `(tactic| walk_at "ev") => `(tactic| first
  | exact ec_int | exact ec_str | exact ec_bl | exact ec_non
  | exact ec_var rfl | exact ec_varL rfl | exact es_var rfl | exact el_var rfl
  | assumption
  | exact ea_nil | (apply ea_cons; walk_at "ev"; walk_at "ev")
  | (apply ec_op; walk_at "ev"; walk_at "ev"; walk_at "rd")
  | (apply ec_un; walk_at "ev"; exact ud_neg)
  | (apply ec_cb; walk_at "ev"; walk_at "ad")
  | (apply ec_chain; walk_at "ev"; walk_at "ev"; walk_at "rd"; walk_at "ev"; walk_at "rd")
  | exact ecl_of (el_of (by assumption)) | exact el_of (by assumption)
  | (apply ec_call; walk_at "ev"; walk_at "call")
  | (apply ec_tup; walk_at "ev"; (simp; done))
  | (apply et_test; walk_at "ev") | (apply et_B; walk_at "ev") | (apply et_not; walk_at "ev")
  | (apply et_and; walk_at "ev"; (intro _; walk_at "ev")) | (apply et_or; walk_at "ev"; (intro _; walk_at "ev"))
  | (apply ec_and; walk_at "ev"; (intro _; walk_at "ev")) | (apply ec_or; walk_at "ev"; (intro _; walk_at "ev")) | (apply ec_not; walk_at "ev")
  | exact eo_none | (apply eo_some; walk_at "ev"))
local macro_rules | `(tactic| walk_at "call") => `(tactic| first
  | assumption | exact r_is_name (by walk_at "side") | exact r_is_path (by walk_at "side")
  | exact ⟨rfl, rfl⟩ | exact ⟨_, rfl, rfl⟩ | exact ⟨_, _, rfl, rfl⟩ | exact ⟨_, _, (by assumption), rfl, rfl⟩)
section
open TL
theorem Wok.mono {ws : List Str} {N C N' C' : Nat} (h : Wok ws N C) (h1 : N ≤ N') (h2 : C ≤ C') : Wok ws N' C' := ⟨Nat.le_trans h.len h1, Nat.le_trans h.cnt h2, h.ok⟩
theorem Wok.nil : Wok [] 0 0 := ⟨Nat.le_refl _, Nat.le_refl _, fun w hw => absurd hw List.not_mem_nil⟩
theorem Wok.cons {w : Str} {ws : List Str} {n c N C : Nat} (h1 : w.length ≤ n) (h2 : (tl w).count 40 ≤ c) (h3 : PyData.strOk w = true) (h : Wok ws N C) : Wok (w :: ws) (n + 1 + N) (c + C) := by
  refine ⟨?_, ?_, fun x hx => ?_⟩
  · have := h.len
    rw [List.map_cons, List.sum_cons, List.length_cons]
    omega
  · have := h.cnt
    rw [List.map_cons, List.sum_cons]
    omega
  · rcases List.mem_cons.mp hx with e | e
    · rw [e]
      exact h3
    · exact h.ok x e
theorem Wok.app : ∀ {as bs : List Str} {N C N' C' : Nat}, Wok as N C → Wok bs N' C' → Wok (as ++ bs) (N + N') (C + C') := fun {as bs N C N' C'} h g => by
  refine ⟨?_, ?_, fun x hx => (List.mem_append.mp hx).elim (h.ok x) (g.ok x)⟩
  · have := h.len
    have := g.len
    rw [List.map_append, List.sum_append, List.length_append]
    omega
  · have := h.cnt
    have := g.cnt
    rw [List.map_append, List.sum_append]
    omega
theorem strI_w {i : Int} (h : numOk i = true) : (strI i).length ≤ 31 ∧ (tl (strI i)).count 40 = 0 ∧ PyData.strOk (strI i) = true := by
  have hi := intW (strI_ok h).1
  refine ⟨hi.len, List.count_eq_zero.mpr fun hm => ?_, strOk_iff.mpr fun c hc => ?_⟩
  · have := hi.sign 40 hm
    omega
  · have := hi.sign c hc
    omega
theorem wok_num {i : Int} (h : numOk i = true) : Wok (wordsE (.num i)) 32 0 := by
  obtain ⟨h1, h2, h3⟩ := strI_w h
  exact .cons h1 (Nat.le_of_eq h2) h3 .nil
theorem wok_offs : ∀ {o : List Int}, (∀ x ∈ o, numOk x = true) → Wok (o.map strI) (32 * o.length) 0
  | [], _ => .nil
  | x :: o, h => by
    obtain ⟨h1, h2, h3⟩ := strI_w (h x (List.mem_cons_self ..))
    have z := Wok.cons h1 (Nat.le_of_eq h2) h3 (wok_offs fun y hy => h y (List.mem_cons_of_mem _ hy))
    refine z.mono ?_ (Nat.le_refl _)
    rw [List.length_cons]
    omega
theorem wok_par : Wok [(")" : Str)] 2 0 := .cons (w := ")") (by decide +kernel) (by decide +kernel) (by decide +kernel) .nil
theorem wok_head {k : Str} (h : k ∈ pairs ∨ k = "pick" ∨ k = "shift") {ws : List Str} {N C : Nat} (hw : Wok ws N C) : Wok (("(" : Str) :: k :: ws) (8 + N) (1 + C) := by
  have hk : k.length ≤ 5 ∧ (tl k).count 40 = 0 ∧ PyData.strOk k = true := by
    simp only [pairs, List.mem_cons, List.not_mem_nil, or_false] at h
    rcases h with (rfl | rfl | rfl | rfl | rfl | rfl) | rfl | rfl <;> decide +kernel
  have z := Wok.cons (w := "(") (n := 1) (c := 1) (by decide +kernel) (by decide +kernel) (by decide +kernel) (.cons hk.1 (Nat.le_of_eq hk.2.1) hk.2.2 hw)
  exact z.mono (by omega) (by omega)
theorem wok_two {k : Str} {a b : Exp} {N C N' C' : Nat} (h : k ∈ pairs) (ha : Wok (wordsE a) N C) (hb : Wok (wordsE b) N' C') : Wok (wordsE (.two k a b)) (10 + N + N') (1 + C + C') :=
  (wok_head (.inl h) (ha.app (hb.app wok_par))).mono (by omega) (by omega)
theorem wok_three {a b c : Exp} {N C N' C' N2 C2 : Nat} (ha : Wok (wordsE a) N C) (hb : Wok (wordsE b) N' C') (hc : Wok (wordsE c) N2 C2) : Wok (wordsE (.three "pick" a b c)) (10 + N + N' + N2) (1 + C + C' + C2) :=
  (wok_head (.inr (.inl rfl)) (ha.app (hb.app (hc.app wok_par)))).mono (by omega) (by omega)
theorem wok_shift {a : Exp} {o : List Int} {N C : Nat} (ha : Wok (wordsE a) N C) (ho : ∀ x ∈ o, numOk x = true) : Wok (wordsE (.shift a o)) (10 + N + 32 * o.length) (1 + C) :=
  (wok_head (.inr (.inr rfl)) (ha.app ((wok_offs ho).app wok_par))).mono (by omega) (by omega)
theorem kinds_pairs {k : Str} (h : k ∈ kinds) : k ∈ pairs := kinds_all (P := fun k => k ∈ pairs) (by decide +kernel) h
def bN : Nat → Nat | 0 => 40 | d + 1 => 3 * bN d + 120
def bC : Nat → Nat | 0 => 0 | d + 1 => 3 * bC d + 1
/-- what the law's expressions are like -/
structure Fine (e : Exp) (N C : Nat) : Prop where
  wok : Wok (wordsE e) N C
  valid : valid e = true
  kinds : KindsOk e
  good : Good e
theorem leaf_fine {w : Int} (hv : valid (leaf w) = true) : Fine (leaf w) 40 0 ∧ dep (leaf w) = 1 := by
  revert hv
  unfold leaf
  split
  · intro hv
    exact ⟨⟨(wok_num hv).mono (by decide) (Nat.le_refl _), hv, trivial, trivial⟩, rfl⟩
  · intro hv
    have hm := nth_mem (xs := (["a", "b", "b/c"] : List Str)) (i := w / 15 % 3) (d := "a") (by omega) (by show w / 15 % 3 < ((3 : Nat) : Int); omega)
    generalize nth (["a", "b", "b/c"] : List Str) (w / 15 % 3) "a" = x at hm hv
    simp only [List.mem_cons, List.not_mem_nil, or_false] at hm
    refine ⟨⟨?_, hv, trivial, ?_⟩, rfl⟩
    · show Wok [("@" ++ x : Str)] 40 0
      refine (Wok.cons (n := 39) (c := 0) ?_ ?_ ?_ .nil).mono (by decide) (Nat.le_refl _) <;> (rcases hm with rfl | rfl | rfl <;> decide +kernel)
    · show x.length ≤ 80000 ∧ PyData.strOk x = true
      rcases hm with rfl | rfl | rfl <;> decide +kernel
theorem expr_fine {D : List Int} {dm : Nat} (h : Dr D) (hm : dm ≤ 2) : ∀ (d : Nat) (a : Int), d ≤ 3 → 0 ≤ a → a ≤ bnd d → Fine (expr D dm d a) (bN d) (bC d) ∧ dep (expr D dm d a) ≤ d + 1
  | 0, a, _, h0, h1 => by
    obtain ⟨z1, z2⟩ := leaf_fine (leaf_ok h h0 h1)
    exact ⟨z1, by show dep (leaf (draw D a)) ≤ 1; rw [z2]; exact Nat.le_refl _⟩
  | d + 1, a, hd, h0, h1 => by
    have hv := valid_expr (dm := dm) h (d + 1) a hd h0 h1
    have hb : ∀ k : Int, 0 ≤ k → k ≤ 2 → 3 * a + 1 + k ≤ bnd d := fun k hk hk2 => by
      match d, hd with
      | 0, _ => simp only [bnd] at h1 ⊢; omega
      | 1, _ => simp only [bnd] at h1 ⊢; omega
      | 2, _ => simp only [bnd] at h1 ⊢; omega
    have ih : ∀ k : Int, 0 ≤ k → k ≤ 2 → Fine (expr D dm d (3 * a + 1 + k)) (bN d) (bC d) ∧ dep (expr D dm d (3 * a + 1 + k)) ≤ d + 1 := fun k hk hk2 => expr_fine h hm d _ (by omega) (by omega) (hb k hk hk2)
    revert hv
    unfold expr
    split
    · intro hv
      obtain ⟨z1, z2⟩ := leaf_fine hv
      exact ⟨⟨z1.wok.mono (by simp only [bN]; omega) (Nat.zero_le _), hv, z1.kinds, z1.good⟩, by rw [z2]; omega⟩
    · obtain ⟨a1, a2⟩ := ih 0 (by omega) (by omega)
      obtain ⟨b1, b2⟩ := ih 1 (by omega) (by omega)
      obtain ⟨c1, c2⟩ := ih 2 (by omega) (by omega)
      split
      · intro hv
        exact ⟨⟨(wok_three a1.wok b1.wok c1.wok).mono (by simp only [bN]; omega) (by simp only [bC]; omega), hv, ⟨rfl, a1.kinds, b1.kinds, c1.kinds⟩, ⟨by unfold Free; decide +kernel, a1.good, b1.good, c1.good⟩⟩, by simp only [dep]; omega⟩
      · split
        · intro hv
          have ho : ∀ x ∈ offs D dm a, numOk x = true := List.all_eq_true.mp (offs_ok h a)
          have hl : (offs D dm a).length = dm := by unfold offs; rw [List.length_map, List.length_range]
          exact ⟨⟨(wok_shift a1.wok ho).mono (by rw [hl]; simp only [bN]; omega) (by simp only [bC]; omega), hv, a1.kinds, ⟨a1.good, by rw [hl]; omega⟩⟩, by simp only [dep]; omega⟩
        · intro hv
          have hk := nth_mem (xs := kinds) (i := draw D a / 5 % 9) (d := "add") (by omega) (by show draw D a / 5 % 9 < ((7 : Nat) : Int); omega)
          exact ⟨⟨(wok_two (kinds_pairs hk) a1.wok b1.wok).mono (by simp only [bN]; omega) (by simp only [bC]; omega), hv, ⟨kinds_pairs hk, a1.kinds, b1.kinds⟩, ⟨(kinds_ok hk).2, a1.good, b1.good⟩⟩, by simp only [dep]; omega⟩
def e0 (D : List Int) : Exp := expr D (at_ D 1 % 3).toNat (at_ D 0 % 4).toNat 1
def goal (D : List Int) : Int := nth [0, 0, 0, 11, 12, 13] (at_ D 2 % 6) 0
def grow (D : List Int) (e : Exp) (k : Nat) : Exp :=
  if (dep e : Int) < goal D then (if at_ D (7 + (k : Int)) % 2 = 0 then .shift e [1] else .two "mul" e (.num (-(k : Int)))) else e
def gSt (D : List Int) (n : Nat) : Exp := (List.range n).foldl (grow D) (e0 D)
theorem gSt_succ (D : List Int) (n : Nat) : gSt D (n + 1) = grow D (gSt D n) n := by
  unfold gSt
  rw [List.range_succ, List.foldl_append]
  rfl
theorem gSt_fine {D : List Int} (h : Dr D) : ∀ n : Nat, n ≤ 13 → Fine (gSt D n) (2640 + 60 * n) (13 + n) ∧ dep (gSt D n) ≤ 4 + n
  | 0, _ => by
    have hd : (at_ D 0 % 4).toNat ≤ 3 := by omega
    have hm : (at_ D 1 % 3).toNat ≤ 2 := by omega
    have hb : (1 : Int) ≤ bnd (at_ D 0 % 4).toNat := by
      generalize (at_ D 0 % 4).toNat = d at hd
      match d, hd with
      | 0, _ => simp only [bnd]; omega
      | 1, _ => simp only [bnd]; omega
      | 2, _ => simp only [bnd]; omega
      | 3, _ => simp only [bnd]; omega
    obtain ⟨z1, z2⟩ := expr_fine h hm _ 1 hd (by decide) hb
    have hbn : bN (at_ D 0 % 4).toNat ≤ 2640 + 60 * 0 ∧ bC (at_ D 0 % 4).toNat ≤ 13 + 0 := by
      generalize (at_ D 0 % 4).toNat = d at hd
      match d, hd with
      | 0, _ => decide
      | 1, _ => decide
      | 2, _ => decide
      | 3, _ => decide
    exact ⟨⟨z1.wok.mono hbn.1 hbn.2, z1.valid, z1.kinds, z1.good⟩, by show dep (e0 D) ≤ 4 + 0; unfold e0; omega⟩
  | n + 1, hn => by
    obtain ⟨z1, z2⟩ := gSt_fine h n (by omega)
    rw [gSt_succ]
    unfold grow
    split
    · split
      · have h1 : ∀ x ∈ ([1] : List Int), numOk x = true := fun x hx => by
          rw [List.mem_singleton.mp hx]
          decide +kernel
        refine ⟨⟨(wok_shift z1.wok h1).mono (by show 10 + _ + 32 * 1 ≤ _; omega) (by omega), ?_, z1.kinds, ⟨z1.good, by decide⟩⟩, by simp only [dep]; omega⟩
        show (([1] : List Int).all numOk && (valid _ && true)) = true
        rw [z1.valid]
        decide +kernel
      · have hk : numOk (-(n : Int)) = true := by
          unfold numOk
          rw [decide_eq_true (by omega), decide_eq_true (by omega)]
          rfl
        refine ⟨⟨(wok_two (k := "mul") (by decide +kernel) z1.wok (wok_num hk)).mono (by omega) (by omega), ?_, ⟨by decide +kernel, z1.kinds, trivial⟩, ⟨by unfold Free; decide +kernel, z1.good, trivial⟩⟩, by simp only [dep]; omega⟩
        show (kindOk "mul" && (valid _ && (numOk _ && true))) = true
        rw [z1.valid, hk]
        decide +kernel
    · exact ⟨⟨z1.wok.mono (by omega) (by omega), z1.valid, z1.kinds, z1.good⟩, by omega⟩
end
end T95

set_option maxHeartbeats 2000000
namespace T95
open PySem PySem.Spec PyProof.Rows L2 T9
local macro_rules | `(tactic| walk_at "side") => `(tactic| first | assumption | omega | decide | rfl)
local macro_rules | `(tactic| walk_at "rd") => `(tactic| first
  | exact rd_D (by assumption) | exact rd_D0 (by assumption) rfl
  | exact rd_addI | exact rd_subI | exact rd_eqS | exact rd_eqI | exact rd_neS | exact rd_neI | exact rd_ltI | exact rd_leI | exact rd_gtI | exact rd_geI | exact rd_ltS
  | exact rd_inC | exact rd_ninC | exact rd_inT | exact rd_ninT | exact rd_ninTI
  | exact rd_ixT rfl | exact rd_ixL rfl | exact rd_ixL (by assumption) | exact rd_ixT (by assumption)
  | exact rd_mod (by walk_at "side") | exact rd_div ⟨by walk_at "side", by walk_at "side"⟩
  | exact rd_mulI (Or.inl ⟨by decide, by decide⟩) | exact rd_mulI (Or.inr ⟨by decide, by decide⟩) | exact rd_mulI (Or.inl ⟨by omega, by omega⟩)
  | exact rd_pow ⟨by decide, by decide, by decide⟩
  | exact rd_addS (by walk_at "side"))
local macro_rules | `(tactic| walk_at "ad") => `(tactic| first
  | exact ad_lenD (by assumption) | exact ad_lenM | exact ad_lenL | exact ad_lenT | exact ad_lenS (by walk_at "side") | exact ad_int | exact ad_intB | exact ad_tupleL | assumption)
local macro_rules | `(tactic| walk_at "ev") => `(tactic| first
  | exact ec_int | exact ec_str | exact ec_bl | exact ec_non
  | exact ec_var rfl | exact ec_varL rfl | exact es_var rfl | exact el_var rfl
  | assumption
  | exact ea_nil | (apply ea_cons; walk_at "ev"; walk_at "ev")
  | (apply ec_op; walk_at "ev"; walk_at "ev"; walk_at "rd")
  | (apply ec_un; walk_at "ev"; exact ud_neg)
  | (apply ec_cb; walk_at "ev"; walk_at "ad")
  | (apply ec_chain; walk_at "ev"; walk_at "ev"; walk_at "rd"; walk_at "ev"; walk_at "rd")
  | exact ecl_of (el_of (by assumption)) | exact el_of (by assumption)
  | (apply ec_call; walk_at "ev"; walk_at "call")
  | (apply ec_tup; walk_at "ev"; (simp; done))
  | (apply et_test; walk_at "ev") | (apply et_B; walk_at "ev") | (apply et_not; walk_at "ev")
  | (apply et_and; walk_at "ev"; (intro _; walk_at "ev")) | (apply et_or; walk_at "ev"; (intro _; walk_at "ev"))
  | (apply ec_and; walk_at "ev"; (intro _; walk_at "ev")) | (apply ec_or; walk_at "ev"; (intro _; walk_at "ev")) | (apply ec_not; walk_at "ev")
  | exact eo_none | (apply eo_some; walk_at "ev"))
local macro_rules | `(tactic| walk_at "call") => `(tactic| first
  | assumption | exact r_is_name (by walk_at "side") | exact r_is_path (by walk_at "side")
  | exact ⟨rfl, rfl⟩ | exact ⟨_, rfl, rfl⟩ | exact ⟨_, _, rfl, rfl⟩ | exact ⟨_, _, (by assumption), rfl, rfl⟩)
section
open TL
theorem Wok.sub {as ws : List Str} {N C : Nat} (h : Wok ws N C) (s : as.Sublist ws) : Wok as N C := by
  refine ⟨?_, ?_, fun x hx => h.ok x (s.subset hx)⟩
  · have h1 := h.len
    have h2 := s.length_le
    have h3 : (as.map (·.length)).sum ≤ (ws.map (·.length)).sum := by
      clear h h1 h2
      induction s with
      | slnil => exact Nat.le_refl _
      | cons a _ ih => rw [List.map_cons, List.sum_cons]; omega
      | cons_cons a _ ih => rw [List.map_cons, List.map_cons, List.sum_cons, List.sum_cons]; omega
    omega
  · have h1 := h.cnt
    have h3 : (as.map fun w => (tl w).count 40).sum ≤ (ws.map fun w => (tl w).count 40).sum := by
      clear h h1
      induction s with
      | slnil => exact Nat.le_refl _
      | cons a _ ih => rw [List.map_cons, List.sum_cons]; omega
      | cons_cons a _ ih => rw [List.map_cons, List.map_cons, List.sum_cons, List.sum_cons]; omega
    omega
theorem Wok.mid {ws mid : List Str} {N C N' C' i j : Nat} (h : Wok ws N C) (hm : Wok mid N' C') (hij : i ≤ j) : Wok (ws.take i ++ (mid ++ ws.drop j)) (N + N') (C + C') := by
  have s : (ws.take i ++ ws.drop j).Sublist ws := by
    have e := List.take_append_drop i ws
    conv => rhs; rw [← e]
    refine List.Sublist.append (List.Sublist.refl _) ?_
    rw [show j = i + (j - i) by omega, ← List.drop_drop]
    exact List.drop_sublist _ _
  have z := h.sub s
  refine ⟨?_, ?_, fun x hx => ?_⟩
  · have z1 := z.len
    have z2 := hm.len
    rw [List.map_append, List.sum_append, List.length_append] at z1
    rw [List.map_append, List.map_append, List.sum_append, List.sum_append, List.length_append, List.length_append]
    omega
  · have z1 := z.cnt
    have z2 := hm.cnt
    rw [List.map_append, List.sum_append] at z1
    rw [List.map_append, List.map_append, List.sum_append, List.sum_append]
    omega
  · rcases List.mem_append.mp hx with hx | hx
    · exact h.ok x (List.mem_of_mem_take hx)
    · rcases List.mem_append.mp hx with hx | hx
      · exact hm.ok x hx
      · exact h.ok x (List.mem_of_mem_drop hx)
def menu2 : List Str := ["(", ")", "add", "@a", "@", "@A", "7", "-0", "007", "", "shift", "pick", "Add", "-", repS "1" 31, repS "9" 30]
def menu4 : List Str := [")", "1", "@a", ""]
/-- the changed words -/
def mw (D : List Int) (ws : List Str) : List Str :=
  let i := (at_ D 3 % (ws.length : Int)).toNat
  let way := at_ D 4 % 8
  if way = 0 then ws.take i ++ ws.drop (i + 1)
  else if way = 1 then ws.take i ++ [ws.getD i ""] ++ ws.drop i
  else if way = 2 then ws.set i (nth menu2 (at_ D 5 % 16) "")
  else if way = 3 then ws.set i (ws.getD i "" ++ " ")
  else if way = 4 then ws ++ [nth menu4 (at_ D 5 % 4) ""]
  else ws
theorem menu_ok {w : Str} (h : w ∈ menu2 ∨ w ∈ menu4) : w.length ≤ 31 ∧ (tl w).count 40 ≤ 1 ∧ PyData.strOk w = true := by
  have h2 : ∀ w ∈ menu2, w.length ≤ 31 ∧ (tl w).count 40 ≤ 1 ∧ PyData.strOk w = true := by decide +kernel
  have h4 : ∀ w ∈ menu4, w.length ≤ 31 ∧ (tl w).count 40 ≤ 1 ∧ PyData.strOk w = true := by decide +kernel
  exact h.elim (h2 w) (h4 w)
theorem wok_get {ws : List Str} {N C i : Nat} (h : Wok ws N C) (hi : i < ws.length) : (ws.getD i "").length + 1 ≤ N ∧ (tl (ws.getD i "")).count 40 ≤ C ∧ PyData.strOk (ws.getD i "") = true := by
  have e : ws.getD i "" = ws[i] := by
    rw [List.getD_eq_getElem?_getD, List.getElem?_eq_getElem hi]
    rfl
  have s : [ws[i]].Sublist ws := List.singleton_sublist.mpr (List.getElem_mem hi)
  have z := h.sub s
  rw [e]
  have z1 := z.len
  have z2 := z.cnt
  simp only [List.map_cons, List.map_nil, List.sum_cons, List.sum_nil, List.length_singleton, Nat.add_zero] at z1 z2
  exact ⟨by omega, by omega, h.ok _ (List.getElem_mem hi)⟩
theorem mw_wok {D : List Int} {ws : List Str} {N C : Nat} (hD : Dr D) (h : Wok ws N C) (h0 : 0 < ws.length) : Wok (mw D ws) (N + N + 40) (C + C + 1) := by
  have h5 := at_lo hD 5
  have hi : (at_ D 3 % (ws.length : Int)).toNat < ws.length := by
    have : (0 : Int) < ws.length := by omega
    have h1 := Int.emod_nonneg (at_ D 3) (show (ws.length : Int) ≠ 0 by omega)
    have h2 := Int.emod_lt_of_pos (at_ D 3) this
    omega
  unfold mw
  dsimp only
  generalize (at_ D 3 % (ws.length : Int)).toNat = i at hi
  obtain ⟨g1, g2, g3⟩ := wok_get h hi
  split
  · exact ((h.mid .nil (Nat.le_succ i)).mono (by omega) (by omega))
  · split
    · rw [List.append_assoc]
      exact ((h.mid (.cons (n := N) (c := C) (by omega) g2 g3 .nil) (Nat.le_refl i)).mono (by omega) (by omega))
    · split
      · obtain ⟨m1, m2, m3⟩ := menu_ok (.inl (nth_mem (xs := menu2) (i := at_ D 5 % 16) (d := "") (by omega) (by show at_ D 5 % 16 < ((16 : Nat) : Int); omega)))
        rw [List.set_eq_take_append_cons_drop, if_pos hi]
        exact ((h.mid (.cons m1 m2 m3 .nil) (Nat.le_succ i)).mono (by omega) (by omega))
      · split
        · rw [List.set_eq_take_append_cons_drop, if_pos hi]
          refine ((h.mid (.cons (n := N) (c := C) (w := ws.getD i "" ++ " ") ?_ ?_ (ok_app g3 (by decide +kernel)) .nil) (Nat.le_succ i)).mono (by omega) (by omega))
          · rw [len_app, show ((" " : Str).length) = 1 from rfl]
            omega
          · rw [tl_append, List.count_append, show (tl (" " : Str)).count 40 = 0 by decide +kernel]
            omega
        · split
          · obtain ⟨m1, m2, m3⟩ := menu_ok (.inr (nth_mem (xs := menu4) (i := at_ D 5 % 4) (d := "") (by omega) (by show at_ D 5 % 4 < ((4 : Nat) : Int); omega)))
            exact ((h.app (.cons m1 m2 m3 .nil)).mono (by omega) (by omega))
          · exact h.mono (by omega) (by omega)
end
end T95

set_option maxHeartbeats 1000000
/-! the reader's methods keep their promises -/
namespace T95
open PySem PySem.Spec PyProof.Rows L2 T9
section
variable {P : Program} {w : World} {K : PySem.W.Frag} {mg : Str → Option Value} {base : Heap}
theorem C_read_integer (T : Tx K mg) (k : Nat) : Cl P w K mg base CX0 (k + 1) "read_integer" (spF K R_read_integer) := ok_read_integer T (spF_len fun _ _ ⟨_, _, e, _⟩ => by rw [e]; rfl) (run_pure rfl p_read_integer)
theorem M_step (T : Tx K mg) (k : Nat) : Me P w K mg base CX0 (k + 1) (CR K) "step" (spStep K) := ok_step T (fun vs H Q E ⟨_, _, _, _, _, e, _⟩ => by rw [e]; rfl) (r_step T)
theorem M_read_end (T : Tx K mg) (k : Nat) : Me P w K mg base (L2.CX P w) (k + 2) (CR K) "read_end" (spReadEnd K) := ok_read_end T (M_step T k) (fun vs H Q E ⟨_, _, _, _, _, e, _⟩ => by rw [e]; rfl) r_read_end
theorem M_offsets (T : Tx K mg) (k : Nat) : Me P w K mg base (L2.CX P w) (k + 2) (CR K) "read_offsets" (spOffsets K) := ok_read_offsets T (C_read_integer T k) (M_step T k) (fun vs H Q E ⟨_, _, _, _, _, e, _⟩ => by rw [e]; rfl) r_offsets
theorem no_read (T : Tx K mg) (CX : CXT) : Me P w K mg base CX 1 (CR K) "read" (fun _ _ _ _ => False) := by
  obtain ⟨fd, F⟩ := T.f_read
  exact ⟨_, fd, ["self", "level"], T.m_read, FunD.bindsN F fun _ _ _ _ _ _ us hl => match us, hl with | [_, _], _ => rfl, F.ok sc_read (fun _ _ _ _ h => h.elim) fun _ _ _ _ _ _ _ _ _ h => h.elim⟩
theorem no_parts (T : Tx K mg) (CX : CXT) : Me P w K mg base CX 1 (CR K) "read_parts" (fun _ _ _ _ => False) := by
  obtain ⟨fd, F⟩ := T.f_read_parts
  exact ⟨_, fd, ["self", "count", "level"], T.m_read_parts, FunD.bindsN F fun _ _ _ _ _ _ us hl => match us, hl with | [_, _, _], _ => rfl, F.ok sc_read_parts (fun _ _ _ _ h => h.elim) fun _ _ _ _ _ _ _ _ _ h => h.elim⟩
theorem M_read (T : Tx K mg) : ∀ f : Nat, f ≤ 12 → Me P w K mg base (L2.CX P w) (2 * f + 3) (CR K) "read" (spRead K f)
  | 0, _ => ok_read T (C_read_integer T 1) (M_read_end T 0) ((no_parts T _).mono (by decide)) (M_offsets T 0) ((no_read T _).mono (by decide)) (M_step T 1) (fun vs H Q E ⟨_, _, _, _, _, e, _⟩ => by rw [e]; rfl) r_read0
  | f + 1, hf => by
    have r := M_read T f (by omega)
    have p : Me P w K mg base (L2.CX P w) (2 * f + 4) (CR K) "read_parts" (spParts K f) := ok_read_parts T r (fun vs H Q E ⟨_, _, _, _, _, _, e, _⟩ => by rw [e]; rfl) (r_parts_ f)
    exact ok_read (k := 2 * f + 4) T (C_read_integer T (2 * f + 3)) (M_read_end T (2 * f + 2)) p (M_offsets T (2 * f + 2)) (r.mono (by omega)) (M_step T (2 * f + 3)) (fun vs H Q E ⟨_, _, _, _, _, e, _⟩ => by rw [e]; rfl) (r_read T hf)
theorem MK_reader (T : Tx K mg) (k : Nat) : Mi P w K mg base CX0 (k + 1) (CR K) (spInit K) := ok___init__ T (fun vs H Q E ⟨_, _, _, e, _⟩ => by rw [e]; rfl) (r_init T)
theorem C_parse (T : Tx K mg) (hE : Cl P w K mg base CX0 50 "is_expression" (spF K R_is_expression)) : Cl P w K mg base (L2.CX P w) 51 "parse_expression" (spParse K) :=
  ok_parse_expression (k := 49) T hE ((M_read T 12 (by decide)).mono (by decide)) (MK_reader T 48) (fun vs H Q E ⟨_, e, _⟩ => by rw [e]; rfl) (r_parse T)
end
end T95

set_option maxHeartbeats 1000000
/-! the other defs keep their promises -/
namespace T95
open PySem PySem.Spec PyProof.Rows L2 T9
section
variable {P : Program} {w : World} {K : PySem.W.Frag} {mg : Str → Option Value} {base : Heap}
theorem C_is_name (T : Tx K mg) (k : Nat) : Cl P w K mg base CX0 (k + 1) "is_name" (spF K R_is_name) := ok_is_name T (spF_len fun _ _ ⟨_, _, e, _⟩ => by rw [e]; rfl) (run_pure rfl p_is_name)
theorem C_is_path (T : Tx K mg) (k : Nat) : Cl P w K mg base CX0 (k + 2) "is_path" (spF K R_is_path) := ok_is_path T (C_is_name T k) (spF_len fun _ _ ⟨_, _, e, _⟩ => by rw [e]; rfl) (run_pure rfl p_is_path)
theorem C_parts (T : Tx K mg) (k : Nat) : Cl P w K mg base CX0 (k + 1) "parts_of" (spF K R_parts) := ok_parts_of T (spF_len fun _ _ ⟨_, _, e, _⟩ => by rw [e]; rfl) (run_pure rfl p_parts_of)
theorem C_lparts (T : Tx K mg) (k : Nat) : Cl P w K mg base CX0 (k + 1) "_law_parts" (spF K R_parts) := ok__law_parts T (spF_len fun _ _ ⟨_, _, e, _⟩ => by rw [e]; rfl) (run_pure rfl p_law_parts)
theorem C_is_integer (T : Tx K mg) (k : Nat) : Cl P w K mg base CX0 (k + 1) "is_integer" (spF K R_is_integer) := ok_is_integer T (spF_len fun _ _ ⟨_, e, _⟩ => by rw [e]; rfl) (run_pure rfl p_is_integer)
theorem no_depth {vs : List V} {H : Hp} {Q : VK} {E : XK} (h : spF K (R_depth 0) vs H Q E) : False := by
  obtain ⟨ds, r, ⟨e, _, hn, _⟩, _⟩ := h
  have := dep_pos e
  omega
theorem no_valid {vs : List V} {H : Hp} {Q : VK} {E : XK} (h : spF K (R_has_valid_names 0) vs H Q E) : False := by
  obtain ⟨ds, r, ⟨e, _, hn, _⟩, _⟩ := h
  have := dep_pos e
  omega
theorem no_words {vs : List V} {H : Hp} {Q : VK} {E : XK} (h : spF K (R_words 0) vs H Q E) : False := by
  obtain ⟨ds, r, ⟨e, _, _, hn, _⟩, _⟩ := h
  have := dep_pos e
  omega
theorem no_expr {vs : List V} {H : Hp} {Q : VK} {E : XK} (h : spF K (R_expr 0) vs H Q E) : False := by
  obtain ⟨ds, r, ⟨D, a, d, dm, _, hn, _⟩, _⟩ := h
  omega
theorem C_depth (T : Tx K mg) : ∀ n : Nat, Cl P w K mg base CX0 (n + 1) "depth" (spF K (R_depth n))
  | 0 => by
    obtain ⟨fd, F⟩ := T.f_depth
    exact ⟨_, fd, ["expression"], T.g_depth, F.kp, FunD.bindsN F fun _ _ _ _ _ _ us hl => match us, hl with | [_], _ => rfl, F.ok sc_depth (fun _ _ _ _ h => (no_depth h).elim) fun _ _ _ _ _ _ _ _ _ h => (no_depth h).elim⟩
  | n + 1 => ok_depth T (C_parts T n) (C_depth T n) (spF_len fun _ _ ⟨_, _, _, e, _⟩ => by rw [e]; rfl) (run_pure rfl (p_depth n))
theorem C_ldepth (T : Tx K mg) : ∀ n : Nat, Cl P w K mg base CX0 (n + 1) "_law_depth" (spF K (R_depth n))
  | 0 => by
    obtain ⟨fd, F⟩ := T.f__law_depth
    exact ⟨_, fd, ["_law_expression_here"], T.g__law_depth, F.kp, FunD.bindsN F fun _ _ _ _ _ _ us hl => match us, hl with | [_], _ => rfl, F.ok sc__law_depth (fun _ _ _ _ h => (no_depth h).elim) fun _ _ _ _ _ _ _ _ _ h => (no_depth h).elim⟩
  | n + 1 => ok__law_depth T (C_lparts T n) (C_ldepth T n) (spF_len fun _ _ ⟨_, _, _, e, _⟩ => by rw [e]; rfl) (run_pure rfl (p_law_depth n))
theorem C_valid (T : Tx K mg) : ∀ n : Nat, Cl P w K mg base CX0 (n + 2) "has_valid_names" (spF K (R_has_valid_names n))
  | 0 => by
    obtain ⟨fd, F⟩ := T.f_has_valid_names
    exact ⟨_, fd, ["expression"], T.g_has_valid_names, F.kp, FunD.bindsN F fun _ _ _ _ _ _ us hl => match us, hl with | [_], _ => rfl, F.ok sc_has_valid_names (fun _ _ _ _ h => (no_valid h).elim) fun _ _ _ _ _ _ _ _ _ h => (no_valid h).elim⟩
  | n + 1 => ok_has_valid_names T (C_parts T (n + 1)) (C_valid T n) (C_is_integer T (n + 1)) (C_is_path T n) (spF_len fun _ _ ⟨_, _, _, e, _⟩ => by rw [e]; rfl) (run_pure rfl (p_has_valid_names n T))
theorem C_expr (T : Tx K mg) : ∀ n : Nat, Cl P w K mg base CX0 (n + 1) "_law_expression" (spF K (R_expr n))
  | 0 => by
    obtain ⟨fd, F⟩ := T.f__law_expression
    exact ⟨_, fd, ["_law_draws_here", "_law_at", "_law_deep", "_law_dimensions"], T.g__law_expression, F.kp, FunD.bindsN F fun _ _ _ _ _ _ us hl => match us, hl with | [_, _, _, _], _ => rfl, F.ok sc__law_expression (fun _ _ _ _ h => (no_expr h).elim) fun _ _ _ _ _ _ _ _ _ h => (no_expr h).elim⟩
  | n + 1 => ok__law_expression T (C_expr T n) (spF_len fun _ _ ⟨_, _, _, _, _, _, _, e, _⟩ => by rw [e]; rfl) (run_pure rfl (p_law_expression n))
theorem C_is_expression (T : Tx K mg) : Cl P w K mg base CX0 50 "is_expression" (spF K R_is_expression) := (ok_is_expression T (C_valid T 40) ((C_depth T 40).mono (by decide)) (spF_len fun _ _ ⟨_, _, _, e, _⟩ => by rw [e]; rfl) (run_pure rfl p_is_expression) : Cl P w K mg base CX0 43 "is_expression" (spF K R_is_expression)).mono (by decide)
theorem C_words (T : Tx K mg) : ∀ n : Nat, Cl P w K mg base CX0 (n + 1) "expression_words" (spF K (R_words n))
  | 0 => by
    obtain ⟨fd, F⟩ := T.f_expression_words
    exact ⟨_, fd, ["expression"], T.g_expression_words, F.kp, FunD.bindsN F fun _ _ _ _ _ _ us hl => match us, hl with | [_], _ => rfl, F.ok sc_expression_words (fun _ _ _ _ h => (no_words h).elim) fun _ _ _ _ _ _ _ _ _ h => (no_words h).elim⟩
  | n + 1 => ok_expression_words T (C_parts T n) (C_words T n) (spF_len fun _ _ ⟨_, _, _, _, _, e, _⟩ => by rw [e]; rfl) (run_pure rfl (p_expression_words n))
theorem C_lwords (T : Tx K mg) : ∀ n : Nat, Cl P w K mg base CX0 (n + 1) "_law_words" (spF K (R_words n))
  | 0 => by
    obtain ⟨fd, F⟩ := T.f__law_words
    exact ⟨_, fd, ["_law_expression_here"], T.g__law_words, F.kp, FunD.bindsN F fun _ _ _ _ _ _ us hl => match us, hl with | [_], _ => rfl, F.ok sc__law_words (fun _ _ _ _ h => (no_words h).elim) fun _ _ _ _ _ _ _ _ _ h => (no_words h).elim⟩
  | n + 1 => ok__law_words T (C_lparts T n) (C_lwords T n) (spF_len fun _ _ ⟨_, _, _, _, _, e, _⟩ => by rw [e]; rfl) (run_pure rfl (p_law_words n))
end
end T95

set_option maxHeartbeats 1000000
/-! the law's helpers keep their promises -/
namespace T95
open PySem PySem.Spec PyProof.Rows L2 T9
section
variable {P : Program} {w : World} {K : PySem.W.Frag} {mg : Str → Option Value} {base : Heap}
theorem C_letters (T : Tx K mg) : Cl P w K mg base CX0 1 "_law_letters" (spF K R_letters) := ok__law_letters T (spF_len fun _ _ ⟨e, _⟩ => by rw [e]; rfl) (run_pure rfl p_law_letters)
theorem C_ndue (T : Tx K mg) : Cl P w K mg base CX0 2 "_law_is_name_due" (spF K R_is_name) := ok__law_is_name_due T (C_letters T) (spF_len fun _ _ ⟨_, _, e, _⟩ => by rw [e]; rfl) (run_pure rfl p_law_is_name_due)
theorem C_pdue (T : Tx K mg) : Cl P w K mg base CX0 3 "_law_is_path_due" (spF K R_is_path) := ok__law_is_path_due T (C_ndue T) (spF_len fun _ _ ⟨_, _, e, _⟩ => by rw [e]; rfl) (run_pure rfl p_law_is_path_due)
theorem C_iword (T : Tx K mg) : Cl P w K mg base CX0 3 "_law_integer_word" (spF K R_integer_word) := ok__law_integer_word T (spF_len fun _ _ ⟨_, _, e, _⟩ => by rw [e]; rfl) (run_pure rfl p_integer_word)
theorem C_atom (T : Tx K mg) : Cl P w K mg base CX0 4 "_law_atom" (spF K R_atom) := ok__law_atom T (C_iword T) (C_pdue T) (spF_len fun _ _ ⟨_, _, e, _⟩ => by rw [e]; rfl) (run_pure rfl p_law_atom)
theorem C_grouped (T : Tx K mg) : Cl P w K mg base CX0 5 "_law_grouped" (spF K R_grouped) := ok__law_grouped T (C_atom T) (spF_len fun _ _ ⟨_, _, _, e, _⟩ => by rw [e]; rfl) (run_pure rfl p_law_grouped)
theorem C_parsed (T : Tx K mg) : Cl P w K mg base CX0 6 "_law_parsed" (spF K R_parsed) := ok__law_parsed T ((C_atom T).mono (by decide)) (C_grouped T) (spF_len fun _ _ ⟨_, _, e, _⟩ => by rw [e]; rfl) (run_pure rfl p_law_parsed)
theorem C_stream (T : Tx K mg) : Cl P w K mg base CX0 2 "_law_stream" (spF K R_stream) := ok__law_stream T (ok__law_draws T (spF_len fun _ _ ⟨_, e, _⟩ => by rw [e]; rfl) (run_pure rfl p_law_draws)) (ok__law_cell T (spF_len fun _ _ ⟨_, _, e, _⟩ => by rw [e]; rfl) (run_pure rfl p_law_cell)) (spF_len fun _ _ ⟨_, e, _⟩ => by rw [e]; rfl) (run_pure rfl p_law_stream)
theorem C_is_text (T : Tx K mg) : Cl P w K mg base CX0 1 "_law_is_text" (spF K R_is_text) := ok__law_is_text T (spF_len fun _ _ ⟨_, _, e, _⟩ => by rw [e]; rfl) (run_pure rfl p_law_is_text)
theorem C_format (T : Tx K mg) : Cl P w K mg base CX0 42 "format_expression" (spF K R_format) := ok_format_expression T (C_words T 40) (spF_len fun _ _ ⟨_, _, _, _, _, _, e, _⟩ => by rw [e]; rfl) (run_pure rfl p_format)
end
end T95

set_option maxHeartbeats 2000000
namespace T95
open PySem PySem.Spec PyProof.Rows L2 T9
local macro_rules | `(tactic| walk_at "side") => `(tactic| first | assumption | omega | decide | rfl)
local macro_rules | `(tactic| walk_at "rd") => `(tactic| first
  | exact rd_D (by assumption) | exact rd_D0 (by assumption) rfl
  | exact rd_addI | exact rd_subI | exact rd_eqS | exact rd_eqI | exact rd_neS | exact rd_neI | exact rd_ltI | exact rd_leI | exact rd_gtI | exact rd_geI | exact rd_ltS
  | exact rd_inC | exact rd_ninC | exact rd_inT | exact rd_ninT | exact rd_ninTI
  | exact rd_ixT rfl | exact rd_ixL rfl | exact rd_ixL (by assumption) | exact rd_ixT (by assumption)
  | exact rd_mod (by walk_at "side") | exact rd_div ⟨by walk_at "side", by walk_at "side"⟩
  | exact rd_mulI (Or.inl ⟨by decide, by decide⟩) | exact rd_mulI (Or.inr ⟨by decide, by decide⟩) | exact rd_mulI (Or.inl ⟨by omega, by omega⟩)
  | exact rd_pow ⟨by decide, by decide, by decide⟩
  | exact rd_addS (by walk_at "side"))
local macro_rules | `(tactic| walk_at "ad") => `(tactic| first
  | exact ad_lenD (by assumption) | exact ad_lenM | exact ad_lenL | exact ad_lenT | exact ad_lenS (by walk_at "side") | exact ad_int | exact ad_intB | exact ad_tupleL | assumption)
local macro_rules | `(tactic| walk_at "ev") => `(tactic| first
  | exact ec_int | exact ec_str | exact ec_bl | exact ec_non
  | exact ec_var rfl | exact ec_varL rfl | exact es_var rfl | exact el_var rfl
  | assumption
  | exact ea_nil | (apply ea_cons; walk_at "ev"; walk_at "ev")
  | (apply ec_op; walk_at "ev"; walk_at "ev"; walk_at "rd")
  | (apply ec_un; walk_at "ev"; exact ud_neg)
  | (apply ec_cb; walk_at "ev"; walk_at "ad")
  | (apply ec_chain; walk_at "ev"; walk_at "ev"; walk_at "rd"; walk_at "ev"; walk_at "rd")
  | exact ecl_of (el_of (by assumption)) | exact el_of (by assumption)
  | (apply ec_call; walk_at "ev"; walk_at "call")
  | (apply ec_tup; walk_at "ev"; (simp; done))
  | (apply et_test; walk_at "ev") | (apply et_B; walk_at "ev") | (apply et_not; walk_at "ev")
  | (apply et_and; walk_at "ev"; (intro _; walk_at "ev")) | (apply et_or; walk_at "ev"; (intro _; walk_at "ev"))
  | (apply ec_and; walk_at "ev"; (intro _; walk_at "ev")) | (apply ec_or; walk_at "ev"; (intro _; walk_at "ev")) | (apply ec_not; walk_at "ev")
  | exact eo_none | (apply eo_some; walk_at "ev"))
local macro_rules | `(tactic| walk_at "call") => `(tactic| first
  | assumption | exact r_is_name (by walk_at "side") | exact r_is_path (by walk_at "side")
  | exact ⟨rfl, rfl⟩ | exact ⟨_, rfl, rfl⟩ | exact ⟨_, _, rfl, rfl⟩ | exact ⟨_, _, (by assumption), rfl, rfl⟩)
section
open TL
mutual
theorem eqv_imm : ∀ d : PyData, imm d = true → PyData.eqv d d = true
  | .none, _ => rfl
  | .bool b, _ => by simp [PyData.eqv]
  | .int i, _ => by simp [PyData.eqv]
  | .str x, _ => by simp [PyData.eqv]
  | .list _, h => by cases h
  | .dict _, h => by cases h
  | .tuple ds, h => by
    rw [PyData.eqv]
    exact eqv_immAll ds h
theorem eqv_immAll : ∀ ds : List PyData, immAll ds = true → PyData.eqvAll ds ds = true
  | [], _ => by rw [PyData.eqvAll]
  | d :: ds, h => by
    obtain ⟨h1, h2⟩ := Bool.and_eq_true_iff.mp h
    rw [PyData.eqvAll, eqv_imm d h1, eqv_immAll ds h2]
    rfl
end
/-! ### no blank in a word -/
theorem spl_keep {s c : Nat} (hc : c ≠ s) : ∀ (x acc : List Nat), c ∈ acc ∨ c ∈ x → ∃ p ∈ spl [s] 0 acc x, c ∈ p
  | [], acc, h => by
    rw [spl_nil]
    rcases h with h | h
    · exact ⟨acc, List.mem_singleton.mpr rfl, h⟩
    · exact absurd h List.not_mem_nil
  | d :: r, acc, h => by
    cases hp : pre [s] (d :: r) with
    | true =>
      have hd : d = s := by
        by_cases e : d = s
        · exact e
        · rw [pre_of_head [] r e] at hp
          cases hp
      rw [spl_hit hp]
      rcases h with h | h
      · exact ⟨acc, List.mem_cons_self .., h⟩
      · rcases List.mem_cons.mp h with e | h
        · exact absurd (e.trans hd) hc
        · obtain ⟨p, h1, h2⟩ := spl_keep hc r [] (.inr h)
          exact ⟨p, List.mem_cons_of_mem _ h1, h2⟩
    | false =>
      rw [spl_miss hp]
      refine spl_keep hc r _ ?_
      rcases h with h | h
      · exact .inl (List.mem_append_left _ h)
      · rcases List.mem_cons.mp h with e | h
        · exact .inl (List.mem_append_right _ (List.mem_singleton.mpr e))
        · exact .inr h
theorem name_nosp {z : Str} (h : nameOk z = true) : (32 : Nat) ∉ tl z := fun hm => by
  unfold nameOk at h
  rw [Bool.and_eq_true] at h
  have z := List.all_eq_true.mp h.2 32 hm
  revert z
  decide +kernel
theorem path_nosp {p : Str} (h : pathOk p = true) : (32 : Nat) ∉ tl p := fun hm => by
  unfold pathOk at h
  rw [Bool.or_eq_true] at h
  rcases h with h | h
  · rw [of_decide_eq_true h] at hm
    exact absurd hm (by decide +kernel)
  · rw [Bool.and_eq_true] at h
    have e : (Txt.split p slash).map tl = spl [47] 0 [] (tl p) := split_spl p slash (by decide +kernel) (kind_ok (by decide +kernel))
    obtain ⟨q, h1, h2⟩ := spl_keep (s := 47) (c := 32) (by decide) (tl p) [] (.inr hm)
    rw [← e] at h1
    obtain ⟨y, h3, rfl⟩ := List.mem_map.mp h1
    exact name_nosp (List.all_eq_true.mp h.2 y h3) h2
theorem int_nosp {w : Str} (h : intWord w = true) : (32 : Nat) ∉ tl w := fun hm => by
  have := (intW h).sign 32 hm
  omega
theorem pairs_nosp {k : Str} (h : k ∈ pairs) : (32 : Nat) ∉ tl k := by
  simp only [pairs, List.mem_cons, List.not_mem_nil, or_false] at h
  rcases h with rfl | rfl | rfl | rfl | rfl | rfl <;> decide +kernel
theorem words_nosp : ∀ {e : Exp}, valid e = true → KindsOk e → ∀ w ∈ wordsE e, (32 : Nat) ∉ tl w
  | .path p, h, _, w, hw => by
    rw [List.mem_singleton.mp hw, tl_append]
    intro hm
    rcases List.mem_append.mp hm with hm | hm
    · exact absurd hm (by decide +kernel)
    · exact path_nosp h hm
  | .num n, h, _, w, hw => by
    rw [List.mem_singleton.mp hw]
    exact int_nosp (strI_ok (i := n) h).1
  | .two k a b, h, hk, w, hw => by
    have h' : (kindOk k && (valid a && (valid b && true))) = true := h
    rw [Bool.and_eq_true, Bool.and_eq_true, Bool.and_eq_true] at h'
    simp only [wordsE, List.mem_cons, List.mem_append, List.not_mem_nil, or_false] at hw
    rcases hw with rfl | rfl | hw | hw | rfl
    · decide +kernel
    · exact pairs_nosp hk.1
    · exact words_nosp h'.2.1 hk.2.1 w hw
    · exact words_nosp h'.2.2.1 hk.2.2 w hw
    · decide +kernel
  | .three k a b c, h, hk, w, hw => by
    have h' : (kindOk k && (valid a && (valid b && (valid c && true)))) = true := h
    rw [Bool.and_eq_true, Bool.and_eq_true, Bool.and_eq_true, Bool.and_eq_true] at h'
    obtain ⟨rfl, k1, k2, k3⟩ := hk
    simp only [wordsE, List.mem_cons, List.mem_append, List.not_mem_nil, or_false] at hw
    rcases hw with rfl | rfl | hw | hw | hw | rfl
    · decide +kernel
    · decide +kernel
    · exact words_nosp h'.2.1 k1 w hw
    · exact words_nosp h'.2.2.1 k2 w hw
    · exact words_nosp h'.2.2.2.1 k3 w hw
    · decide +kernel
  | .shift a o, h, hk, w, hw => by
    have h' : (o.all numOk && (valid a && true)) = true := h
    rw [Bool.and_eq_true, Bool.and_eq_true] at h'
    have ho : ∀ x ∈ o, numOk x = true := List.all_eq_true.mp h'.1
    simp only [wordsE, List.mem_cons, List.mem_append, List.not_mem_nil, or_false] at hw
    rcases hw with rfl | rfl | hw | hw | rfl
    · decide +kernel
    · decide +kernel
    · exact words_nosp h'.2.1 hk w hw
    · obtain ⟨x, hx, rfl⟩ := List.mem_map.mp hw
      exact int_nosp (strI_ok (ho x hx)).1
    · decide +kernel
theorem words_back {e : Exp} (h : valid e = true) (hk : KindsOk e) : Txt.split (Txt.join " " (wordsE e)) " " = wordsE e := by
  have hne : wordsE e ≠ [] := by cases e <;> simp [wordsE]
  exact split_join (y := " ") (s := 32) (S := []) (by decide +kernel) (by decide +kernel) hne (words_nosp h hk)
theorem words_parse {e : Exp} (h : valid e = true) (hk : KindsOk e) (hd : dep e ≤ 12) : parse (Txt.split (Txt.join " " (wordsE e)) " ") = some e := by
  rw [words_back h hk]
  have z := words_der h hk
  exact parse_iff.mpr ⟨z, by rw [← der_valid z]; exact h, hd⟩
theorem shaped_enc {e : Exp} {us : List Str} (h : Der us e) (hw : ∀ w ∈ us, PyData.strOk w = true) (hd : dep e ≤ 60) : SeqAt.shaped (enc e) = true := by
  obtain ⟨h1, h2⟩ := der_sh h hw
  show ((enc e).canLay0 && decide ((enc e).depth ≤ 64)) = true
  rw [h1, decide_eq_true (by omega)]
  rfl
end
end T95

set_option maxHeartbeats 2000000
namespace T95
open PySem PySem.Spec PyProof.Rows L2 T9
local macro_rules | `(tactic| walk_at "side") => `(tactic| first | assumption | omega | decide | rfl)
local macro_rules | `(tactic| walk_at "rd") => `(tactic| first
  | exact rd_D (by assumption) | exact rd_D0 (by assumption) rfl
  | exact rd_addI | exact rd_subI | exact rd_eqS | exact rd_eqI | exact rd_neS | exact rd_neI | exact rd_ltI | exact rd_leI | exact rd_gtI | exact rd_geI | exact rd_ltS
  | exact rd_inC | exact rd_ninC | exact rd_inT | exact rd_ninT | exact rd_ninTI
  | exact rd_ixT rfl | exact rd_ixL rfl | exact rd_ixL (by assumption) | exact rd_ixT (by assumption)
  | exact rd_mod (by walk_at "side") | exact rd_div ⟨by walk_at "side", by walk_at "side"⟩
  | exact rd_mulI (Or.inl ⟨by decide, by decide⟩) | exact rd_mulI (Or.inr ⟨by decide, by decide⟩) | exact rd_mulI (Or.inl ⟨by omega, by omega⟩)
  | exact rd_pow ⟨by decide, by decide, by decide⟩
  | exact rd_addS (by walk_at "side"))
local macro_rules | `(tactic| walk_at "ad") => `(tactic| first
  | exact ad_lenD (by assumption) | exact ad_lenM | exact ad_lenL | exact ad_lenT | exact ad_lenS (by walk_at "side") | exact ad_int | exact ad_intB | exact ad_tupleL | assumption)
local macro_rules | `(tactic| walk_at "ev") => `(tactic| first
  | exact ec_int | exact ec_str | exact ec_bl | exact ec_non
  | exact ec_var rfl | exact ec_varL rfl | exact es_var rfl | exact el_var rfl
  | assumption
  | exact ea_nil | (apply ea_cons; walk_at "ev"; walk_at "ev")
  | (apply ec_op; walk_at "ev"; walk_at "ev"; walk_at "rd")
  | (apply ec_un; walk_at "ev"; exact ud_neg)
  | (apply ec_cb; walk_at "ev"; walk_at "ad")
  | (apply ec_chain; walk_at "ev"; walk_at "ev"; walk_at "rd"; walk_at "ev"; walk_at "rd")
  | exact ecl_of (el_of (by assumption)) | exact el_of (by assumption)
  | (apply ec_call; walk_at "ev"; walk_at "call")
  | (apply ec_tup; walk_at "ev"; (simp; done))
  | (apply et_test; walk_at "ev") | (apply et_B; walk_at "ev") | (apply et_not; walk_at "ev")
  | (apply et_and; walk_at "ev"; (intro _; walk_at "ev")) | (apply et_or; walk_at "ev"; (intro _; walk_at "ev"))
  | (apply ec_and; walk_at "ev"; (intro _; walk_at "ev")) | (apply ec_or; walk_at "ev"; (intro _; walk_at "ev")) | (apply ec_not; walk_at "ev")
  | exact eo_none | (apply eo_some; walk_at "ev"))
local macro_rules | `(tactic| walk_at "call") => `(tactic| first
  | assumption | exact r_is_name (by walk_at "side") | exact r_is_path (by walk_at "side")
  | exact ⟨rfl, rfl⟩ | exact ⟨_, rfl, rfl⟩ | exact ⟨_, _, rfl, rfl⟩ | exact ⟨_, _, (by assumption), rfl, rfl⟩)
section
open TL
variable {K : PySem.W.Frag} {mg : Str → Option Value}
abbrev tChange (K : PySem.W.Frag) : TS := (tIfS (tTest (tOp (rEqU K) (tVar 9) (tC (.int 0)))) (tAsg (tOp (rAddU K) (tSl (rSlU K) (tVar 5) tNoPart (tPart (tVar 8))) (tSl (rSlU K) (tVar 5) (tPart (tOp (rAddU K) (tVar 8) (tC (.int 1)))) tNoPart)) (gName 5)) (tIfS (tTest (tOp (rEqU K) (tVar 9) (tC (.int 1)))) (tAsg (tOp (rAddU K) (tOp (rAddU K) (tSl (rSlU K) (tVar 5) tNoPart (tPart (tVar 8))) (tLst (tCons (tOp (rIx K) (tVar 5) (tVar 8)) tNil))) (tSl (rSlU K) (tVar 5) (tPart (tVar 8)) tNoPart)) (gName 5)) (tIfS (tTest (tOp (rEqU K) (tVar 9) (tC (.int 2)))) (tAsg (tOp (rIx K) (tLst (tCons (tC (.str "(")) (tCons (tC (.str ")")) (tCons (tC (.str "add")) (tCons (tC (.str "@a")) (tCons (tC (.str "@")) (tCons (tC (.str "@A")) (tCons (tC (.str "7")) (tCons (tC (.str "-0")) (tCons (tC (.str "007")) (tCons (tC (.str "")) (tCons (tC (.str "shift")) (tCons (tC (.str "pick")) (tCons (tC (.str "Add")) (tCons (tC (.str "-")) (tCons (tOp rMulS (tC (.str "1")) (tC (.int 31))) (tCons (tOp rMulS (tC (.str "9")) (tC (.int 30))) tNil))))))))))))))))) (tOp rModU (tOp (rIx K) (tVar 1) (tC (.int 5))) (tC (.int 16)))) (gSub (tVar 5) (tVar 8) rSetL)) (tIfS (tTest (tOp (rEqU K) (tVar 9) (tC (.int 3)))) (tAsg (tOp (rAddU K) (tOp (rIx K) (tVar 5) (tVar 8)) (tC (.str " "))) (gSub (tVar 5) (tVar 8) rSetL)) (tIfS (tTest (tOp (rEqU K) (tVar 9) (tC (.int 4)))) (tAsg (tOp (rAddU K) (tVar 5) (tLst (tCons (tOp (rIx K) (tLst (tCons (tC (.str ")")) (tCons (tC (.str "1")) (tCons (tC (.str "@a")) (tCons (tC (.str "")) tNil))))) (tOp rModU (tOp (rIx K) (tVar 1) (tC (.int 5))) (tC (.int 4)))) tNil))) (gName 5)) tNext)))))
theorem p_change {D : List Int} {ws : List Str} {fs : Fm} {a b : Addr} {i : Nat} {P : Po} (hD : Dr D) (hi : at_ D 3 % (ws.length : Int) = (i : Int)) (hil : i < ws.length) (hl : ws.length ≤ 20000) (hw : ∀ w ∈ ws, w.length ≤ 90000)
    (f1 : fs[1]? = some (some (.ob a (.lst (D.map .int))))) (f5 : fs[5]? = some (some (.ob b (.lst (ws.map .str))))) (f8 : fs[8]? = some (some (.im (.int i)))) (f9 : fs[9]? = some (some (.im (.int (at_ D 4 % 8))))) (h5 : 5 < fs.length)
    (k : ∀ c, P.nx (fs.set 5 (some (.ob c (.lst ((mw D ws).map .str)))))) : StF K (tChange K) fs P := by
  have h5' := at_lo hD 5
  have hm : mw D ws = (if at_ D 4 % 8 = 0 then ws.take i ++ ws.drop (i + 1)
    else if at_ D 4 % 8 = 1 then ws.take i ++ [ws.getD i ""] ++ ws.drop i
    else if at_ D 4 % 8 = 2 then ws.set i (nth menu2 (at_ D 5 % 16) "")
    else if at_ D 4 % 8 = 3 then ws.set i (ws.getD i "" ++ " ")
    else if at_ D 4 % 8 = 4 then ws ++ [nth menu4 (at_ D 5 % 4) ""]
    else ws) := by
    unfold mw
    rw [hi]
    rfl
  have hmem : ws.getD i "" ∈ ws := by
    rw [List.getD_eq_getElem?_getD, List.getElem?_eq_getElem hil]
    exact List.getElem_mem hil
  have cell : EvC K fs (tOp (rIx K) (tVar 5) (tVar 8)) (.str (ws.getD i "")) := ec_op (ec_varL f5) (ec_var f8) (rd_M (f := PyData.str) (xs := ws) (i := (i : Int)) "" (by omega) (by omega))
  have up : EvN K fs (tSl (rSlU K) (tVar 5) tNoPart (tPart (tVar 8))) (.lst ((ws.take i).map .str)) := en_lst (en_slL (ec_varL f5) eo_none (eo_some (ec_var f8)) (immAll_strs _)) (by rw [cut_take, List.map_take])
  have e1 : (i : Int) + 1 = ((i + 1 : Nat) : Int) := by omega
  have dn1 : EvN K fs (tSl (rSlU K) (tVar 5) (tPart (tOp (rAddU K) (tVar 8) (tC (.int 1)))) tNoPart) (.lst ((ws.drop (i + 1)).map .str)) := en_lst (en_slL (ec_varL f5) (eo_some (ec_op (ec_var f8) ec_int rd_addI)) eo_none (immAll_strs _)) (by rw [e1, cut_drop, List.map_drop])
  have dn : EvN K fs (tSl (rSlU K) (tVar 5) (tPart (tVar 8)) tNoPart) (.lst ((ws.drop i).map .str)) := en_lst (en_slL (ec_varL f5) (eo_some (ec_var f8)) eo_none (immAll_strs _)) (by rw [cut_drop, List.map_drop])
  have hix : ixN (ws.map PyData.str).length (i : Int) = some i := by
    unfold ixN
    rw [if_pos (by omega), if_pos (by rw [List.length_map]; omega)]
    simp
  have ltk : (ws.take i).length ≤ 20000 := Nat.le_trans (List.length_take_le' _ _) hl
  have ldr : ∀ j, (ws.drop j).length ≤ 20000 := fun j => by rw [List.length_drop]; omega
  generalize at_ D 4 % 8 = way at hm f9
  refine sf_if (b := decide (way = 0)) (et_test (ec_op (ec_var f9) ec_int rd_eqI)) (fun e => ?_) fun e => ?_
  · rw [if_pos (of_decide_eq_true e)] at hm
    refine sf_asgN (en_lst (en_addL (el_of up) (el_of dn1) (by rw [← List.map_append]; exact immAll_strs _) (by have := ldr (i + 1); rw [List.length_map, List.length_map]; omega)) ?_) h5 k
    rw [hm]
    simp only [List.map_append]
  rw [if_neg (of_decide_eq_false e)] at hm
  refine sf_if (b := decide (way = 1)) (et_test (ec_op (ec_var f9) ec_int rd_eqI)) (fun e => ?_) fun e => ?_
  · rw [if_pos (of_decide_eq_true e)] at hm
    have one : EvN K fs (tLst (tCons (tOp (rIx K) (tVar 5) (tVar 8)) tNil)) (.lst ([ws.getD i ""].map .str)) := en_lstD (ea_cons cell ea_nil) (by simp) (immAll_strs _)
    have two := en_addL (el_of up) (el_of one) (by rw [← List.map_append]; exact immAll_strs _) (by rw [List.length_map, List.length_map, List.length_singleton]; omega)
    rw [← List.map_append] at two
    refine sf_asgN (en_lst (en_addL (el_of two) (el_of dn) (by rw [← List.map_append]; exact immAll_strs _) (by have := ldr i; rw [List.length_map, List.length_map, List.length_append, List.length_singleton]; omega)) ?_) h5 k
    rw [hm]
    simp only [List.map_append]
  rw [if_neg (of_decide_eq_false e)] at hm
  refine sf_if (b := decide (way = 2)) (et_test (ec_op (ec_var f9) ec_int rd_eqI)) (fun e => ?_) fun e => ?_
  · rw [if_pos (of_decide_eq_true e)] at hm
    have hmenu : EvC K fs (tLst (tCons (tC (.str "(")) (tCons (tC (.str ")")) (tCons (tC (.str "add")) (tCons (tC (.str "@a")) (tCons (tC (.str "@")) (tCons (tC (.str "@A")) (tCons (tC (.str "7")) (tCons (tC (.str "-0")) (tCons (tC (.str "007")) (tCons (tC (.str "")) (tCons (tC (.str "shift")) (tCons (tC (.str "pick")) (tCons (tC (.str "Add")) (tCons (tC (.str "-")) (tCons (tOp rMulS (tC (.str "1")) (tC (.int 31))) (tCons (tOp rMulS (tC (.str "9")) (tC (.int 30))) tNil))))))))))))))))) (.list (menu2.map .str)) := by
      refine ec_lst ?_ (by simp [menu2])
      refine ea_cons ec_str (ea_cons ec_str (ea_cons ec_str (ea_cons ec_str (ea_cons ec_str (ea_cons ec_str (ea_cons ec_str (ea_cons ec_str (ea_cons ec_str (ea_cons ec_str (ea_cons ec_str (ea_cons ec_str (ea_cons ec_str (ea_cons ec_str (ea_cons ?_ (ea_cons ?_ ea_nil)))))))))))))))
      · exact ec_op ec_str ec_int (rd_mulS rfl (by decide) (by decide) (by decide +kernel))
      · exact ec_op ec_str ec_int (rd_mulS rfl (by decide) (by decide) (by decide +kernel))
    have hx : EvC K fs (tOp (rIx K) (tVar 1) (tC (.int 5))) (.int (at_ D 5)) := ec_op (ec_varL f1) ec_int (rd_D0 hD rfl)
    refine sf_setitem f5 (d := .str (nth menu2 (at_ D 5 % 16) "")) (ec_op hmenu (ec_op hx ec_int (rd_mod (by decide))) (rd_M (f := PyData.str) (xs := menu2) "" (by omega) (by show at_ D 5 % 16 < ((16 : Nat) : Int); omega))) rfl (ec_var f8) hix ?_
    have z := k b
    rwa [hm, List.map_set] at z
  rw [if_neg (of_decide_eq_false e)] at hm
  refine sf_if (b := decide (way = 3)) (et_test (ec_op (ec_var f9) ec_int rd_eqI)) (fun e => ?_) fun e => ?_
  · rw [if_pos (of_decide_eq_true e)] at hm
    refine sf_setitem f5 (d := .str (ws.getD i "" ++ " ")) (ec_op cell ec_str (rd_addS (by have := hw _ hmem; rw [show ((" " : Str).length) = 1 from rfl]; omega))) rfl (ec_var f8) hix ?_
    have z := k b
    rwa [hm, List.map_set] at z
  rw [if_neg (of_decide_eq_false e)] at hm
  refine sf_if (b := decide (way = 4)) (et_test (ec_op (ec_var f9) ec_int rd_eqI)) (fun e => ?_) fun e => ?_
  · rw [if_pos (of_decide_eq_true e)] at hm
    have hx : EvC K fs (tOp (rIx K) (tVar 1) (tC (.int 5))) (.int (at_ D 5)) := ec_op (ec_varL f1) ec_int (rd_D0 hD rfl)
    have hmenu : EvC K fs (tLst (tCons (tC (.str ")")) (tCons (tC (.str "1")) (tCons (tC (.str "@a")) (tCons (tC (.str "")) tNil))))) (.list (menu4.map .str)) := ec_lst (ea_cons ec_str (ea_cons ec_str (ea_cons ec_str (ea_cons ec_str ea_nil)))) (by simp [menu4])
    have one := en_lstD (as := [nth menu4 (at_ D 5 % 4) ""].map PyData.str) (ea_cons (ec_op hmenu (ec_op hx ec_int (rd_mod (by decide))) (rd_M (f := PyData.str) (xs := menu4) (i := at_ D 5 % 4) "" (by omega) (by show at_ D 5 % 4 < ((4 : Nat) : Int); omega))) ea_nil) (by simp) (immAll_strs _)
    refine sf_asgN (en_lst (en_addL (el_var f5) (el_of one) (by rw [← List.map_append]; exact immAll_strs _) (by rw [List.length_map, List.length_map, List.length_singleton]; omega)) ?_) h5 k
    rw [hm]
    simp only [List.map_append]
  rw [if_neg (of_decide_eq_false e)] at hm
  refine sf_next ?_
  have z := k b
  rw [hm] at z
  have e : fs.set 5 (some (.ob b (.lst (ws.map .str)))) = fs := by
    refine List.ext_getElem? fun j => ?_
    rw [List.getElem?_set]
    split
    · rename_i hj
      subst hj
      exact f5.symm
    · rfl
  rwa [e] at z
end
end T95

set_option maxHeartbeats 2000000
namespace T95
open PySem PySem.Spec PyProof.Rows L2 T9
local macro_rules | `(tactic| walk_at "side") => `(tactic| first | assumption | omega | decide | rfl)
local macro_rules | `(tactic| walk_at "rd") => `(tactic| first
  | exact rd_D (by assumption) | exact rd_D0 (by assumption) rfl
  | exact rd_addI | exact rd_subI | exact rd_eqS | exact rd_eqI | exact rd_neS | exact rd_neI | exact rd_ltI | exact rd_leI | exact rd_gtI | exact rd_geI | exact rd_ltS
  | exact rd_inC | exact rd_ninC | exact rd_inT | exact rd_ninT | exact rd_ninTI
  | exact rd_ixT rfl | exact rd_ixL rfl | exact rd_ixL (by assumption) | exact rd_ixT (by assumption)
  | exact rd_mod (by walk_at "side") | exact rd_div ⟨by walk_at "side", by walk_at "side"⟩
  | exact rd_mulI (Or.inl ⟨by decide, by decide⟩) | exact rd_mulI (Or.inr ⟨by decide, by decide⟩) | exact rd_mulI (Or.inl ⟨by omega, by omega⟩)
  | exact rd_pow ⟨by decide, by decide, by decide⟩
  | exact rd_addS (by walk_at "side"))
local macro_rules | `(tactic| walk_at "ad") => `(tactic| first
  | exact ad_lenD (by assumption) | exact ad_lenM | exact ad_lenL | exact ad_lenT | exact ad_lenS (by walk_at "side") | exact ad_int | exact ad_intB | exact ad_tupleL | assumption)
local macro_rules | `(tactic| walk_at "ev") => `(tactic| first
  | exact ec_int | exact ec_str | exact ec_bl | exact ec_non
  | exact ec_var rfl | exact ec_varL rfl | exact es_var rfl | exact el_var rfl
  | assumption
  | exact ea_nil | (apply ea_cons; walk_at "ev"; walk_at "ev")
  | (apply ec_op; walk_at "ev"; walk_at "ev"; walk_at "rd")
  | (apply ec_un; walk_at "ev"; exact ud_neg)
  | (apply ec_cb; walk_at "ev"; walk_at "ad")
  | (apply ec_chain; walk_at "ev"; walk_at "ev"; walk_at "rd"; walk_at "ev"; walk_at "rd")
  | exact ecl_of (el_of (by assumption)) | exact el_of (by assumption)
  | (apply ec_call; walk_at "ev"; walk_at "call")
  | (apply ec_tup; walk_at "ev"; (simp; done))
  | (apply et_test; walk_at "ev") | (apply et_B; walk_at "ev") | (apply et_not; walk_at "ev")
  | (apply et_and; walk_at "ev"; (intro _; walk_at "ev")) | (apply et_or; walk_at "ev"; (intro _; walk_at "ev"))
  | (apply ec_and; walk_at "ev"; (intro _; walk_at "ev")) | (apply ec_or; walk_at "ev"; (intro _; walk_at "ev")) | (apply ec_not; walk_at "ev")
  | exact eo_none | (apply eo_some; walk_at "ev"))
local macro_rules | `(tactic| walk_at "call") => `(tactic| first
  | assumption | exact r_is_name (by walk_at "side") | exact r_is_path (by walk_at "side")
  | exact ⟨rfl, rfl⟩ | exact ⟨_, rfl, rfl⟩ | exact ⟨_, _, rfl, rfl⟩ | exact ⟨_, _, (by assumption), rfl, rfl⟩)
section
variable {K : PySem.W.Frag} {mg : Str → Option Value}
def R_law : RR := fun ds r => ∃ sc : List Int, ds = [lints sc] ∧ r = .d (.bool true)
theorem ec_parse {fs : Fm} {t : TA} {z : Str} {e : Exp} (h : EvA K fs t [.str z]) (hz : Zok z) (hp : parse (Txt.split z sp) = some e) : EvC K fs (tCall (spParse K) [] E0 t) (enc e) := fun B H0 H σ F Q q =>
  h B H0 H σ F _ fun vs H1 e1 hv => by
    cases hv with
    | cons h1 h2 =>
      cases h2
      cases dp_str h1
      obtain ⟨t1, t2⟩ := split_tsok hz
      exact ⟨z, rfl, Nat.le_trans hz.len (by decide), t1.len, t2, fun hn => (by rw [show parse (Txt.split z " ") = some e from hp] at hn; cases hn), fun e2 he v H' ee hd => by
        rw [show parse (Txt.split z " ") = some e from hp] at he
        cases he
        exact q v H' (e1.trans ee) hd⟩
theorem p_law (T : Tx K mg) : ∀ ds r, R_law ds r → StF K (t_law K (spParse K) (spF K (R_depth 60)) (spF K R_parsed) (spF K R_is_text) (spF K R_format) (spF K (R_words 40)) (spF K (R_expr 4)) (spF K R_stream)) (startF 13 ds) (Po0 r) := by
  rintro ds r ⟨sc, rfl, rfl⟩
  refine sq_asgN (o := .lst ((draws sc).map .int)) (en_call (R := R_stream) (ea_cons (ec_var rfl) (ea_cons ec_int ea_nil)) ⟨sc, rfl, rfl⟩ (immAll_ints _)) fun a => ?_
  have hD := draws_ok sc
  generalize draws sc = D at hD
  have h0 := at_lo hD 0
  have h1 := at_lo hD 1
  have h2 := at_lo hD 2
  refine sq_asg (d := enc (e0 D)) (es_of (ec_call (R := R_expr 4) (as := [lints D, .int 1, .int ((at_ D 0 % 4).toNat : Nat), .int ((at_ D 1 % 3).toNat : Nat)]) (ea_cons (ec_varL rfl) (ea_cons ec_int (ea_cons (ec_eq (c := .int ((at_ D 0 % 4).toNat : Nat)) (d := .int (at_ D 0 % 4)) (by walk_at "ev") (congrArg PyData.int (by omega))) (ea_cons (ec_eq (c := .int ((at_ D 1 % 3).toNat : Nat)) (d := .int (at_ D 1 % 3)) (by walk_at "ev") (congrArg PyData.int (by omega))) ea_nil)))) ⟨D, 1, (at_ D 0 % 4).toNat, (at_ D 1 % 3).toNat, hD, by omega, by omega, rfl, rfl⟩) (imm_enc _)) ?_
  refine sq_asg (d := .int (goal D)) (es_of (ec_op (ec_lst (as := ([0, 0, 0, 11, 12, 13] : List Int).map .int) ?_ (by simp)) (b := .int (at_ D 2 % 6)) (by walk_at "ev") (rd_M (xs := ([0, 0, 0, 11, 12, 13] : List Int)) (i := at_ D 2 % 6) 0 (by omega) (by show at_ D 2 % 6 < ((6 : Nat) : Int); omega))) rfl) ?_
  · exact ea_cons ec_int (ea_cons ec_int (ea_cons ec_int (ea_cons ec_int (ea_cons ec_int (ea_cons ec_int ea_nil)))))
  refine sf_seq (M := fun f => Le f [some (.im (lints sc)), some (.ob a (.lst (D.map .int))), some (.im (enc (gSt D 13))), some (.im (.int (goal D))), none, none, none, none, none, none, none, none, none])
    (sf_for (fun i f => Le f [some (.im (lints sc)), some (.ob a (.lst (D.map .int))), some (.im (enc (gSt D i))), some (.im (.int (goal D))), none, none, none, none, none, none, none, none, none])
      (ei_rng (n := 13) (ea_cons ec_int ea_nil) rfl (by decide) (by decide)) (Le.refl _) (fun i d f hd hf => ?_) fun f hf => ?_) fun f hf => sf_le ?_ hf
  · obtain ⟨hi, rfl⟩ := range_at hd
    refine ⟨_, put_le hf (lt_rfl rfl) rfl, sf_le ?_ (hf.set 4 _)⟩
    obtain ⟨g1, g2⟩ := gSt_fine hD i (by omega)
    have hstep := gSt_succ D i
    unfold grow at hstep
    refine sf_if (b := decide ((dep (gSt D i) : Int) < goal D)) (et_test (ec_op (ec_call (R := R_depth 60) (ea_cons (ec_var rfl) ea_nil) (r_depth g1.good (by omega))) (ec_var rfl) rd_ltI)) (fun e => ?_) fun e => ?_
    · rw [if_pos (of_decide_eq_true e)] at hstep
      refine sf_asg (d := enc (gSt D (i + 1))) (es_of (ec_if (b := decide (at_ D (7 + (i : Int)) % 2 = 0)) ?_ (fun e2 => ?_) fun e2 => ?_) (imm_enc _)) (lt_rfl rfl) (.cons (.cons (.cons (.cons (.drop (.cons (.cons (.cons (.cons (.cons (.cons (.cons (.cons .nil)))))))))))))
      · refine et_test (ec_op (ec_op (ec_op (ec_varL rfl) (b := .int (7 + (i : Int))) (ec_op ec_int (ec_var rfl) rd_addI) (rd_D0 hD (by omega))) ec_int (rd_mod (by decide))) ec_int rd_eqI)
      · rw [hstep, if_pos (of_decide_eq_true e2)]
        exact ec_tup (as := [.str "shift", enc (gSt D i), .tuple [.int 1]]) (ea_cons ec_str (ea_cons (ec_var rfl) (ea_cons (ec_tup (ea_cons ec_int ea_nil) (by simp)) ea_nil))) (by simp)
      · rw [hstep, if_neg (of_decide_eq_false e2)]
        exact ec_tup (as := [.str "mul", enc (gSt D i), .tuple [.str "number", .int (-(i : Int))]]) (ea_cons ec_str (ea_cons (ec_var rfl) (ea_cons (ec_tup (ea_cons ec_str (ea_cons (ec_un (ec_var rfl) ud_neg) ea_nil)) (by simp)) ea_nil))) (by simp)
    · rw [if_neg (of_decide_eq_false e)] at hstep
      refine sf_next ?_
      show Le _ [some (.im (lints sc)), some (.ob a (.lst (D.map .int))), some (.im (enc (gSt D (i + 1)))), some (.im (.int (goal D))), none, none, none, none, none, none, none, none, none]
      rw [hstep]
      exact .cons (.cons (.cons (.cons (.drop (.cons (.cons (.cons (.cons (.cons (.cons (.cons (.cons .nil))))))))))))
  · rw [List.length_map, List.length_range] at hf
    exact hf
  obtain ⟨hF, hdp⟩ := gSt_fine hD 13 (by decide)
  generalize gSt D 13 = e at hF hdp
  have hwl := hF.wok.len
  have hne : 0 < (wordsE e).length := by cases e <;> simp [wordsE]
  refine sq_asgN (o := .lst ((wordsE e).map .str)) (en_call (R := R_words 40) (ea_cons (ec_var rfl) ea_nil) (r_words hF.good hF.valid (by omega) (by omega)) (immAll_strs _)) fun b => ?_
  refine sq_asg (d := .int (dep e)) (es_of (ec_call (R := R_depth 60) (ea_cons (ec_var rfl) ea_nil) (r_depth hF.good (by omega))) rfl) ?_
  refine sq_asg (d := .str (Txt.join " " (wordsE e))) (es_of (ec_join ec_str (ec_varL rfl) (by rw [show ((" " : Str).length) = 1 from rfl]; omega)) rfl) ?_
  have hder := words_der hF.valid hF.kinds
  have hz : Zok (Txt.join " " (wordsE e)) := (hF.wok).z (by omega) (by omega)
  have hsh : SeqAt.shaped (enc e) = true := shaped_enc hder hF.wok.ok (by omega)
  refine sq_retF (et_eq (et_and (b := false) (et_test (ec_op (ec_var rfl) ec_int rd_leI)) fun hle => et_eq (et_or (b := false) (et_not (et_B (ec_call (R := R_is_text) (ea_cons (ec_call (R := R_format) (ea_cons (ec_var rfl) ea_nil) ⟨e, hF.good, hF.valid, by omega, by omega, by omega, rfl, rfl⟩) (ea_cons (ec_var rfl) ea_nil)) ⟨_, _, rfl, rfl⟩))) fun _ => et_eq (et_test (ec_op (ec_parse (ea_cons (ec_var rfl) ea_nil) hz (words_parse hF.valid hF.kinds (by have := of_decide_eq_true hle; omega))) (ec_var rfl) (rd_neD hsh hsh))) (by rw [eqv_imm _ (imm_enc e)]; rfl)) (by rw [decide_eq_true rfl]; rfl)) (Bool.and_false _)) ?_
  have h3 := at_lo hD 3
  have h4 := at_lo hD 4
  refine sq_asg (d := .int (at_ D 3 % ((wordsE e).length : Int))) (es_of (ec_op (ec_op (ec_varL rfl) ec_int (rd_D0 hD rfl)) (ec_cb (ea_cons (ec_varL rfl) ea_nil) ad_lenM) (rd_mod (by omega))) rfl) ?_
  refine sq_asg (d := .int (at_ D 4 % 8)) (es_of (ec_op (ec_op (ec_varL rfl) ec_int (rd_D0 hD rfl)) ec_int (rd_mod (by decide))) rfl) ?_
  have hmw := mw_wok hD hF.wok hne
  have hz2 : Zok (Txt.join sp (mw D (wordsE e))) := hmw.z (by omega) (by omega)
  have hml := hmw.len
  obtain ⟨i, hi⟩ : ∃ i : Nat, at_ D 3 % ((wordsE e).length : Int) = (i : Int) := Int.eq_ofNat_of_zero_le (Int.emod_nonneg _ (by omega))
  have hil : i < (wordsE e).length := by
    have := Int.emod_lt_of_pos (at_ D 3) (show (0 : Int) < ((wordsE e).length : Int) by omega)
    omega
  have hwl2 : ∀ w ∈ wordsE e, w.length ≤ 90000 := fun w hw => by
    obtain ⟨j, hj, rfl⟩ := List.getElem_of_mem hw
    have z := (wok_get hF.wok hj).1
    rw [List.getD_eq_getElem?_getD, List.getElem?_eq_getElem hj] at z
    exact Nat.le_trans (Nat.le_of_succ_le z) (by decide)
  generalize hWS : wordsE e = ws at *
  rw [hi]
  refine sf_seq (M := fun f => ∃ c, f = [some (.im (lints sc)), some (.ob a (.lst (D.map .int))), some (.im (enc e)), some (.im (.int (goal D))), none, some (.ob c (.lst ((mw D ws).map .str))), some (.im (.int (dep e))), some (.im (.str (Txt.join " " ws))), some (.im (.int i)), some (.im (.int (at_ D 4 % 8))), none, none, none])
    (p_change (a := a) (b := b) hD hi hil (by omega) hwl2 rfl rfl rfl rfl (lt_rfl rfl) fun c => ⟨c, rfl⟩) fun f hf => ?_
  obtain ⟨c, rfl⟩ := hf
  generalize hze : Txt.join sp (mw D ws) = z2 at hz2
  generalize mw D ws = mws at hml hze
  have hj : ∀ fs : Fm, fs[5]? = some (some (.ob c (.lst (mws.map .str)))) → EvC K fs (tM1 (rJoinU K) (tC (.str " ")) (tVar 5)) (.str z2) := fun fs h5 => by
    have z : EvC K fs (tM1 (rJoinU K) (tC (.str " ")) (tVar 5)) (.str (Txt.join " " mws)) := ec_join ec_str (ec_varL h5) (by rw [show ((" " : Str).length) = 1 from rfl]; omega)
    exact ec_eq z (congrArg PyData.str hze)
  obtain ⟨t1, t2⟩ := split_tsok hz2
  have hsp : ∀ fs : Fm, fs[5]? = some (some (.ob c (.lst (mws.map .str)))) → EvN K fs (tM1 rSplitU (tM1 (rJoinU K) (tC (.str " ")) (tVar 5)) (tC (.str " "))) (.lst ((Txt.split z2 sp).map .str)) := fun fs h5 => en_split (hj fs h5) ec_str rfl (Nat.le_trans hz2.len (by decide))
  have hpp : parse (Txt.split z2 " ") = due (Txt.split z2 sp) := parse_due _
  have hspe : Txt.split z2 " " = Txt.split z2 sp := rfl
  generalize Txt.split z2 sp = ts at *
  refine sq_asg (d := encO (due0 ts)) (es_of (ec_call (R := R_parsed) (ea_cons (ecl_of (el_of (hsp _ rfl))) ea_nil) ⟨ts, t1, rfl, rfl⟩) (imm_encO _)) ?_
  have hder2 : ∀ e', due0 ts = some e' → Good e' ∧ dep e' ≤ 59 := fun e' he => by
    obtain ⟨d1, d2⟩ := due0_iff.mp he
    have := der_dep d1
    have := t1.cnt
    exact ⟨der_good d1 t2 (Nat.le_trans t1.len (by decide)), by omega⟩
  refine sq_when (b := match due0 ts with | some e' => decide ((12 : Int) < dep e') | none => false) (gs := [some (.im (lints sc)), some (.ob a (.lst (D.map .int))), some (.im (enc e)), some (.im (.int (goal D))), none, some (.ob c (.lst (mws.map .str))), some (.im (.int (dep e))), some (.im (.str (Txt.join " " ws))), some (.im (.int i)), some (.im (.int (at_ D 4 % 8))), some (.im (encO (due ts))), none, none]) ?_ ?_ ?_ ?_
  · cases hd : due0 ts with
    | none => exact et_eq (et_and (a := false) (b := false) (et_test (ec_eq (ec_notN (ec_var rfl)) rfl)) fun h => nomatch h) rfl
    | some e' =>
      obtain ⟨g1, g2⟩ := hder2 e' hd
      refine et_eq (et_and (a := true) (et_test (ec_eq (ec_notN (ec_var rfl)) (by cases e' <;> rfl))) fun _ => et_test (ec_op (ec_call (R := R_depth 60) (ea_cons (ec_var rfl) ea_nil) (r_depth g1 (by omega))) ec_int rd_gtI)) (Bool.true_and _)
  · intro hb
    have hdue : due ts = none := by
      unfold due
      cases hd : due0 ts with
      | none => rfl
      | some e' =>
        rw [hd] at hb
        exact if_pos (of_decide_eq_true hb)
    refine sf_asg (es_of ec_non rfl) (lt_rfl rfl) ?_
    rw [hdue]
    exact Le.refl _
  · intro hb
    have hdue : due ts = due0 ts := by
      unfold due
      cases hd : due0 ts with
      | none => rfl
      | some e' =>
        rw [hd] at hb
        exact if_neg (of_decide_eq_false hb)
    rw [hdue]
    exact Le.refl _
  refine sf_seq (M := fun f => ∃ e', due ts = some e' ∧ f = [some (.im (lints sc)), some (.ob a (.lst (D.map .int))), some (.im (enc e)), some (.im (.int (goal D))), none, some (.ob c (.lst (mws.map .str))), some (.im (.int (dep e))), some (.im (.str (Txt.join " " ws))), some (.im (.int i)), some (.im (.int (at_ D 4 % 8))), some (.im (encO (due ts))), some (.im (enc e')), none]) ?_ fun f hf => ?_
  · intro B H0 H σ DD F n r bk ct
    unfold tTryAs tAsg tCallS
    dsimp only
    refine (ea_cons (hj _ rfl) ea_nil) B H0 H σ F _ fun vs H1 e1 hv => ?_
    cases hv with
    | cons v1 v2 =>
      cases v2
      cases dp_str v1
      refine ⟨z2, rfl, Nat.le_trans hz2.len (by decide), by rw [hspe]; exact t1.len, by rw [hspe]; exact t2, fun hn H2 ee => ?_, fun e' he v H2 ee hd => ?_⟩
      · have hdue : due ts = none := hpp.symm.trans hn
        refine ⟨true, T.m_InvalidExpression, fun _ p hp => ?_, fun e => nomatch e⟩
        have F2 := F.set (i := 12) (v := .ref p) (s := .raw (.ref p)) (e1.trans ee) (lt_rfl rfl) rfl (fun _ _ q => nomatch q)
        obtain ⟨u, hu, hu2⟩ := F2.at_ 12 (.raw (.ref p)) rfl
        have hu3 : u = .ref p := hu2
        subst hu3
        refine (ec_isN (d := encO (due ts)) (ec_var rfl)) B H0 H2 _ F2 _ fun v H3 e3 hv3 => ?_
        cases dp_bl hv3
        refine ⟨_, rfl, ?_⟩
        rw [if_pos (by rw [hdue]; rfl)]
        refine ⟨⟨rfl, rfl⟩, hu, true, rfl, ?_⟩
        rw [if_pos rfl]
        refine ⟨⟨rfl, rfl⟩, hu, false, rfl, ?_⟩
        exact r (.im (.bool true)) _ H3 rfl (F2.ex.trans e3) ⟨.bl true, .inl rfl⟩
      · have hdue : due ts = some e' := hpp.symm.trans he
        exact n _ _ _ ⟨e', hdue, rfl⟩ (F.setD (i := 11) (e1.trans ee) (lt_rfl rfl) ⟨hd, .inl (imm_enc _)⟩)
  · obtain ⟨e', hdue, rfl⟩ := hf
    rw [hdue]
    obtain ⟨d1, d2, d3⟩ := due_iff.mp hdue
    have hsh2 : SeqAt.shaped (enc e') = true := shaped_enc d1 (fun w hw => (t2 w hw).2) (by omega)
    refine sf_ret (es_of (ec_eq (ec_and (a := true) (ec_eq (ec_notN (d := enc e') (ec_var rfl)) (by cases e' <;> rfl)) fun _ => ec_op (ec_var rfl) (ec_var (d := enc e') rfl) (rd_eqD hsh2 hsh2)) (c := .bool true) (by rw [eqv_imm _ (imm_enc e')]; rfl)) rfl) rfl
end
end T95

set_option maxHeartbeats 0
namespace T95
open PySem PySem.Spec PyProof.Rows L2 T9
/-! ### the head -/
def d_is_name : He.DefD := ⟨("is_name", none), "is_name", "is_name", defArgs (top 8), defBody (top 8), defScope (top 8), [], []⟩
def d_is_path : He.DefD := ⟨("is_path", none), "is_path", "is_path", defArgs (top 9), defBody (top 9), defScope (top 9), [], []⟩
def d_read_integer : He.DefD := ⟨("read_integer", none), "read_integer", "read_integer", defArgs (top 13), defBody (top 13), defScope (top 13), [], []⟩
def d_parts_of : He.DefD := ⟨("parts_of", none), "parts_of", "parts_of", defArgs (top 18), defBody (top 18), defScope (top 18), [], []⟩
def d_depth : He.DefD := ⟨("depth", none), "depth", "depth", defArgs (top 19), defBody (top 19), defScope (top 19), [], []⟩
def d_is_integer : He.DefD := ⟨("is_integer", none), "is_integer", "is_integer", defArgs (top 20), defBody (top 20), defScope (top 20), [], []⟩
def d_has_valid_names : He.DefD := ⟨("has_valid_names", none), "has_valid_names", "has_valid_names", defArgs (top 21), defBody (top 21), defScope (top 21), [], []⟩
def d_is_expression : He.DefD := ⟨("is_expression", none), "is_expression", "is_expression", defArgs (top 22), defBody (top 22), defScope (top 22), [], []⟩
def d_expression_words : He.DefD := ⟨("expression_words", none), "expression_words", "expression_words", defArgs (top 23), defBody (top 23), defScope (top 23), [], []⟩
def d_format_expression : He.DefD := ⟨("format_expression", none), "format_expression", "format_expression", defArgs (top 24), defBody (top 24), defScope (top 24), [], []⟩
def d_ExpressionReader___init__ : He.DefD := ⟨("ExpressionReader", some "__init__"), "__init__", "ExpressionReader.__init__", defArgs (mth 25 0), defBody (mth 25 0), defScope (mth 25 0), [], []⟩
def d_ExpressionReader_step : He.DefD := ⟨("ExpressionReader", some "step"), "step", "ExpressionReader.step", defArgs (mth 25 1), defBody (mth 25 1), defScope (mth 25 1), [], []⟩
def d_ExpressionReader_read_offsets : He.DefD := ⟨("ExpressionReader", some "read_offsets"), "read_offsets", "ExpressionReader.read_offsets", defArgs (mth 25 2), defBody (mth 25 2), defScope (mth 25 2), [], []⟩
def d_ExpressionReader_read_parts : He.DefD := ⟨("ExpressionReader", some "read_parts"), "read_parts", "ExpressionReader.read_parts", defArgs (mth 25 3), defBody (mth 25 3), defScope (mth 25 3), [], []⟩
def d_ExpressionReader_read_end : He.DefD := ⟨("ExpressionReader", some "read_end"), "read_end", "ExpressionReader.read_end", defArgs (mth 25 4), defBody (mth 25 4), defScope (mth 25 4), [], []⟩
def d_ExpressionReader_read : He.DefD := ⟨("ExpressionReader", some "read"), "read", "ExpressionReader.read", defArgs (mth 25 5), defBody (mth 25 5), defScope (mth 25 5), [], []⟩
def d_parse_expression : He.DefD := ⟨("parse_expression", none), "parse_expression", "parse_expression", defArgs (top 26), defBody (top 26), defScope (top 26), [], []⟩
def d__law_cell : He.DefD := ⟨("_law_cell", none), "_law_cell", "_law_cell", defArgs (top 28), defBody (top 28), defScope (top 28), [], []⟩
def d__law_draws : He.DefD := ⟨("_law_draws", none), "_law_draws", "_law_draws", defArgs (top 29), defBody (top 29), defScope (top 29), [], []⟩
def d__law_is_text : He.DefD := ⟨("_law_is_text", none), "_law_is_text", "_law_is_text", defArgs (top 30), defBody (top 30), defScope (top 30), [], []⟩
def d__law_stream : He.DefD := ⟨("_law_stream", none), "_law_stream", "_law_stream", defArgs (top 31), defBody (top 31), defScope (top 31), [], []⟩
def d__law_letters : He.DefD := ⟨("_law_letters", none), "_law_letters", "_law_letters", defArgs (top 32), defBody (top 32), defScope (top 32), [], []⟩
def d__law_is_name_due : He.DefD := ⟨("_law_is_name_due", none), "_law_is_name_due", "_law_is_name_due", defArgs (top 33), defBody (top 33), defScope (top 33), [], []⟩
def d__law_is_path_due : He.DefD := ⟨("_law_is_path_due", none), "_law_is_path_due", "_law_is_path_due", defArgs (top 34), defBody (top 34), defScope (top 34), [], []⟩
def d__law_expression : He.DefD := ⟨("_law_expression", none), "_law_expression", "_law_expression", defArgs (top 35), defBody (top 35), defScope (top 35), [], []⟩
def d__law_parts : He.DefD := ⟨("_law_parts", none), "_law_parts", "_law_parts", defArgs (top 36), defBody (top 36), defScope (top 36), [], []⟩
def d__law_depth : He.DefD := ⟨("_law_depth", none), "_law_depth", "_law_depth", defArgs (top 37), defBody (top 37), defScope (top 37), [], []⟩
def d__law_words : He.DefD := ⟨("_law_words", none), "_law_words", "_law_words", defArgs (top 38), defBody (top 38), defScope (top 38), [], []⟩
def d__law_integer_word : He.DefD := ⟨("_law_integer_word", none), "_law_integer_word", "_law_integer_word", defArgs (top 39), defBody (top 39), defScope (top 39), [], []⟩
def d__law_parsed : He.DefD := ⟨("_law_parsed", none), "_law_parsed", "_law_parsed", defArgs (top 40), defBody (top 40), defScope (top 40), [], []⟩
def d__law_atom : He.DefD := ⟨("_law_atom", none), "_law_atom", "_law_atom", defArgs (top 41), defBody (top 41), defScope (top 41), [], []⟩
def d__law_grouped : He.DefD := ⟨("_law_grouped", none), "_law_grouped", "_law_grouped", defArgs (top 42), defBody (top 42), defScope (top 42), [], []⟩
def d_law : He.DefD := ⟨("law", none), "law", "law", defArgs (top 43), defBody (top 43), defScope (top 43), [], []⟩
def hfn0 : List He.DefD := [d_is_name, d_is_path, d_read_integer, d_parts_of, d_depth, d_is_integer, d_has_valid_names, d_is_expression, d_expression_words, d_format_expression, d_ExpressionReader___init__, d_ExpressionReader_step]
def hfn1 : List He.DefD := [d_ExpressionReader_read_offsets, d_ExpressionReader_read_parts, d_ExpressionReader_read_end, d_ExpressionReader_read, d_parse_expression, d__law_cell, d__law_draws, d__law_is_text, d__law_stream, d__law_letters, d__law_is_name_due, d__law_is_path_due]
def hfn2 : List He.DefD := [d__law_expression, d__law_parts, d__law_depth, d__law_words, d__law_integer_word, d__law_parsed, d__law_atom, d__law_grouped, d_law]
def hfn : List He.DefD := hfn0 ++ hfn1 ++ hfn2
def hfa0 : List He.Fa := [.glo "is_name", .glo "is_path", .glo "read_integer", .glo "parts_of", .glo "depth", .glo "is_integer", .glo "has_valid_names", .glo "is_expression", .glo "expression_words", .glo "format_expression", .glo "ExpressionReader", .cls "ExpressionReader"]
def hfa1 : List He.Fa := [.mkr "ExpressionReader", .meth "ExpressionReader" "step", .meth "ExpressionReader" "read_offsets", .meth "ExpressionReader" "read_parts", .meth "ExpressionReader" "read_end", .meth "ExpressionReader" "read", .glo "parse_expression", .glo "_law_cell", .glo "_law_draws", .glo "_law_is_text", .glo "_law_stream", .glo "_law_letters"]
def hfa2 : List He.Fa := [.glo "_law_is_name_due", .glo "_law_is_path_due", .glo "_law_expression", .glo "_law_parts", .glo "_law_depth", .glo "_law_words", .glo "_law_integer_word", .glo "_law_parsed", .glo "_law_atom", .glo "_law_grouped", .glo "law", .glo "InvalidExpression"]
def hfa3 : List He.Fa := [.glo "TesseraError", .glo "InvalidDump", .noat "ExpressionReader" "words", .noat "ExpressionReader" "at", .free "len", .free "all", .free "int", .free "list", .free "max", .free "str", .free "tuple", .free "range"]
def hfa4 : List He.Fa := [.free "isinstance", .int "LONGEST_NAME" 12, .str "LETTERS" "abcdefghijklmnopqrstuvwxyz0123456789", .int "MOST_NAMES" 6, .int "MOST_DIGITS" 30, .str "DIGITS" "0123456789", .int "GREATEST" 1000000000000000000000000000000, .glo "PAIRS", .int "DEEPEST" 12, .exc "InvalidExpression", .exm "InvalidExpression" "InvalidExpression" true]
def hfa : List He.Fa := hfa0 ++ hfa1 ++ hfa2 ++ hfa3 ++ hfa4
def excB (K : PySem.W.Frag) (D : Addr) : Bool := He.eqO (PySem.W.findIn K (.ref D) "__getattribute__") (some (some (.builtin "BaseException.__getattribute__"))) && (He.eqO (PySem.W.findIn K (.ref D) "__getattr__") (some none) && (decide (PySem.W.subIn K (.ref D) (.type "BaseException") = some true) && (PySem.W.hasDictIn K D && (He.eqO (PySem.W.findIn K (.ref D) "__class__") (some (some (.builtin "object.__class__"))) &&
  (He.eqO (PySem.W.specialIn K (.builtin "object.__class__") "__get__") (some (some (.builtin "getset_descriptor.__get__"))) && (decide (PySem.W.takesIn K (.builtin "object.__class__") = some true) && decide (PySem.W.mroIn K D (.type "object") = some true)))))))
theorem excB_ok {K : PySem.W.Frag} {D : Addr} (h : excB K D = true) : ExcC K D := by
  obtain ⟨h1, h⟩ := He.ba h
  obtain ⟨h2, h⟩ := He.ba h
  obtain ⟨h3, h⟩ := He.ba h
  obtain ⟨h4, h⟩ := He.ba h
  obtain ⟨h5, h⟩ := He.ba h
  obtain ⟨h6, h⟩ := He.ba h
  obtain ⟨h7, h8⟩ := He.ba h
  exact ⟨He.eqO_ok h1, He.eqO_ok h2, of_decide_eq_true h3, h4, He.eqO_ok h5, He.eqO_ok h6, of_decide_eq_true h7, of_decide_eq_true h8⟩
def hex (K : PySem.W.Frag) : Bool := He.tupB K "PAIRS" [.str "add", .str "sub", .str "mul", .str "min", .str "max", .str "less"] && (excB K (He.ga K "InvalidExpression") && (decide (PySem.W.kitOne K (.ref (He.ga K "InvalidExpression")) (.ref (He.ga K "TesseraError")) = some true) && (decide (PySem.W.kitOne K (.ref (He.ga K "InvalidExpression")) (.ref (He.ga K "InvalidDump")) = some false))))
abbrev HR : PySem.W.OpenRow := PySem.W.OpenLaw.row PySem.Challenge.rw_tessera_k95_texts_of_expressions
abbrev hk : PySem.W.Hook := He.hookX 4 hfa hfn [] [] hex
def hob (s : PySem.W.SharedT) : He.AlX := He.obsX 4 hfa hfn [] [] hex (HandSHeadRun.getT s)
theorem hob_eq (s : PySem.W.SharedT) : hob s = hk.obs s.abs := He.obsX_eq (HandSHeadRun.getT_eq s)
abbrev hnames : List PySem.Str := (["TesseraError", "InvalidDump", "InvalidExpression", "LETTERS", "LONGEST_NAME", "MOST_NAMES", "is_name", "is_path", "DIGITS", "MOST_DIGITS", "read_integer", "PAIRS"] : List PySem.Str) ++ (["DEEPEST", "GREATEST", "parts_of", "depth", "is_integer", "has_valid_names", "is_expression", "expression_words", "format_expression", "ExpressionReader", "parse_expression", "_law_cell"] : List PySem.Str) ++ (["_law_draws", "_law_is_text", "_law_stream", "_law_letters", "_law_is_name_due", "_law_is_path_due", "_law_expression", "_law_parts", "_law_depth", "_law_words", "_law_integer_word", "_law_parsed"] : List PySem.Str) ++ (["_law_atom", "_law_grouped"] : List PySem.Str)
theorem hrun (w : World) : HandSHeadRun.RunEq HR (PySem.W.view HR.prog [43]) hk hob 4000 hnames w := by
  intro os
  kernel_rfl
theorem mk_tx {K : PySem.W.Frag} {h : Heap} {mg : Str → Option Value} {w : World} (KX : K.In h) (G : h.Ns mainGlobals mg) (c : He.SaysX hfa hfn [] [] hex w h K) : Tx K mg where
  g_is_name := He.glo_ok KX G (c.t.d.fact 0 (f := .glo "is_name") rfl)
  f_is_name := c.t.d.def_ 0 (d := d_is_name) rfl
  g_is_path := He.glo_ok KX G (c.t.d.fact 1 (f := .glo "is_path") rfl)
  f_is_path := c.t.d.def_ 1 (d := d_is_path) rfl
  g_read_integer := He.glo_ok KX G (c.t.d.fact 2 (f := .glo "read_integer") rfl)
  f_read_integer := c.t.d.def_ 2 (d := d_read_integer) rfl
  g_parts_of := He.glo_ok KX G (c.t.d.fact 3 (f := .glo "parts_of") rfl)
  f_parts_of := c.t.d.def_ 3 (d := d_parts_of) rfl
  g_depth := He.glo_ok KX G (c.t.d.fact 4 (f := .glo "depth") rfl)
  f_depth := c.t.d.def_ 4 (d := d_depth) rfl
  g_is_integer := He.glo_ok KX G (c.t.d.fact 5 (f := .glo "is_integer") rfl)
  f_is_integer := c.t.d.def_ 5 (d := d_is_integer) rfl
  g_has_valid_names := He.glo_ok KX G (c.t.d.fact 6 (f := .glo "has_valid_names") rfl)
  f_has_valid_names := c.t.d.def_ 6 (d := d_has_valid_names) rfl
  g_is_expression := He.glo_ok KX G (c.t.d.fact 7 (f := .glo "is_expression") rfl)
  f_is_expression := c.t.d.def_ 7 (d := d_is_expression) rfl
  g_expression_words := He.glo_ok KX G (c.t.d.fact 8 (f := .glo "expression_words") rfl)
  f_expression_words := c.t.d.def_ 8 (d := d_expression_words) rfl
  g_format_expression := He.glo_ok KX G (c.t.d.fact 9 (f := .glo "format_expression") rfl)
  f_format_expression := c.t.d.def_ 9 (d := d_format_expression) rfl
  f___init__ := c.t.d.def_ 10 (d := d_ExpressionReader___init__) rfl
  g_ExpressionReader := He.glo_ok KX G (c.t.d.fact 10 (f := .glo "ExpressionReader") rfl)
  l_ExpressionReader := He.cls_ok (c.t.d.fact 11 (f := .cls "ExpressionReader") rfl)
  mk_ExpressionReader := He.mkr_ok (c.t.d.fact 12 (f := .mkr "ExpressionReader") rfl)
  f_step := c.t.d.def_ 11 (d := d_ExpressionReader_step) rfl
  m_step := He.meth_ok (c.t.d.fact 13 (f := .meth "ExpressionReader" "step") rfl)
  f_read_offsets := c.t.d.def_ 12 (d := d_ExpressionReader_read_offsets) rfl
  m_read_offsets := He.meth_ok (c.t.d.fact 14 (f := .meth "ExpressionReader" "read_offsets") rfl)
  f_read_parts := c.t.d.def_ 13 (d := d_ExpressionReader_read_parts) rfl
  m_read_parts := He.meth_ok (c.t.d.fact 15 (f := .meth "ExpressionReader" "read_parts") rfl)
  f_read_end := c.t.d.def_ 14 (d := d_ExpressionReader_read_end) rfl
  m_read_end := He.meth_ok (c.t.d.fact 16 (f := .meth "ExpressionReader" "read_end") rfl)
  f_read := c.t.d.def_ 15 (d := d_ExpressionReader_read) rfl
  m_read := He.meth_ok (c.t.d.fact 17 (f := .meth "ExpressionReader" "read") rfl)
  g_parse_expression := He.glo_ok KX G (c.t.d.fact 18 (f := .glo "parse_expression") rfl)
  f_parse_expression := c.t.d.def_ 16 (d := d_parse_expression) rfl
  g__law_cell := He.glo_ok KX G (c.t.d.fact 19 (f := .glo "_law_cell") rfl)
  f__law_cell := c.t.d.def_ 17 (d := d__law_cell) rfl
  g__law_draws := He.glo_ok KX G (c.t.d.fact 20 (f := .glo "_law_draws") rfl)
  f__law_draws := c.t.d.def_ 18 (d := d__law_draws) rfl
  g__law_is_text := He.glo_ok KX G (c.t.d.fact 21 (f := .glo "_law_is_text") rfl)
  f__law_is_text := c.t.d.def_ 19 (d := d__law_is_text) rfl
  g__law_stream := He.glo_ok KX G (c.t.d.fact 22 (f := .glo "_law_stream") rfl)
  f__law_stream := c.t.d.def_ 20 (d := d__law_stream) rfl
  g__law_letters := He.glo_ok KX G (c.t.d.fact 23 (f := .glo "_law_letters") rfl)
  f__law_letters := c.t.d.def_ 21 (d := d__law_letters) rfl
  g__law_is_name_due := He.glo_ok KX G (c.t.d.fact 24 (f := .glo "_law_is_name_due") rfl)
  f__law_is_name_due := c.t.d.def_ 22 (d := d__law_is_name_due) rfl
  g__law_is_path_due := He.glo_ok KX G (c.t.d.fact 25 (f := .glo "_law_is_path_due") rfl)
  f__law_is_path_due := c.t.d.def_ 23 (d := d__law_is_path_due) rfl
  g__law_expression := He.glo_ok KX G (c.t.d.fact 26 (f := .glo "_law_expression") rfl)
  f__law_expression := c.t.d.def_ 24 (d := d__law_expression) rfl
  g__law_parts := He.glo_ok KX G (c.t.d.fact 27 (f := .glo "_law_parts") rfl)
  f__law_parts := c.t.d.def_ 25 (d := d__law_parts) rfl
  g__law_depth := He.glo_ok KX G (c.t.d.fact 28 (f := .glo "_law_depth") rfl)
  f__law_depth := c.t.d.def_ 26 (d := d__law_depth) rfl
  g__law_words := He.glo_ok KX G (c.t.d.fact 29 (f := .glo "_law_words") rfl)
  f__law_words := c.t.d.def_ 27 (d := d__law_words) rfl
  g__law_integer_word := He.glo_ok KX G (c.t.d.fact 30 (f := .glo "_law_integer_word") rfl)
  f__law_integer_word := c.t.d.def_ 28 (d := d__law_integer_word) rfl
  g__law_parsed := He.glo_ok KX G (c.t.d.fact 31 (f := .glo "_law_parsed") rfl)
  f__law_parsed := c.t.d.def_ 29 (d := d__law_parsed) rfl
  g__law_atom := He.glo_ok KX G (c.t.d.fact 32 (f := .glo "_law_atom") rfl)
  f__law_atom := c.t.d.def_ 30 (d := d__law_atom) rfl
  g__law_grouped := He.glo_ok KX G (c.t.d.fact 33 (f := .glo "_law_grouped") rfl)
  f__law_grouped := c.t.d.def_ 31 (d := d__law_grouped) rfl
  g_law := He.glo_ok KX G (c.t.d.fact 34 (f := .glo "law") rfl)
  f_law := c.t.d.def_ 32 (d := d_law) rfl
  g_InvalidExpression := He.glo_ok KX G (c.t.d.fact 35 (f := .glo "InvalidExpression") rfl)
  g_TesseraError := He.glo_ok KX G (c.t.d.fact 36 (f := .glo "TesseraError") rfl)
  g_InvalidDump := He.glo_ok KX G (c.t.d.fact 37 (f := .glo "InvalidDump") rfl)
  n_ExpressionReader_words := He.noat_ok (c.t.d.fact 38 (f := .noat "ExpressionReader" "words") rfl)
  n_ExpressionReader_at := He.noat_ok (c.t.d.fact 39 (f := .noat "ExpressionReader" "at") rfl)
  b_len := He.free_ok KX G (c.t.d.fact 40 (f := .free "len") rfl)
  b_all := He.free_ok KX G (c.t.d.fact 41 (f := .free "all") rfl)
  b_int := He.free_ok KX G (c.t.d.fact 42 (f := .free "int") rfl)
  b_list := He.free_ok KX G (c.t.d.fact 43 (f := .free "list") rfl)
  b_max := He.free_ok KX G (c.t.d.fact 44 (f := .free "max") rfl)
  b_str := He.free_ok KX G (c.t.d.fact 45 (f := .free "str") rfl)
  b_tuple := He.free_ok KX G (c.t.d.fact 46 (f := .free "tuple") rfl)
  b_range := He.free_ok KX G (c.t.d.fact 47 (f := .free "range") rfl)
  b_isinstance := He.free_ok KX G (c.t.d.fact 48 (f := .free "isinstance") rfl)
  c_LONGEST_NAME := (He.int_ok KX G (c.t.d.fact 49 (f := .int "LONGEST_NAME" 12) rfl)).elim fun t e => ⟨_, e, t, rfl⟩
  c_LETTERS := (He.str_ok KX G (c.t.d.fact 50 (f := .str "LETTERS" "abcdefghijklmnopqrstuvwxyz0123456789") rfl)).elim fun t e => ⟨_, e, t, rfl⟩
  c_MOST_NAMES := (He.int_ok KX G (c.t.d.fact 51 (f := .int "MOST_NAMES" 6) rfl)).elim fun t e => ⟨_, e, t, rfl⟩
  c_MOST_DIGITS := (He.int_ok KX G (c.t.d.fact 52 (f := .int "MOST_DIGITS" 30) rfl)).elim fun t e => ⟨_, e, t, rfl⟩
  c_DIGITS := (He.str_ok KX G (c.t.d.fact 53 (f := .str "DIGITS" "0123456789") rfl)).elim fun t e => ⟨_, e, t, rfl⟩
  c_GREATEST := (He.int_ok KX G (c.t.d.fact 54 (f := .int "GREATEST" 1000000000000000000000000000000) rfl)).elim fun t e => ⟨_, e, t, rfl⟩
  c_PAIRS := ⟨_, He.glo_ok KX G (c.t.d.fact 55 (f := .glo "PAIRS") rfl), rfl⟩
  c_DEEPEST := (He.int_ok KX G (c.t.d.fact 56 (f := .int "DEEPEST" 12) rfl)).elim fun t e => ⟨_, e, t, rfl⟩
  x_InvalidExpression := He.exc_ok (c.t.d.fact 57 (f := .exc "InvalidExpression") rfl)
  m_InvalidExpression := He.exm_ok (c.t.d.fact 58 (f := .exm "InvalidExpression" "InvalidExpression" true) rfl)
  k_PAIRS := fun H => He.tupB_ok (K := K) (x := "PAIRS") (vs := [.str "add", .str "sub", .str "mul", .str "min", .str "max", .str "less"]) ((He.ba (c.more)).1) H
  e_InvalidExpression := excB_ok ((He.ba ((He.ba (c.more)).2)).1)
  i_InvalidExpression_TesseraError := of_decide_eq_true ((He.ba ((He.ba ((He.ba (c.more)).2)).2)).1)
  i_InvalidExpression_InvalidDump := of_decide_eq_true ((He.ba ((He.ba ((He.ba (c.more)).2)).2)).2)
end T95

set_option maxHeartbeats 0
namespace T95
open PySem PySem.Spec PyProof.Rows L2 T9
section
variable {P : Program} {w : World} {K : PySem.W.Frag} {mg : Str → Option Value} {base : Heap}
theorem C_law (T : Tx K mg) {fd : FuncData} (F : FunD K "law" "law" (defArgs (top 43)) (defBody (top 43)) (defScope (top 43)) [] [] (He.ga K "law") fd) : FnOk P w K mg base CX0 62 (He.ga K "law") fd ["_law_script"] (spF K R_law) :=
  ok_law (k := 61) T F ((C_parse T (C_is_expression T)).mono (by decide)) (C_ldepth T 60) ((C_parsed T).mono (by decide)) ((C_is_text T).mono (by decide)) ((C_format T).mono (by decide)) ((C_lwords T 40).mono (by decide)) ((C_expr T 4).mono (by decide)) ((C_stream T).mono (by decide)) (spF_len fun _ _ ⟨_, e, _⟩ => by rw [e]; rfl) (run_pure rfl (p_law T))
end
end T95
open PySem PySem.W PySem.Calls PyProof.Rows
theorem PySem.Challenge.cw_tessera_k95_texts_of_expressions_holds : PySem.Challenge.rw_tessera_k95_texts_of_expressions.Holds := by
  w_on; o_law
  refine HandSHeadRun.head_any (r := OpenLaw.row PySem.Challenge.rw_tessera_k95_texts_of_expressions) (q := view (OpenLaw.row PySem.Challenge.rw_tessera_k95_texts_of_expressions).prog [43]) (H := T95.hk) (ob := T95.hob) (M := 4000) (loose := T95.hnames) (d := HandSHeadRun.topDef (OpenLaw.row PySem.Challenge.rw_tessera_k95_texts_of_expressions).prog 43) (kwd := []) T95.hob_eq
    (by kernel_rfl) (fun s => by kernel_rfl) T95.hrun (by kernel_rfl) (by kernel_rfl) (by kernel_rfl) (by rfl) (by first | assumption | decide +kernel) (by decide +kernel) ⟨rfl, rfl, rfl, rfl, rfl, by decide +kernel⟩ ?hw ?hc
  case hw => w_witness2
  case hc =>
    refine L2.walk_ofE (l := PySem.Challenge.rw_tessera_k95_texts_of_expressions) (n := 63) (k := 62) (x := "_law_script") (CX := L2.CX0) rfl (by decide) (by kernel_rfl) ⟨rfl, by decide, by decide⟩ ?F (fun _ _ _ _ z => z)
    intro w mg fa h Y G hmg0
    obtain ⟨K, KX, c⟩ := Y
    have hmg : mg ("law" : PySem.Str) = some (.ref fa) := by
      have e : (HandSHeadRun.topDef (OpenLaw.row PySem.Challenge.rw_tessera_k95_texts_of_expressions).prog 43).name = ("law" : PySem.Str) := by kernel_rfl
      rw [← e]
      exact hmg0
    have T := T95.mk_tx KX G c
    obtain ⟨fd, F⟩ := T.f_law
    have ea := hmg.symm.trans T.g_law
    cases ea
    have hb := L2.FunD.bindsA (ps := ["_law_script"]) F fun _ _ _ _ _ _ us hl => match us, hl with | [_], _ => rfl
    exact ⟨K, fd, T9.spF K T95.R_law, KX, fun s v => hb s [v] rfl, fun H a ns hl _ hS => ⟨[T95.lints ns], .d (.bool true), ⟨ns, rfl, rfl⟩, .cons (.lst hS (T9.dpAll_ints ns)) .nil, fun v H' e r => T9.dp_bl r.1⟩, fun base _ _ => T95.C_law T F⟩

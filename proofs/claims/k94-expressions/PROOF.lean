import PyProof.Rows.All
import Wide.All
import OpenK.AllK
import Wide.FinOn
import KE.KStateDown
import Lean
import HandS.Codes
import HandS.Conv
import HandS.Defaults
import HandS.Evl
import HandS.Exc
import HandS.ForMost
import HandS.Head0
import HandS.Head1
import HandS.Head2
import HandS.HeadEnd
import HandS.HeadHook1
import HandS.HeadHook2
import HandS.HeadHook4
import HandS.IsInst
import HandS.More
import HandS.SortKw
import HandS.Style
import HandS.TupAny
import HandS.Walk
import HandS.Wide
import HandS.Zip
import PySem.Challenge.RW_tessera_k94_expressions
set_option Elab.async false
set_option linter.all false
set_option maxRecDepth 100000
set_option maxHeartbeats 1000000
/-! KitA: data in frames: what stands in a def's slots, told by plain data. -/
namespace T9
open PySem L2
abbrev Dat := PyData
theorem lt_rfl {i n : Nat} (h : Nat.ble (i + 1) n = true) : i < n := Nat.le_of_ble_eq_true h
abbrev Ex := Evl.Ex
mutual
def imm : PyData → Bool
  | .list _ => false
  | .dict _ => false
  | .tuple ds => immAll ds
  | _ => true
def immAll : List PyData → Bool
  | [] => true
  | d :: ds => imm d && immAll ds
end
theorem immAll_iff : ∀ {ds : List PyData}, immAll ds = true ↔ ∀ d ∈ ds, imm d = true
  | [] => by simp [immAll]
  | d :: ds => by
    have ih := immAll_iff (ds := ds)
    simp only [immAll, Bool.and_eq_true, List.mem_cons, forall_eq_or_imp, ih]
section
variable {K : PySem.W.Frag} {H H' H0 H1 : Hp}
/-- tuples stay -/
def Ei (H H' : Hp) : Prop := ∀ a xs, H a = some (.tup xs) → H' a = some (.tup xs)
theorem Ei.ex (e : Ex H H') : Ei H H' := fun a _ h => e a _ h
theorem Ei.upd {a : Addr} {o u : HO} (h : H a = some o) (ht : ∀ xs, o ≠ .tup xs) : Ei H (upd H a u) := fun b xs hb => by
  by_cases e : b = a
  · subst e
    rw [h] at hb
    exact absurd (Option.some.inj hb) (ht xs)
  · rw [upd_ne e]
    exact hb
mutual
theorem dp_ex (e : Ex H H') : ∀ (d : PyData) (v : V), Dp K H v d → Dp K H' v d
  | .none, _, h => by cases h; exact .non
  | .bool b, _, h => by cases h; exact .bl b
  | .int i, _, h => by cases h; exact .int i
  | .str x, _, h => by cases h; exact .str x
  | .list ds, _, h => by
    cases h with
    | lst hs ha => exact .lst (Evl.ex_l e hs) (dpAll_ex e ds _ ha)
  | .tuple ds, _, h => by
    cases h with
    | tup hs ha => exact .tup (Evl.ex_t e hs) (dpAll_ex e ds _ ha)
  | .dict _, _, h => by cases h
theorem dpAll_ex (e : Ex H H') : ∀ (ds : List PyData) (vs : List V), DpAll K H vs ds → DpAll K H' vs ds
  | [], _, h => by cases h; exact .nil
  | d :: ds, _, h => by
    cases h with
    | cons h1 h2 => exact .cons (dp_ex e d _ h1) (dpAll_ex e ds _ h2)
end
theorem sqt_ei {a : Addr} {xs : List V} (e : Ei H H') (hf : ∀ a o u, H a = some (.frz o u) → H' a = some (.frz o u)) (h : SqT K H a xs) : SqT K H' a xs := by
  rcases h with (h | ⟨o, h⟩) | h
  · exact .inl (.inl (e _ _ h))
  · exact .inl (.inr ⟨o, hf _ _ _ h⟩)
  · exact .inr h
/-- tuples and locked things stay -/
def Ej (H H' : Hp) : Prop := Ei H H' ∧ ∀ a o u, H a = some (.frz o u) → H' a = some (.frz o u)
theorem Ej.ex (e : Ex H H') : Ej H H' := ⟨Ei.ex e, fun a _ _ h => e a _ h⟩
theorem Ej.refl (H : Hp) : Ej H H := ⟨fun _ _ h => h, fun _ _ _ h => h⟩
theorem Ej.trans {H2 : Hp} (a : Ej H H1) (b : Ej H1 H2) : Ej H H2 := ⟨fun x xs h => b.1 x xs (a.1 x xs h), fun x o u h => b.2 x o u (a.2 x o u h)⟩
theorem Ej.upd {a : Addr} {o u : HO} (h : H a = some o) (ht : ∀ xs, o ≠ .tup xs) (hf : ∀ p q, o ≠ .frz p q) : Ej H (upd H a u) :=
  ⟨Ei.upd h ht, fun b p q hb => by
    by_cases e : b = a
    · subst e
      rw [h] at hb
      exact absurd (Option.some.inj hb) (hf p q)
    · rw [upd_ne e]
      exact hb⟩
mutual
theorem dp_ej (e : Ej H H') : ∀ (d : PyData) (v : V), imm d = true → Dp K H v d → Dp K H' v d
  | .none, _, _, h => by cases h; exact .non
  | .bool b, _, _, h => by cases h; exact .bl b
  | .int i, _, _, h => by cases h; exact .int i
  | .str x, _, _, h => by cases h; exact .str x
  | .list ds, _, hi, h => by cases hi
  | .tuple ds, _, hi, h => by
    cases h with
    | tup hs ha => exact .tup (sqt_ei e.1 e.2 hs) (dpAll_ej e ds _ hi ha)
  | .dict _, _, _, h => by cases h
theorem dpAll_ej (e : Ej H H') : ∀ (ds : List PyData) (vs : List V), immAll ds = true → DpAll K H vs ds → DpAll K H' vs ds
  | [], _, _, h => by cases h; exact .nil
  | d :: ds, _, hi, h => by
    obtain ⟨h1, h2⟩ := Bool.and_eq_true_iff.mp hi
    cases h with
    | cons a b => exact .cons (dp_ej e d _ h1 a) (dpAll_ej e ds _ h2 b)
end
theorem dpAll_len : ∀ {vs : List V} {ds : List PyData}, DpAll K H vs ds → vs.length = ds.length
  | _, _, .nil => rfl
  | _, _, .cons _ t => congrArg (· + 1) (dpAll_len t)
theorem dpAll_get : ∀ {vs : List V} {ds : List PyData} {i : Nat} {v : V}, DpAll K H vs ds → vs[i]? = some v → ∃ d, ds[i]? = some d ∧ Dp K H v d
  | _, _, _, _, .nil, e => by simp at e
  | _, _, 0, _, .cons r _, e => by simp at e; subst e; exact ⟨_, rfl, r⟩
  | _, _, i + 1, _, .cons _ t, e => by
    obtain ⟨u, h1, h2⟩ := dpAll_get (i := i) t (by simpa using e)
    exact ⟨u, by simpa using h1, h2⟩
theorem dpAll_at : ∀ {vs : List V} {ds : List PyData} {i : Nat} {d : PyData}, DpAll K H vs ds → ds[i]? = some d → ∃ v, vs[i]? = some v ∧ Dp K H v d
  | _, _, _, _, .nil, e => by simp at e
  | _, _, 0, _, .cons r _, e => by simp at e; subst e; exact ⟨_, rfl, r⟩
  | _, _, i + 1, _, .cons _ t, e => by
    obtain ⟨u, h1, h2⟩ := dpAll_at (i := i) t (by simpa using e)
    exact ⟨u, by simpa using h1, h2⟩
theorem dpAll_app : ∀ {vs ws : List V} {ds es : List PyData}, DpAll K H vs ds → DpAll K H ws es → DpAll K H (vs ++ ws) (ds ++ es)
  | _, _, _, _, .nil, s => s
  | _, _, _, _, .cons r t, s => .cons r (dpAll_app t s)
theorem dpAll_one {v : V} {d : PyData} (h : Dp K H v d) : DpAll K H [v] [d] := .cons h .nil
theorem dpAll_set {v : V} {d : PyData} (h : Dp K H v d) : ∀ {vs : List V} {ds : List PyData} (i : Nat), DpAll K H vs ds → DpAll K H (vs.set i v) (ds.set i d)
  | _, _, _, .nil => .nil
  | _, _, 0, .cons _ t => .cons h t
  | _, _, i + 1, .cons r t => .cons r (dpAll_set h i t)
theorem dpAll_take : ∀ {vs : List V} {ds : List PyData} (n : Nat), DpAll K H vs ds → DpAll K H (vs.take n) (ds.take n)
  | _, _, 0, _ => .nil
  | _, _, _ + 1, .nil => .nil
  | _, _, n + 1, .cons r t => .cons r (dpAll_take n t)
theorem dpAll_drop : ∀ {vs : List V} {ds : List PyData} (n : Nat), DpAll K H vs ds → DpAll K H (vs.drop n) (ds.drop n)
  | _, _, 0, r => r
  | _, _, _ + 1, .nil => .nil
  | _, _, n + 1, .cons _ t => dpAll_drop n t
theorem dpAll_rev : ∀ {vs : List V} {ds : List PyData}, DpAll K H vs ds → DpAll K H vs.reverse ds.reverse
  | _, _, .nil => .nil
  | _, _, .cons r t => by
    rw [List.reverse_cons, List.reverse_cons]
    exact dpAll_app (dpAll_rev t) (dpAll_one r)
theorem dpAll_ints : ∀ (ns : List Int), DpAll K H (ns.map V.int) (ns.map PyData.int)
  | [] => .nil
  | n :: ns => .cons (.int n) (dpAll_ints ns)
theorem ints_of : ∀ {ns : List Int} {vs : List V}, DpAll K H vs (ns.map PyData.int) → vs = ns.map V.int
  | [], _, h => by cases h; rfl
  | n :: ns, _, h => by
    cases h with
    | cons h1 h2 =>
      cases h1
      rw [ints_of h2]
      rfl
theorem dpAll_strs : ∀ (ns : List Str), DpAll K H (ns.map V.str) (ns.map PyData.str)
  | [] => .nil
  | n :: ns => .cons (.str n) (dpAll_strs ns)
theorem strs_of : ∀ {ns : List Str} {vs : List V}, DpAll K H vs (ns.map PyData.str) → vs = ns.map V.str
  | [], _, h => by cases h; rfl
  | n :: ns, _, h => by
    cases h with
    | cons h1 h2 =>
      cases h1
      rw [strs_of h2]
      rfl
theorem bools_of : ∀ {ns : List Bool} {vs : List V}, DpAll K H vs (ns.map PyData.bool) → vs = ns.map V.bl
  | [], _, h => by cases h; rfl
  | n :: ns, _, h => by
    cases h with
    | cons h1 h2 =>
      cases h1
      rw [bools_of h2]
      rfl
theorem dp_int {v : V} {i : Int} (h : Dp K H v (.int i)) : v = .int i := by cases h; rfl
theorem dp_str {v : V} {i : Str} (h : Dp K H v (.str i)) : v = .str i := by cases h; rfl
theorem dp_bl {v : V} {i : Bool} (h : Dp K H v (.bool i)) : v = .bl i := by cases h; rfl
theorem dp_non {v : V} (h : Dp K H v .none) : v = .non := by cases h; rfl
theorem dp_tup {v : V} {ds : List PyData} (h : Dp K H v (.tuple ds)) : ∃ a xs, v = .ref a ∧ SqT K H a xs ∧ DpAll K H xs ds := by
  cases h with
  | tup h1 h2 => exact ⟨_, _, rfl, h1, h2⟩
theorem dp_lst {v : V} {ds : List PyData} (h : Dp K H v (.list ds)) : ∃ a xs, v = .ref a ∧ SqL K H a xs ∧ DpAll K H xs ds := by
  cases h with
  | lst h1 h2 => exact ⟨_, _, rfl, h1, h2⟩
end

/-! ### frames -/
/-- an object of one's own -/
inductive Ob where
  | lst (ds : List PyData) | dk (kvs : List (Key × PyData))
/-- what a slot holds: data that stays; an object of one's own, where; a value as it is -/
inductive Sl where
  | im (d : PyData) | ob (a : Addr) (o : Ob) | raw (v : V)
abbrev Fm := List (Option Sl)
/-- data that no store of ours touches: no list in it, or from before (B) -/
def Stab (K : PySem.W.Frag) (B H : Hp) (v : V) (d : PyData) : Prop := Dp K H v d ∧ (imm d = true ∨ Dp K B v d)
inductive StabAll (K : PySem.W.Frag) (B H : Hp) : List V → List PyData → Prop
  | nil : StabAll K B H [] []
  | cons {v : V} {vs : List V} {d : PyData} {ds : List PyData} : Stab K B H v d → StabAll K B H vs ds → StabAll K B H (v :: vs) (d :: ds)
/-- a dict's pairs -/
inductive KvAll (K : PySem.W.Frag) (B H : Hp) : List (Key × V) → List (Key × PyData) → Prop
  | nil : KvAll K B H [] []
  | cons {k : Key} {v : V} {vs : List (Key × V)} {d : PyData} {ds : List (Key × PyData)} : Stab K B H v d → KvAll K B H vs ds → KvAll K B H ((k, v) :: vs) ((k, d) :: ds)
/-- what is owned: its object -/
def OwnOk (K : PySem.W.Frag) (B H : Hp) (a : Addr) : Ob → Prop
  | .lst ds => ∃ vs, H a = some (.lst vs) ∧ StabAll K B H vs ds
  | .dk kvs => ∃ vs, H a = some (.dK vs) ∧ KvAll K B H vs kvs
def SlOk (K : PySem.W.Frag) (B H0 H : Hp) (v : V) (s : Sl) : Prop := match s with
  | .im d => Stab K B H v d
  | .raw w => v = w
  | .ob a o => v = .ref a ∧ H0 a = none ∧ OwnOk K B H a o
structure Fr (K : PySem.W.Frag) (B H0 H : Hp) (σ : St) (fs : Fm) : Prop where
  exB : Ex B H0
  ex : Ex H0 H
  len : σ.length = fs.length
  at_ : ∀ (i : Nat) (s : Sl), fs[i]? = some (some s) → ∃ v, σ[i]? = some (some v) ∧ SlOk K B H0 H v s
  apart : ∀ (i j : Nat) (a : Addr) (o u : Ob), i ≠ j → fs[i]? = some (some (.ob a o)) → fs[j]? = some (some (.ob a u)) → False
section
variable {K : PySem.W.Frag} {B H0 H H' : Hp} {σ : St} {fs : Fm}
theorem Stab.mono {v : V} {d : PyData} (h : Stab K B H v d) (e : Ej H H') (e0 : Ex B H') : Stab K B H' v d := by
  rcases h with ⟨h, i | i⟩
  · exact ⟨dp_ej e d v i h, .inl i⟩
  · exact ⟨dp_ex e0 d v i, .inr i⟩
theorem StabAll.mono (e : Ej H H') (e0 : Ex B H') : ∀ {vs : List V} {ds : List PyData}, StabAll K B H vs ds → StabAll K B H' vs ds
  | _, _, .nil => .nil
  | _, _, .cons h t => .cons (h.mono e e0) (t.mono e e0)
theorem KvAll.mono (e : Ej H H') (e0 : Ex B H') : ∀ {vs : List (Key × V)} {ds : List (Key × PyData)}, KvAll K B H vs ds → KvAll K B H' vs ds
  | _, _, .nil => .nil
  | _, _, .cons h t => .cons (h.mono e e0) (t.mono e e0)
theorem StabAll.now : ∀ {vs : List V} {ds : List PyData}, StabAll K B H vs ds → DpAll K H vs ds
  | _, _, .nil => .nil
  | _, _, .cons h t => .cons h.1 t.now
theorem StabAll.of : ∀ {vs : List V} {ds : List PyData}, DpAll K H vs ds → immAll ds = true → StabAll K B H vs ds
  | _, _, .nil, _ => .nil
  | _, _, .cons h t, i => by
    obtain ⟨h1, h2⟩ := Bool.and_eq_true_iff.mp i
    exact .cons ⟨h, .inl h1⟩ (StabAll.of t h2)
theorem StabAll.base (e : Ex B H) : ∀ {vs : List V} {ds : List PyData}, DpAll K B vs ds → StabAll K B H vs ds
  | _, _, .nil => .nil
  | _, _, .cons h t => .cons ⟨dp_ex e _ _ h, .inr h⟩ (StabAll.base e t)
theorem StabAll.app : ∀ {vs ws : List V} {ds es : List PyData}, StabAll K B H vs ds → StabAll K B H ws es → StabAll K B H (vs ++ ws) (ds ++ es)
  | _, _, _, _, .nil, s => s
  | _, _, _, _, .cons r t, s => .cons r (t.app s)
theorem StabAll.len : ∀ {vs : List V} {ds : List PyData}, StabAll K B H vs ds → vs.length = ds.length
  | _, _, .nil => rfl
  | _, _, .cons _ t => congrArg (· + 1) t.len
theorem StabAll.set {v : V} {d : PyData} (h : Stab K B H v d) : ∀ {vs : List V} {ds : List PyData} (i : Nat), StabAll K B H vs ds → StabAll K B H (vs.set i v) (ds.set i d)
  | _, _, _, .nil => .nil
  | _, _, 0, .cons _ t => .cons h t
  | _, _, i + 1, .cons r t => .cons r (StabAll.set h i t)
theorem StabAll.get : ∀ {vs : List V} {ds : List PyData} {i : Nat} {v : V}, StabAll K B H vs ds → vs[i]? = some v → ∃ d, ds[i]? = some d ∧ Stab K B H v d
  | _, _, _, _, .nil, e => by simp at e
  | _, _, 0, _, .cons r _, e => by simp at e; subst e; exact ⟨_, rfl, r⟩
  | _, _, i + 1, _, .cons _ t, e => by
    obtain ⟨u, h1, h2⟩ := StabAll.get (i := i) t (by simpa using e)
    exact ⟨u, by simpa using h1, h2⟩
theorem KvAll.keys : ∀ {vs : List (Key × V)} {ds : List (Key × PyData)}, KvAll K B H vs ds → vs.map (·.1) = ds.map (·.1)
  | _, _, .nil => rfl
  | _, _, .cons _ t => congrArg (List.cons _) t.keys
theorem OwnOk.mono {a : Addr} {o : Ob} (h : OwnOk K B H a o) (e : Ej H H') (e0 : Ex B H') (ha : H' a = H a) : OwnOk K B H' a o := by
  cases o with
  | lst ds =>
    obtain ⟨vs, h1, h2⟩ := h
    exact ⟨vs, ha.trans h1, h2.mono e e0⟩
  | dk ds =>
    obtain ⟨vs, h1, h2⟩ := h
    exact ⟨vs, ha.trans h1, h2.mono e e0⟩
theorem OwnOk.some {a : Addr} {o : Ob} (h : OwnOk K B H a o) : ∃ u, H a = some u ∧ (∀ xs, u ≠ .tup xs) ∧ ∀ p q, u ≠ .frz p q := by
  cases o with
  | lst ds => exact let ⟨vs, h1, _⟩ := h; ⟨_, h1, (fun _ e => nomatch e), fun _ _ e => nomatch e⟩
  | dk ds => exact let ⟨vs, h1, _⟩ := h; ⟨_, h1, (fun _ e => nomatch e), fun _ _ e => nomatch e⟩
theorem ex_at {a : Addr} {o : HO} (e : Ex H H') (h : H a = some o) : H' a = H a := (e a o h).trans h.symm
theorem OwnOk.ex {a : Addr} {o : Ob} (h : OwnOk K B H a o) (eb : Ex B H) (e : Ex H H') : OwnOk K B H' a o := by
  obtain ⟨u, h1, _⟩ := h.some
  exact h.mono (.ex e) (eb.trans e) (ex_at e h1)
theorem SlOk.mono {v : V} {s : Sl} (h : SlOk K B H0 H v s) (e : Ej H H') (e0 : Ex B H') (ha : ∀ a o, s = .ob a o → H' a = H a) : SlOk K B H0 H' v s := by
  cases s with
  | im d => exact Stab.mono h e e0
  | ob a o => exact ⟨h.1, h.2.1, h.2.2.mono e e0 (ha a o rfl)⟩
  | raw w => exact h
theorem Fr.exH (F : Fr K B H0 H σ fs) : Ex B H := F.exB.trans F.ex
theorem Fr.mono (F : Fr K B H0 H σ fs) (e : Ex H H') : Fr K B H0 H' σ fs where
  exB := F.exB
  ex := F.ex.trans e
  len := F.len
  at_ := fun i s h => let ⟨v, h1, h2⟩ := F.at_ i s h; ⟨v, h1, h2.mono (.ex e) (F.exH.trans e) fun a o hs => by
    subst hs
    obtain ⟨u, h4, _⟩ := OwnOk.some h2.2.2
    exact ex_at e h4⟩
  apart := F.apart
/-- a slot of one's own -/
theorem Fr.own (F : Fr K B H0 H σ fs) {i : Nat} {a : Addr} {o : Ob} (h : fs[i]? = some (some (.ob a o))) : σ[i]? = some (some (.ref a)) ∧ H0 a = none ∧ OwnOk K B H a o := by
  obtain ⟨v, h1, h2⟩ := F.at_ i _ h
  obtain ⟨rfl, h3, h4⟩ := h2
  exact ⟨h1, h3, h4⟩
/-- the object of one slot is changed -/
theorem Fr.put (F : Fr K B H0 H σ fs) {i : Nat} {o o' : Ob} {a : Addr} (h : fs[i]? = some (some (.ob a o))) {u : HO} (new : OwnOk K B (upd H a u) a o') : Fr K B H0 (upd H a u) σ (fs.set i (some (.ob a o'))) := by
  obtain ⟨h1, h2, h3⟩ := F.own h
  obtain ⟨o0, h4, h5, h6⟩ := h3.some
  have e0 : Ex H0 (upd H a u) := fun b o hb => by
    rw [upd_ne (ne_of_none hb h2)]
    exact F.ex b o hb
  have hl : i < fs.length := (List.getElem?_eq_some_iff.mp h).1
  refine ⟨F.exB, e0, by rw [List.length_set]; exact F.len, fun j t hj => ?_, fun j k b p q hjk hj hk => ?_⟩
  · by_cases hij : i = j
    · subst hij
      rw [List.getElem?_set_self hl] at hj
      cases hj
      exact ⟨_, h1, rfl, h2, new⟩
    · rw [List.getElem?_set_ne hij] at hj
      obtain ⟨v, v1, v2⟩ := F.at_ j t hj
      refine ⟨v, v1, v2.mono (Ej.upd h4 h5 h6) (F.exB.trans e0) fun b p hb => ?_⟩
      subst hb
      refine upd_ne fun e => ?_
      subst e
      exact F.apart i j _ _ _ hij h hj
  · have back : ∀ (m : Nat) (r : Ob), (fs.set i (some (.ob a o')))[m]? = some (some (.ob b r)) → ∃ r', fs[m]? = some (some (.ob b r')) := fun m r hr => by
      by_cases him : i = m
      · subst him
        rw [List.getElem?_set_self hl] at hr
        cases hr
        exact ⟨_, h⟩
      · rw [List.getElem?_set_ne him] at hr
        exact ⟨_, hr⟩
    obtain ⟨r1, q1⟩ := back j p hj
    obtain ⟨r2, q2⟩ := back k q hk
    exact F.apart j k b r1 r2 hjk q1 q2
theorem fresh_ex {a : Addr} (e : Ex H H') (h : H' a = none) : H a = none := Evl.fresh_back e h
/-- a name is stored: data -/
theorem Fr.set (F : Fr K B H0 H σ fs) (e : Ex H H') {i : Nat} {v : V} {s : Sl} (hi : i < fs.length) (h : SlOk K B H0 H' v s) (hn : ∀ a o, s = .ob a o → H a = none) : Fr K B H0 H' (σ.set i (some v)) (fs.set i (some s)) := by
  have F' := F.mono e
  have hiσ : i < σ.length := by rw [F.len]; exact hi
  refine ⟨F.exB, F'.ex, by rw [List.length_set, List.length_set]; exact F.len, fun j t hj => ?_, fun j k b p q hjk hj hk => ?_⟩
  · by_cases hij : i = j
    · subst hij
      rw [List.getElem?_set_self hi] at hj
      cases hj
      exact ⟨v, by rw [List.getElem?_set_self hiσ], h⟩
    · rw [List.getElem?_set_ne hij] at hj
      obtain ⟨w, w1, w2⟩ := F'.at_ j t hj
      exact ⟨w, by rw [List.getElem?_set_ne hij]; exact w1, w2⟩
  · have one : ∀ (m : Nat) (r : Ob), m ≠ i → (fs.set i (some s))[m]? = some (some (.ob b r)) → H b = none → False := fun m r hm hr hb => by
      rw [List.getElem?_set_ne (Ne.symm hm)] at hr
      obtain ⟨_, _, f3⟩ := F.own hr
      obtain ⟨o, f4, _⟩ := f3.some
      rw [hb] at f4
      cases f4
    by_cases hij : i = j
    · subst hij
      rw [List.getElem?_set_self hi] at hj
      exact one k q (Ne.symm hjk) hk (hn b p (Option.some.inj (Option.some.inj hj)))
    · by_cases hik : i = k
      · subst hik
        rw [List.getElem?_set_self hi] at hk
        exact one j p (Ne.symm hij) hj (hn b q (Option.some.inj (Option.some.inj hk)))
      · rw [List.getElem?_set_ne hij] at hj
        rw [List.getElem?_set_ne hik] at hk
        exact F.apart j k b p q hjk hj hk
theorem Fr.setD (F : Fr K B H0 H σ fs) (e : Ex H H') {i : Nat} {v : V} {d : PyData} (hi : i < fs.length) (h : Stab K B H' v d) : Fr K B H0 H' (σ.set i (some v)) (fs.set i (some (.im d))) :=
  F.set e hi h fun _ _ q => nomatch q
theorem Fr.setN (F : Fr K B H0 H σ fs) (e : Ex H H') {i : Nat} {a : Addr} {o : Ob} (hi : i < fs.length) (ha : H a = none) (h : OwnOk K B H' a o) : Fr K B H0 H' (σ.set i (some (.ref a))) (fs.set i (some (.ob a o))) :=
  F.set e hi ⟨rfl, fresh_ex F.ex ha, h⟩ fun _ _ q => by
    cases q
    exact ha
/-- less is known -/
def Le (fs gs : Fm) : Prop := fs.length = gs.length ∧ ∀ (i : Nat) (s : Sl), gs[i]? = some (some s) → fs[i]? = some (some s)
theorem Le.refl (fs : Fm) : Le fs fs := ⟨rfl, fun _ _ h => h⟩
theorem Fr.le {gs : Fm} (F : Fr K B H0 H σ fs) (h : Le fs gs) : Fr K B H0 H σ gs :=
  ⟨F.exB, F.ex, F.len.trans h.1, fun i s q => F.at_ i s (h.2 i s q), fun i j a o u hij p q => F.apart i j a o u hij (h.2 i _ p) (h.2 j _ q)⟩
def OwnAt (fs : Fm) (a : Addr) : Prop := ∃ (i : Nat) (o : Ob), fs[i]? = some (some (.ob a o))
/-- the slots of a comprehension's names forgotten -/
def wipeF (fs : Fm) : List Nat → Fm
  | [] => fs
  | v :: vs => (wipeF fs vs).set v none
theorem Fr.forget (F : Fr K B H0 H σ fs) (j : Nat) : Fr K B H0 H (σ.set j none) (fs.set j none) :=
  ⟨F.exB, F.ex, by rw [List.length_set, List.length_set]; exact F.len, fun i s h => by
    by_cases hij : j = i
    · subst hij
      by_cases hl : j < fs.length
      · rw [List.getElem?_set_self hl] at h
        cases h
      · rw [List.getElem?_eq_none (by rw [List.length_set]; omega)] at h
        cases h
    · rw [List.getElem?_set_ne hij] at h ⊢
      exact F.at_ i s h, fun i k a o u hik hi hk => by
    have back : ∀ (m : Nat) (r : Ob), (fs.set j none)[m]? = some (some (.ob a r)) → fs[m]? = some (some (.ob a r)) := fun m r hr => by
      by_cases hjm : j = m
      · subst hjm
        by_cases hl : j < fs.length
        · rw [List.getElem?_set_self hl] at hr
          cases hr
        · rw [List.getElem?_eq_none (by rw [List.length_set]; omega)] at hr
          cases hr
      · rw [List.getElem?_set_ne hjm] at hr
        exact hr
    exact F.apart i k a o u hik (back i o hi) (back k u hk)⟩
theorem Fr.wipe (F : Fr K B H0 H σ fs) : ∀ vs : List Nat, Fr K B H0 H (wipe σ vs) (wipeF fs vs)
  | [] => F
  | v :: vs => (F.wipe vs).forget v
/-- another base for what is fresh: all but one's own -/
theorem Fr.rebase (F : Fr K B H0 H σ fs) : ∃ H2, Fr K B H2 H σ fs ∧ Ex H0 H2 ∧ Ex H2 H ∧ ∀ a o, H a = some o → ¬ OwnAt fs a → H2 a = some o := by
  have dec : ∀ a, Decidable (OwnAt fs a) := fun a => Classical.propDecidable _
  let H2 : Hp := fun a => @ite _ (OwnAt fs a) (dec a) none (H a)
  have out : ∀ a, ¬ OwnAt fs a → H2 a = H a := fun a h => @if_neg (OwnAt fs a) (dec a) h _ _ _
  have in_ : ∀ a, OwnAt fs a → H2 a = none := fun a h => @if_pos (OwnAt fs a) (dec a) h _ _ _
  have e2 : Ex H2 H := fun a o h => by
    by_cases q : OwnAt fs a
    · rw [in_ a q] at h; cases h
    · rw [out a q] at h; exact h
  have e0 : Ex H0 H2 := fun a o h => by
    have q : ¬ OwnAt fs a := fun ⟨i, s, q1⟩ => by
      obtain ⟨_, f2, _⟩ := F.own q1
      rw [f2] at h
      cases h
    rw [out a q]
    exact F.ex a o h
  refine ⟨H2, ⟨F.exB.trans e0, e2, F.len, fun i s h => ?_, F.apart⟩, e0, e2, fun a o h hn => ?_⟩
  · obtain ⟨v, h1, h2⟩ := F.at_ i s h
    refine ⟨v, h1, ?_⟩
    cases s with
    | ob a o => exact ⟨h2.1, in_ a ⟨i, o, h⟩, h2.2.2⟩
    | im d => exact h2
    | raw d => exact h2
  · rw [out a hn]
    exact h
theorem SlOk.base {v : V} {s : Sl} {H2 : Hp} (h : SlOk K B H2 H v s) (e : Ex H0 H2) : SlOk K B H0 H v s := by
  cases s with
  | ob a o => exact ⟨h.1, fresh_ex e h.2.1, h.2.2⟩
  | im d => exact h
  | raw d => exact h
theorem Fr.base {H2 : Hp} (F : Fr K B H2 H σ fs) (eb : Ex B H0) (e : Ex H0 H2) : Fr K B H0 H σ fs :=
  ⟨eb, e.trans F.ex, F.len, fun i s h => let ⟨v, h1, h2⟩ := F.at_ i s h; ⟨v, h1, h2.base e⟩, F.apart⟩
end
end T9

set_option maxHeartbeats 1000000
/-! KitB: what evaluates to which data; statements over frames. -/
namespace T9
open PySem L2
section
variable {K : PySem.W.Frag}
/-- a value that is data now -/
def EvC (K : PySem.W.Frag) (fs : Fm) (te : TE) (d : PyData) : Prop := ∀ (B H0 H : Hp) (σ : St), Fr K B H0 H σ fs → ∀ Q : VK, (∀ v H1, Ex H H1 → Dp K H1 v d → Q v H1) → te σ H Q
/-- data that may be stored -/
def EvS (K : PySem.W.Frag) (fs : Fm) (te : TE) (d : PyData) : Prop := ∀ (B H0 H : Hp) (σ : St), Fr K B H0 H σ fs → ∀ Q : VK, (∀ v H1, Ex H H1 → Stab K B H1 v d → Q v H1) → te σ H Q
/-- a new object -/
def EvN (K : PySem.W.Frag) (fs : Fm) (te : TE) (o : Ob) : Prop := ∀ (B H0 H : Hp) (σ : St), Fr K B H0 H σ fs → ∀ Q : VK, (∀ a H1, Ex H H1 → H a = none → OwnOk K B H1 a o → Q (.ref a) H1) → te σ H Q
/-- a list that is tracked now (no locked one, none of the text) -/
def EvL (K : PySem.W.Frag) (fs : Fm) (te : TE) (ds : List PyData) : Prop := ∀ (B H0 H : Hp) (σ : St), Fr K B H0 H σ fs → ∀ Q : VK, (∀ a vs H1, Ex H H1 → H1 a = some (.lst vs) → DpAll K H1 vs ds → Q (.ref a) H1) → te σ H Q
def EvT (K : PySem.W.Frag) (fs : Fm) (tt : TT) (b : Bool) : Prop := ∀ (B H0 H : Hp) (σ : St), Fr K B H0 H σ fs → ∀ Q : Bool → Hp → Prop, (∀ H1, Ex H H1 → Q b H1) → tt σ H Q
def EvA (K : PySem.W.Frag) (fs : Fm) (ta : TA) (ds : List PyData) : Prop := ∀ (B H0 H : Hp) (σ : St), Fr K B H0 H σ fs → ∀ Q : List V → Hp → Prop, (∀ vs H1, Ex H H1 → DpAll K H1 vs ds → Q vs H1) → ta σ H Q
def EvO (K : PySem.W.Frag) (fs : Fm) (to : TO) (o : Option Int) : Prop := ∀ (B H0 H : Hp) (σ : St), Fr K B H0 H σ fs → ∀ Q : Option Int → Hp → Prop, (∀ H1, Ex H H1 → Q o H1) → to σ H Q
variable {fs : Fm} {ta tb te : TE} {tt tu : TT} {d e c : PyData} {s : Sl} {o : Ob}
theorem ec_of (h : EvS K fs te d) : EvC K fs te d := fun B H0 H σ F Q q => h B H0 H σ F Q fun v H1 e r => q v H1 e r.1
theorem es_of (h : EvC K fs te d) (hi : imm d = true) : EvS K fs te d := fun B H0 H σ F Q q => h B H0 H σ F Q fun v H1 e r => q v H1 e ⟨r, .inl hi⟩
theorem el_of {ds : List PyData} (h : EvN K fs te (.lst ds)) : EvL K fs te ds := fun B H0 H σ F Q q => h B H0 H σ F Q fun a H1 e _ r => by
  obtain ⟨vs, h1, h2⟩ := r
  exact q a vs H1 e h1 h2.now
theorem ecl_of {ds : List PyData} (h : EvL K fs te ds) : EvC K fs te (.list ds) := fun B H0 H σ F Q q => h B H0 H σ F Q fun a vs H1 e h1 h2 => q _ H1 e (.lst (Evl.sq_of h1) h2)
theorem ec_eq (h : EvC K fs te d) (e : d = c) : EvC K fs te c := e ▸ h
theorem es_eq (h : EvS K fs te d) (e : d = c) : EvS K fs te c := e ▸ h
theorem en_eq {o' : Ob} (h : EvN K fs te o) (e : o = o') : EvN K fs te o' := e ▸ h
theorem en_lst {ds es : List PyData} (h : EvN K fs te (.lst ds)) (e : ds = es) : EvN K fs te (.lst es) := e ▸ h
theorem et_eq {a b : Bool} (h : EvT K fs tt a) (e : a = b) : EvT K fs tt b := e ▸ h

theorem es_var {i : Nat} (h : fs[i]? = some (some (.im d))) : EvS K fs (tVar i) d := fun B H0 H σ F Q q => by
  obtain ⟨v, h1, h2⟩ := F.at_ i _ h
  exact ⟨v, h1, q v H (Evl.Ex.refl H) h2⟩
theorem ec_var {i : Nat} (h : fs[i]? = some (some (.im d))) : EvC K fs (tVar i) d := ec_of (es_var h)
theorem el_var {i : Nat} {a : Addr} {ds : List PyData} (h : fs[i]? = some (some (.ob a (.lst ds)))) : EvL K fs (tVar i) ds := fun B H0 H σ F Q q => by
  obtain ⟨h1, _, vs, h3, h4⟩ := F.own h
  exact ⟨_, h1, q a vs H (Evl.Ex.refl H) h3 h4.now⟩
theorem ec_varL {i : Nat} {a : Addr} {ds : List PyData} (h : fs[i]? = some (some (.ob a (.lst ds)))) : EvC K fs (tVar i) (.list ds) := ecl_of (el_var h)
theorem ec_int {i : Int} : EvC K fs (tC (.int i)) (.int i) := fun B H0 H σ F Q q => q _ H (Evl.Ex.refl H) (.int i)
theorem ec_str {x : Str} : EvC K fs (tC (.str x)) (.str x) := fun B H0 H σ F Q q => q _ H (Evl.Ex.refl H) (.str x)
theorem ec_bl {b : Bool} : EvC K fs (tC (.bl b)) (.bool b) := fun B H0 H σ F Q q => q _ H (Evl.Ex.refl H) (.bl b)
theorem ec_non : EvC K fs (tC .non) .none := fun B H0 H σ F Q q => q _ H (Evl.Ex.refl H) .non
/-- a constant of the text -/
theorem ec_K {a : Addr} (h : ∀ H, Dp K H (.ref a) d) : EvC K fs (tC (.ref a)) d := fun B H0 H σ F Q q => q _ H (Evl.Ex.refl H) (h H)

/-- what an operation on values makes of data -/
def RD (K : PySem.W.Frag) (r : R2) (a b c : PyData) : Prop := ∀ (x y : V) (H : Hp), Dp K H x a → Dp K H y b → ∀ Q : VK, (∀ v H1, Ex H H1 → Dp K H1 v c → Q v H1) → r x y H Q
theorem ec_op {r : R2} {a b : PyData} (ha : EvC K fs ta a) (hb : EvC K fs tb b) (hr : RD K r a b c) : EvC K fs (tOp r ta tb) c := fun B H0 H σ F Q q =>
  ha B H0 H σ F _ fun x H1 e1 h1 => hb B H0 H1 σ (F.mono e1) _ fun y H2 e2 h2 => hr x y H2 (dp_ex e2 _ _ h1) h2 Q fun v H3 e3 h3 => q v H3 ((e1.trans e2).trans e3) h3
def UD (K : PySem.W.Frag) (r : V → Hp → VK → Prop) (a c : PyData) : Prop := ∀ (x : V) (H : Hp), Dp K H x a → ∀ Q : VK, (∀ v H1, Ex H H1 → Dp K H1 v c → Q v H1) → r x H Q
theorem ec_un {r : V → Hp → VK → Prop} {a : PyData} (ha : EvC K fs ta a) (hr : UD K r a c) : EvC K fs (tUn r ta) c := fun B H0 H σ F Q q =>
  ha B H0 H σ F _ fun x H1 e1 h1 => hr x H1 h1 Q fun v H3 e3 h3 => q v H3 (e1.trans e3) h3
def AD (K : PySem.W.Frag) (r : List V → Hp → VK → Prop) (as : List PyData) (c : PyData) : Prop := ∀ (xs : List V) (H : Hp), DpAll K H xs as → ∀ Q : VK, (∀ v H1, Ex H H1 → Dp K H1 v c → Q v H1) → r xs H Q
/-- a new list -/
def AL (K : PySem.W.Frag) (r : List V → Hp → VK → Prop) (as cs : List PyData) : Prop := ∀ (xs : List V) (H : Hp), DpAll K H xs as → ∀ Q : VK, (∀ a vs H1, Ex H H1 → H a = none → H1 a = some (.lst vs) → DpAll K H1 vs cs → Q (.ref a) H1) → r xs H Q
variable {t : TA} {as cs : List PyData}
theorem ea_nil : EvA K fs tNil [] := fun B H0 H σ F Q q => q [] H (Evl.Ex.refl H) .nil
theorem ea_cons {tr : TA} (h : EvC K fs te d) (hr : EvA K fs tr as) : EvA K fs (tCons te tr) (d :: as) := fun B H0 H σ F Q q =>
  h B H0 H σ F _ fun v H1 e1 h1 => hr B H0 H1 σ (F.mono e1) _ fun vs H2 e2 h2 => q _ H2 (e1.trans e2) (.cons (dp_ex e2 _ _ h1) h2)
theorem ec_cb {r : List V → Hp → VK → Prop} (h : EvA K fs t as) (hr : AD K r as c) : EvC K fs (tCB r t) c := fun B H0 H σ F Q q =>
  h B H0 H σ F _ fun vs H1 e1 h1 => hr vs H1 h1 Q fun v H2 e2 h2 => q v H2 (e1.trans e2) h2
theorem en_cb {r : List V → Hp → VK → Prop} (h : EvA K fs t as) (hr : AL K r as cs) (hi : immAll cs = true) : EvN K fs (tCB r t) (.lst cs) := fun B H0 H σ F Q q =>
  h B H0 H σ F _ fun vs H1 e1 h1 => hr vs H1 h1 Q fun a ws H2 e2 ha h2 h3 => q _ H2 (e1.trans e2) (fresh_ex e1 ha) ⟨ws, h2, .of h3 hi⟩
theorem ec_cbL {r : List V → Hp → VK → Prop} (h : EvA K fs t as) (hr : AL K r as cs) : EvC K fs (tCB r t) (.list cs) := fun B H0 H σ F Q q =>
  h B H0 H σ F _ fun vs H1 e1 h1 => hr vs H1 h1 Q fun a ws H2 e2 ha h2 h3 => q _ H2 (e1.trans e2) (.lst (Evl.sq_of h2) h3)
theorem ec_tup (h : EvA K fs t as) (hl : as.length ≤ 100000) : EvC K fs (tTup t) (.tuple as) := fun B H0 H σ F Q q =>
  h B H0 H σ F _ fun vs H1 e1 h1 => ⟨Evl.sz_of (by rw [dpAll_len h1]; exact hl), fun p hp => q _ _ (e1.trans (Evl.Ex.new hp)) (.tup (Evl.st_of upd_same) (dpAll_ex (Evl.Ex.new hp) _ _ h1))⟩
theorem en_lstD (h : EvA K fs t as) (hl : as.length ≤ 100000) (hi : immAll as = true) : EvN K fs (tLst t) (.lst as) := fun B H0 H σ F Q q =>
  h B H0 H σ F _ fun vs H1 e1 h1 => ⟨Evl.sz_of (by rw [dpAll_len h1]; exact hl), fun p hp => q _ _ (e1.trans (Evl.Ex.new hp)) (fresh_ex e1 hp) ⟨vs, upd_same, .of (dpAll_ex (Evl.Ex.new hp) _ _ h1) hi⟩⟩
theorem ec_lst (h : EvA K fs t as) (hl : as.length ≤ 100000) : EvC K fs (tLst t) (.list as) := fun B H0 H σ F Q q =>
  h B H0 H σ F _ fun vs H1 e1 h1 => ⟨Evl.sz_of (by rw [dpAll_len h1]; exact hl), fun p hp => q _ _ (e1.trans (Evl.Ex.new hp)) (.lst (Evl.sq_of upd_same) (dpAll_ex (Evl.Ex.new hp) _ _ h1))⟩

/-! ### tests -/
theorem et_test {b : Bool} (h : EvC K fs te (.bool b)) : EvT K fs (tTest te) b := fun B H0 H σ F Q q => h B H0 H σ F _ fun v H1 e1 h1 => by
  cases dp_bl h1
  exact ⟨b, rfl, q H1 e1⟩
theorem et_B {b : Bool} (h : EvC K fs te (.bool b)) : EvT K fs (tB te) b := fun B H0 H σ F Q q => h B H0 H σ F _ fun v H1 e1 h1 => by
  cases dp_bl h1
  exact ⟨b, rfl, q H1 e1⟩
theorem et_and {a b : Bool} (h1 : EvT K fs tt a) (h2 : a = true → EvT K fs tu b) : EvT K fs (tAnd tt tu) (a && b) := fun B H0 H σ F Q q => h1 B H0 H σ F _ fun H1 e1 => by
  cases a with
  | true => exact (show tu σ H1 Q from h2 rfl B H0 H1 σ (F.mono e1) Q fun H2 e2 => q H2 (e1.trans e2))
  | false => exact (show Q false H1 from q H1 e1)
theorem et_or {a b : Bool} (h1 : EvT K fs tt a) (h2 : a = false → EvT K fs tu b) : EvT K fs (tOr tt tu) (a || b) := fun B H0 H σ F Q q => h1 B H0 H σ F _ fun H1 e1 => by
  cases a with
  | true => exact (show Q true H1 from q H1 e1)
  | false => exact (show tu σ H1 Q from h2 rfl B H0 H1 σ (F.mono e1) Q fun H2 e2 => q H2 (e1.trans e2))
theorem et_not {a : Bool} (h1 : EvT K fs tt a) : EvT K fs (tNot tt) (!a) := fun B H0 H σ F Q q => h1 B H0 H σ F _ fun H1 e1 => q H1 e1
theorem et_yes : EvT K fs tYes true := fun B H0 H σ F Q q => q H (Evl.Ex.refl H)
theorem ec_andV {a : Bool} (h1 : EvC K fs ta (.bool a)) (h2 : a = true → EvC K fs tb d) (h3 : a = false → d = .bool false) : EvC K fs (tAndV ta tb) d := fun B H0 H σ F Q q => h1 B H0 H σ F _ fun v H1 e1 hv => by
  cases dp_bl hv
  refine ⟨a, rfl, ?_⟩
  cases a with
  | true => exact (show tb σ H1 Q from h2 rfl B H0 H1 σ (F.mono e1) Q fun v H2 e2 => q v H2 (e1.trans e2))
  | false =>
    have e := h3 rfl
    subst e
    exact (show Q (.bl false) H1 from q _ H1 e1 (.bl false))
theorem ec_and {a b : Bool} (h1 : EvC K fs ta (.bool a)) (h2 : a = true → EvC K fs tb (.bool b)) : EvC K fs (tAndV ta tb) (.bool (a && b)) :=
  ec_andV (d := .bool (a && b)) h1 (fun e => by subst e; exact h2 rfl) (fun e => by subst e; rfl)
theorem ec_or {a b : Bool} (h1 : EvC K fs ta (.bool a)) (h2 : a = false → EvC K fs tb (.bool b)) : EvC K fs (tOrV ta tb) (.bool (a || b)) := fun B H0 H σ F Q q => h1 B H0 H σ F _ fun v H1 e1 hv => by
  cases dp_bl hv
  refine ⟨a, rfl, ?_⟩
  cases a with
  | true => exact (show Q (.bl true) H1 from q _ H1 e1 (.bl true))
  | false => exact (show tb σ H1 Q from h2 rfl B H0 H1 σ (F.mono e1) Q fun v H2 e2 => q v H2 (e1.trans e2))
theorem ec_not {a : Bool} (h1 : EvC K fs ta (.bool a)) : EvC K fs (tNotV ta) (.bool (!a)) := fun B H0 H σ F Q q => h1 B H0 H σ F _ fun v H1 e1 hv => by
  cases dp_bl hv
  exact ⟨a, rfl, q _ H1 e1 (.bl _)⟩
theorem es_if {b : Bool} (h : EvT K fs tt b) (h1 : b = true → EvS K fs ta d) (h2 : b = false → EvS K fs tb d) : EvS K fs (tIf tt ta tb) d := fun B H0 H σ F Q q => h B H0 H σ F _ fun H1 e1 => by
  cases b with
  | true => exact (show ta σ H1 Q from h1 rfl B H0 H1 σ (F.mono e1) Q fun v H2 e2 => q v H2 (e1.trans e2))
  | false => exact (show tb σ H1 Q from h2 rfl B H0 H1 σ (F.mono e1) Q fun v H2 e2 => q v H2 (e1.trans e2))
theorem en_if {b : Bool} (h : EvT K fs tt b) (h1 : b = true → EvN K fs ta o) (h2 : b = false → EvN K fs tb o) : EvN K fs (tIf tt ta tb) o := fun B H0 H σ F Q q => h B H0 H σ F _ fun H1 e1 => by
  cases b with
  | true => exact (show ta σ H1 Q from h1 rfl B H0 H1 σ (F.mono e1) Q fun v H2 e2 n => q v H2 (e1.trans e2) (fresh_ex e1 n))
  | false => exact (show tb σ H1 Q from h2 rfl B H0 H1 σ (F.mono e1) Q fun v H2 e2 n => q v H2 (e1.trans e2) (fresh_ex e1 n))
theorem ec_if {b : Bool} (h : EvT K fs tt b) (h1 : b = true → EvC K fs ta d) (h2 : b = false → EvC K fs tb d) : EvC K fs (tIf tt ta tb) d := fun B H0 H σ F Q q => h B H0 H σ F _ fun H1 e1 => by
  cases b with
  | true => exact (show ta σ H1 Q from h1 rfl B H0 H1 σ (F.mono e1) Q fun v H2 e2 => q v H2 (e1.trans e2))
  | false => exact (show tb σ H1 Q from h2 rfl B H0 H1 σ (F.mono e1) Q fun v H2 e2 => q v H2 (e1.trans e2))
theorem ec_chain {r r' : R2} {tc : TE} {x y z : PyData} {b : Bool} (ha : EvC K fs ta x) (hb : EvC K fs tb y) (hr : RD K r x y (.bool b)) (hc : EvC K fs tc z) {b' : Bool} (hr' : RD K r' y z (.bool b')) : EvC K fs (tChain r r' ta tb tc) (.bool (b && b')) := fun B H0 H σ F Q q =>
  ha B H0 H σ F _ fun u H1 e1 h1 => hb B H0 H1 σ (F.mono e1) _ fun v H2 e2 h2 => hr u v H2 (dp_ex e2 _ _ h1) h2 _ fun w H3 e3 h3 => by
    cases dp_bl h3
    refine ⟨b, rfl, ?_⟩
    cases b with
    | true =>
      refine (show tc σ H3 _ from hc B H0 H3 σ (F.mono ((e1.trans e2).trans e3)) _ fun w' H4 e4 h4 => ?_)
      exact hr' v w' H4 (dp_ex (e3.trans e4) _ _ h2) h4 Q fun p H5 e5 h5 => q p H5 ((((e1.trans e2).trans e3).trans e4).trans e5) h5
    | false => exact (show Q (.bl false) H3 from q _ H3 ((e1.trans e2).trans e3) (.bl false))
theorem eo_none : EvO K fs tNoPart none := fun B H0 H σ F Q q => q H (Evl.Ex.refl H)
theorem eo_some {i : Int} (h : EvC K fs te (.int i)) : EvO K fs (tPart te) (some i) := fun B H0 H σ F Q q => h B H0 H σ F _ fun v H1 e1 h1 => by
  cases dp_int h1
  exact ⟨i, rfl, q H1 e1⟩
end

/-! ### statements -/
structure Po where
  nx : Fm → Prop := fun _ => False
  rt : Sl → Prop := fun _ => False
  bk : Fm → Prop := fun _ => False
  ct : Fm → Prop := fun _ => False
def StF (K : PySem.W.Frag) (ts : TS) (fs : Fm) (P : Po) : Prop := ∀ (B H0 H : Hp) (σ : St) (D : Ends), Fr K B H0 H σ fs →
  (∀ fs' σ' H', P.nx fs' → Fr K B H0 H' σ' fs' → D.nx σ' H') → (∀ s v H', P.rt s → Ex H0 H' → SlOk K B H0 H' v s → D.rt v H') →
  (∀ fs' σ' H', P.bk fs' → Fr K B H0 H' σ' fs' → D.bk σ' H') → (∀ fs' σ' H', P.ct fs' → Fr K B H0 H' σ' fs' → D.ct σ' H') → ts D σ H
section
variable {K : PySem.W.Frag} {fs : Fm} {te : TE} {tt : TT} {tu tw tz : TS} {P : Po} {s : Sl} {d : PyData}
theorem sf_seq {M : Fm → Prop} (h1 : StF K tu fs { P with nx := M }) (h2 : ∀ fs', M fs' → StF K tw fs' P) : StF K (tSeq tu tw) fs P := fun B H0 H σ D F n r b c =>
  h1 B H0 H σ { D with nx := tw D } F (fun fs' σ' H' m F' => h2 fs' m B H0 H' σ' D F' n r b c) r b c
/-- the usual: one frame behind -/
theorem sf_seq1 {fs' : Fm} (h1 : StF K tu fs { P with nx := fun g => g = fs' }) (h2 : StF K tw fs' P) : StF K (tSeq tu tw) fs P := sf_seq h1 fun _ e => e ▸ h2
theorem sf_next (h : P.nx fs) : StF K tNext fs P := fun B H0 H σ D F n r b c => n fs σ H h F
theorem sf_brk (h : P.bk fs) : StF K tBreak fs P := fun B H0 H σ D F n r b c => b fs σ H h F
theorem sf_cont (h : P.ct fs) : StF K tCont fs P := fun B H0 H σ D F n r b c => c fs σ H h F
theorem sf_asg {i : Nat} (h : EvS K fs te d) (hi : i < fs.length) (k : P.nx (fs.set i (some (.im d)))) : StF K (tAsg te (gName i)) fs P := fun B H0 H σ D F n r b c =>
  h B H0 H σ F _ fun v H1 e1 h1 => n _ _ H1 k (F.setD e1 hi h1)
theorem sf_asgN {o : Ob} {i : Nat} (h : EvN K fs te o) (hi : i < fs.length) (k : ∀ a, P.nx (fs.set i (some (.ob a o)))) : StF K (tAsg te (gName i)) fs P := fun B H0 H σ D F n r b c =>
  h B H0 H σ F _ fun a H1 e1 hn h1 => n _ _ H1 (k a) (F.setN e1 hi hn h1)
/-- a name is stored, then the rest -/
theorem sq_asg {i : Nat} (h : EvS K fs te d) (k : StF K tz (fs.set i (some (.im d))) P) (hi : i < fs.length := by exact Nat.le_of_ble_eq_true rfl) : StF K (tSeq (tAsg te (gName i)) tz) fs P :=
  sf_seq1 (sf_asg h hi rfl) k
theorem sq_asgN {o : Ob} {i : Nat} (h : EvN K fs te o) (k : ∀ a, StF K tz (fs.set i (some (.ob a o))) P) (hi : i < fs.length := by exact Nat.le_of_ble_eq_true rfl) : StF K (tSeq (tAsg te (gName i)) tz) fs P :=
  sf_seq (M := fun g => ∃ a, g = fs.set i (some (.ob a o))) (sf_asgN h hi fun a => ⟨a, rfl⟩) fun g ⟨a, e⟩ => e ▸ k a
theorem sf_ret (h : EvS K fs te d) (k : P.rt (.im d)) : StF K (tRet te) fs P := fun B H0 H σ D F n r b c =>
  h B H0 H σ F _ fun v H1 e1 h1 => r (.im d) v H1 k (F.ex.trans e1) h1
theorem sf_retN {o : Ob} (h : EvN K fs te o) (k : ∀ a, P.rt (.ob a o)) : StF K (tRet te) fs P := fun B H0 H σ D F n r b c =>
  h B H0 H σ F _ fun a H1 e1 hn h1 => r (.ob a o) _ H1 (k a) (F.ex.trans e1) ⟨rfl, fresh_ex F.ex hn, h1⟩
/-- a slot is handed back -/
theorem sf_retv {i : Nat} (h : fs[i]? = some (some s)) (k : P.rt s) : StF K (tRet (tVar i)) fs P := fun B H0 H σ D F n r b c => by
  obtain ⟨v, h1, h2⟩ := F.at_ i s h
  exact ⟨v, h1, r s v H k F.ex h2⟩
theorem sf_retNone (k : P.rt (.im .none)) : StF K tRetN fs P := fun B H0 H σ D F n r b c => r _ .non H k F.ex ⟨.non, .inl rfl⟩
theorem sf_if {b : Bool} (h : EvT K fs tt b) (h1 : b = true → StF K tu fs P) (h2 : b = false → StF K tw fs P) : StF K (tIfS tt tu tw) fs P := fun B H0 H σ D F n r bk c =>
  h B H0 H σ F _ fun H1 e1 => by
    cases b with
    | true => exact (show tu D σ H1 from h1 rfl B H0 H1 σ D (F.mono e1) n r bk c)
    | false => exact (show tw D σ H1 from h2 rfl B H0 H1 σ D (F.mono e1) n r bk c)
theorem sf_drop (h : EvC K fs te d) (k : P.nx fs) : StF K (tDrop te) fs P := fun B H0 H σ D F n r b c =>
  h B H0 H σ F _ fun v H1 e1 h1 => n _ _ H1 k (F.mono e1)
theorem sf_le {gs : Fm} (h : StF K tu gs P) (l : Le fs gs) : StF K tu fs P := fun B H0 H σ D F n r b c => h B H0 H σ D (F.le l) n r b c
theorem sf_imp {P' : Po} (h : StF K tu fs P') (h1 : ∀ f, P'.nx f → ∃ g, Le f g ∧ P.nx g) (h2 : ∀ s, P'.rt s → P.rt s) (h3 : ∀ f, P'.bk f → P.bk f) (h4 : ∀ f, P'.ct f → P.ct f) : StF K tu fs P := fun B H0 H σ D F n r b c =>
  h B H0 H σ D F (fun f σ' H' q F' => let ⟨g, l, p⟩ := h1 f q; n g σ' H' p (F'.le l)) (fun s v H' q => r s v H' (h2 s q)) (fun f σ' H' q => b f σ' H' (h3 f q)) (fun f σ' H' q => c f σ' H' (h4 f q))
/-- xs.append(e), xs a list of one's own -/
theorem sf_app {i : Nat} {a : Addr} {ds : List PyData} (hi : fs[i]? = some (some (.ob a (.lst ds)))) (h : EvC K fs te d) (hd : imm d = true) (hl : ds.length < 100000) (k : P.nx (fs.set i (some (.ob a (.lst (ds ++ [d])))))) :
    StF K (tDrop (tBM K "list" rAppend (tVar i) (tCons te tNil))) fs P := fun B H0 H σ D F n r b c => by
  obtain ⟨h1, h2, vs, h3, h4⟩ := F.own hi
  refine ⟨_, h1, .inl ⟨rfl, vs, Evl.sq_of h3⟩, h B H0 H σ F _ fun v H1 e1 hv => ?_⟩
  have F1 := F.mono e1
  obtain ⟨g1, g2, vs', g3, g4⟩ := F1.own hi
  refine ⟨a, vs', v, rfl, rfl, g3, Evl.sz_lt (by rw [g4.len]; exact hl), n _ _ _ k (F1.put hi ?_)⟩
  have ej : Ej H1 (upd H1 a (.lst (vs' ++ [v]))) := Ej.upd g3 (fun _ e => nomatch e) (fun _ _ e => nomatch e)
  have eb : Ex B (upd H1 a (.lst (vs' ++ [v]))) := F.exB.trans (Evl.Ex.mut F1.ex h2)
  exact ⟨_, upd_same, (g4.mono ej eb).app (.cons ⟨dp_ej ej _ _ hd hv, .inl hd⟩ .nil)⟩
/-- xs.extend(ys) -/
theorem sf_ext {i : Nat} {a : Addr} {ds es : List PyData} (hi : fs[i]? = some (some (.ob a (.lst ds)))) (h : EvL K fs te es) (hd : immAll es = true) (hl : ds.length + es.length ≤ 100000) (k : P.nx (fs.set i (some (.ob a (.lst (ds ++ es)))))) :
    StF K (tDrop (tBM K "list" rExtend (tVar i) (tCons te tNil))) fs P := fun B H0 H σ D F n r b c => by
  obtain ⟨h1, h2, vs, h3, h4⟩ := F.own hi
  refine ⟨_, h1, .inl ⟨rfl, vs, Evl.sq_of h3⟩, h B H0 H σ F _ fun b' ws H1 e1 hb hw => ?_⟩
  have F1 := F.mono e1
  obtain ⟨g1, g2, vs', g3, g4⟩ := F1.own hi
  refine ⟨a, b', vs', ws, rfl, rfl, g3, hb, Evl.sz_of (by rw [g4.len, dpAll_len hw]; exact hl), n _ _ _ k (F1.put hi ?_)⟩
  have ej : Ej H1 (upd H1 a (.lst (vs' ++ ws))) := Ej.upd g3 (fun _ e => nomatch e) (fun _ _ e => nomatch e)
  have eb : Ex B (upd H1 a (.lst (vs' ++ ws))) := F.exB.trans (Evl.Ex.mut F1.ex h2)
  exact ⟨_, upd_same, (g4.mono ej eb).app (.of (dpAll_ej ej _ _ hd hw) hd)⟩
/-- while -/
theorem sf_while (W : Nat → Fm → Prop) (m0 : Nat) (h0 : W m0 fs)
    (hs : ∀ m f, W m f → ∃ b, EvT K f tt b ∧ (b = true → StF K tu f { nx := fun g => ∃ m', m' < m ∧ W m' g, ct := fun g => ∃ m', m' < m ∧ W m' g, rt := P.rt, bk := P.nx }) ∧ (b = false → P.nx f)) : StF K (tWhile tt tu) fs P := fun B H0 H σ D F n r b c =>
  ⟨fun m σ' H' => ∃ f, W m f ∧ Fr K B H0 H' σ' f, ⟨m0, fs, h0, F⟩, fun m σ' H' ⟨f, w, F'⟩ => by
    obtain ⟨b', hb, h1, h2⟩ := hs m f w
    refine hb B H0 H' σ' F' _ fun H1 e1 => ?_
    cases b' with
    | true =>
      refine (show ∃ N : St → Hp → Prop, _ from ⟨fun σ2 H2 => ∃ m', m' < m ∧ ∃ f', W m' f' ∧ Fr K B H0 H2 σ2 f', fun σ2 H2 q => q, ?_⟩)
      exact h1 rfl B H0 H1 σ' _ (F'.mono e1) (fun f' σ2 H2 ⟨m', hm, w'⟩ F2 => ⟨m', hm, f', w', F2⟩) r (fun f' σ2 H2 q F2 => n f' σ2 H2 q F2) (fun f' σ2 H2 ⟨m', hm, w'⟩ F2 => ⟨m', hm, f', w', F2⟩)
    | false => exact (show D.nx σ' H1 from n f σ' H1 (h2 rfl) (F'.mono e1))⟩
end
end T9

set_option maxHeartbeats 1000000
/-! KitC: what is walked; loops, comprehensions; promises of defs that change nothing. -/
namespace T9
open PySem L2
section
variable {K : PySem.W.Frag}
def ItOk (K : PySem.W.Frag) (J : It) (Hb : Hp) (ds : List PyData) : Prop := ∃ (G : Hp → Prop) (Y : Nat → Hp → V → Hp → Prop), Walk J ds.length G Y ∧ (∀ H2, Ex Hb H2 → G H2) ∧
  ∀ i H2 x H3, Ex Hb H2 → Y i H2 x H3 → Ex H2 H3 ∧ ∃ d, ds[i]? = some d ∧ Dp K H3 x d
/-- what is walked in a loop that may change objects of one's own; in a comprehension -/
def EvI (K : PySem.W.Frag) (fs : Fm) (wi : TI) (ds : List PyData) : Prop := ∀ (B H0 H : Hp) (σ : St), Fr K B H0 H σ fs → ∀ R : It → Hp → Prop,
  (∀ J H1, Ex H H1 → (∀ Hb, (∀ a o, H1 a = some o → ¬ OwnAt fs a → Hb a = some o) → Ex Hb H1 → ItOk K J Hb ds) → R J H1) → wi σ H R
def EvW (K : PySem.W.Frag) (fs : Fm) (wi : TI) (ds : List PyData) : Prop := ∀ (B H0 H : Hp) (σ : St), Fr K B H0 H σ fs → ∀ R : It → Hp → Prop, (∀ J H1, Ex H H1 → ItOk K J H1 ds → R J H1) → wi σ H R
variable {fs : Fm} {ta tb te : TE} {tt tu : TT} {d e c : PyData} {s : Sl} {o : Ob} {wi : TI} {ds es : List PyData}
theorem ew_of (h : EvI K fs wi ds) : EvW K fs wi ds := fun B H0 H σ F R q => h B H0 H σ F R fun J H1 e1 k => q J H1 e1 (k H1 (fun _ _ h _ => h) (Evl.Ex.refl H1))
theorem ei_eq (h : EvI K fs wi ds) (e : ds = es) : EvI K fs wi es := e ▸ h
theorem ew_eq (h : EvW K fs wi ds) (e : ds = es) : EvW K fs wi es := e ▸ h
theorem itok_list {Hb : Hp} {a : Addr} {xs : List V} (h : SqL K Hb a xs) (hd : DpAll K Hb xs ds) : ItOk K (Itl K a) Hb ds := by
  have hl := dpAll_len hd
  refine ⟨fun H => SqL K H a xs, YAt xs, hl ▸ walk_list, fun H2 e => Evl.ex_l e h, fun i H2 x H3 e y => ?_⟩
  obtain ⟨rfl, y⟩ := y
  obtain ⟨d, h1, h2⟩ := dpAll_get hd y
  exact ⟨Evl.Ex.refl _, d, h1, dp_ex e _ _ h2⟩
theorem itok_tup {Hb : Hp} {a : Addr} {xs : List V} (h : SqT K Hb a xs) (hd : DpAll K Hb xs ds) : ItOk K (Itt K a) Hb ds := by
  have hl := dpAll_len hd
  refine ⟨fun H => SqT K H a xs, YAt xs, hl ▸ walk_tup, fun H2 e => Evl.ex_t e h, fun i H2 x H3 e y => ?_⟩
  obtain ⟨rfl, y⟩ := y
  obtain ⟨d, h1, h2⟩ := dpAll_get hd y
  exact ⟨Evl.Ex.refl _, d, h1, dp_ex e _ _ h2⟩
theorem own_obj {B H0 H : Hp} {σ : St} (F : Fr K B H0 H σ fs) {a : Addr} (h : OwnAt fs a) : H0 a = none ∧ ∃ u, H a = some u ∧ (∀ xs, u ≠ .tup xs) ∧ ∀ p q, u ≠ .frz p q := by
  obtain ⟨i, o, h⟩ := h
  obtain ⟨_, h2, h3⟩ := F.own h
  exact ⟨h2, h3.some⟩
theorem ej_b {B H0 H1 Hb : Hp} {σ : St} (F : Fr K B H0 H1 σ fs) (hb : ∀ a o, H1 a = some o → ¬ OwnAt fs a → Hb a = some o) : Ej H1 Hb :=
  ⟨fun a xs h => hb a _ h fun q => by
    obtain ⟨_, u, h1, h2, _⟩ := own_obj F q
    rw [h] at h1
    exact h2 xs (Option.some.inj h1).symm, fun a p q h => hb a _ h fun z => by
    obtain ⟨_, u, h1, _, h2⟩ := own_obj F z
    rw [h] at h1
    exact h2 p q (Option.some.inj h1).symm⟩
theorem exB_b {B H0 H1 Hb : Hp} {σ : St} (F : Fr K B H0 H1 σ fs) (hb : ∀ a o, H1 a = some o → ¬ OwnAt fs a → Hb a = some o) : Ex B Hb := fun a o h => hb a o (F.exH a o h) fun z => by
  obtain ⟨h1, _⟩ := own_obj F z
  rw [F.exB a o h] at h1
  cases h1
/-- a list that was just made -/
theorem ei_N (h : EvN K fs te (.lst ds)) (hi : immAll ds = true) : EvI K fs (iList K te) ds := fun B H0 H σ F R q => h B H0 H σ F _ fun a H1 e1 hn ⟨vs, h1, h2⟩ =>
  ⟨a, rfl, ⟨vs, Evl.sq_of h1⟩, q _ H1 e1 fun Hb hb eb => itok_list (xs := vs) (Evl.sq_of (hb a _ h1 fun z => by
    obtain ⟨_, u, h3, _⟩ := own_obj F z
    rw [hn] at h3
    cases h3)) (dpAll_ej (ej_b (F.mono e1) hb) _ _ hi h2.now)⟩
/-- a list from before -/
theorem ei_var {i : Nat} (h : fs[i]? = some (some (.im (.list ds)))) : EvI K fs (iList K (tVar i)) ds := fun B H0 H σ F R q => by
  obtain ⟨v, h1, h2⟩ := F.at_ i _ h
  rcases h2 with ⟨h2, h3 | h3⟩
  · cases h3
  · obtain ⟨a, xs, rfl, h4, h5⟩ := dp_lst h2
    refine ⟨_, h1, a, rfl, ⟨xs, h4⟩, q _ H (Evl.Ex.refl H) fun Hb hb eb => ?_⟩
    obtain ⟨a', ys, e, g4, g5⟩ := dp_lst (dp_ex (exB_b F hb) _ _ h3)
    cases e
    exact itok_list g4 g5
theorem ei_tup (h : EvC K fs te (.tuple ds)) (hi : immAll ds = true) : EvI K fs (iTup K te) ds := fun B H0 H σ F R q => h B H0 H σ F _ fun v H1 e1 hv => by
  obtain ⟨a, xs, rfl, h4, h5⟩ := dp_tup hv
  refine ⟨a, rfl, ⟨xs, h4⟩, q _ H1 e1 fun Hb hb eb => ?_⟩
  obtain ⟨a', ys, e, g4, g5⟩ := dp_tup (dp_ej (ej_b (F.mono e1) hb) _ _ hi hv)
  cases e
  exact itok_tup g4 g5
/-- in a comprehension: any list -/
theorem ew_list (h : EvC K fs te (.list ds)) : EvW K fs (iList K te) ds := fun B H0 H σ F R q => h B H0 H σ F _ fun v H1 e1 hv => by
  obtain ⟨a, xs, rfl, h4, h5⟩ := dp_lst hv
  exact ⟨a, rfl, ⟨xs, h4⟩, q _ H1 e1 (itok_list h4 h5)⟩
theorem ew_tup (h : EvC K fs te (.tuple ds)) : EvW K fs (iTup K te) ds := fun B H0 H σ F R q => h B H0 H σ F _ fun v H1 e1 hv => by
  obtain ⟨a, xs, rfl, h4, h5⟩ := dp_tup hv
  exact ⟨a, rfl, ⟨xs, h4⟩, q _ H1 e1 (itok_tup h4 h5)⟩
def rangeD (lo : Int) (n : Nat) : List PyData := (List.range n).map fun i => .int (lo + (i : Nat))
theorem rangeD_len (lo : Int) (n : Nat) : (rangeD lo n).length = n := by simp [rangeD]
theorem rangeD_get {lo : Int} {n i : Nat} {d : PyData} (h : (rangeD lo n)[i]? = some d) : i < n ∧ d = .int (lo + (i : Nat)) := by
  unfold rangeD at h
  rw [List.getElem?_map] at h
  by_cases hi : i < n
  · rw [List.getElem?_range hi] at h
    exact ⟨hi, (Option.some.inj h).symm⟩
  · rw [List.getElem?_eq_none (by simpa using hi)] at h
    cases h
theorem rangeD_mem {lo : Int} {n : Nat} {d : PyData} (h : d ∈ rangeD lo n) : ∃ i : Nat, i < n ∧ d = .int (lo + (i : Nat)) := by
  obtain ⟨i, hi, e⟩ := List.mem_map.mp h
  exact ⟨i, List.mem_range.mp hi, e.symm⟩
theorem itok_range {Hb : Hp} {lo : Int} {n : Nat} : ItOk K (Itr lo n) Hb (rangeD lo n) := by
  refine ⟨fun _ => True, fun i H x H' => i < n ∧ H' = H ∧ x = .int (lo + (i : Nat)), ?_, fun _ _ => trivial, fun i H2 x H3 e y => ?_⟩
  · rw [rangeD_len]
    exact walk_range.mono (fun _ _ => trivial) fun i H x H' hi _ y => ⟨hi, y⟩
  · obtain ⟨hi, rfl, rfl⟩ := y
    exact ⟨Evl.Ex.refl _, _, by unfold rangeD; rw [List.getElem?_map, List.getElem?_range hi]; rfl, .int _⟩
theorem ei_rng1 {t : TA} {n : Int} (h : EvA K fs t [.int n]) (hn : n < 2 ^ 62) (hn2 : -(2 ^ 62) ≤ n) : EvI K fs (iRng1 t) (rangeD 0 n.toNat) := fun B H0 H σ F R q => h B H0 H σ F _ fun vs H1 e1 hv => by
  cases hv with
  | cons h1 h2 =>
    cases h2
    cases dp_int h1
    exact ⟨n, rfl, hn2, hn, q _ H1 e1 fun Hb _ _ => itok_range⟩
theorem ei_rng2 {t : TA} {m n : Int} (h : EvA K fs t [.int m, .int n]) (hm : -(2 ^ 62) ≤ m ∧ m < 2 ^ 62) (hn : -(2 ^ 62) ≤ n ∧ n < 2 ^ 62) : EvI K fs (iRng2 t) (rangeD m (n - m).toNat) := fun B H0 H σ F R q => h B H0 H σ F _ fun vs H1 e1 hv => by
  cases hv with
  | cons h1 h2 =>
    cases h2 with
    | cons h2 h3 =>
      cases h3
      cases dp_int h1
      cases dp_int h2
      exact ⟨m, n, rfl, ⟨hm.1, hm.2, hn.1, hn.2⟩, q _ H1 e1 fun Hb _ _ => itok_range⟩
def signs (z : Str) : List PyData := z.cps.toList.map fun c => .str ⟨#[c]⟩
theorem ei_str {z : Str} (h : EvC K fs te (.str z)) : EvI K fs (iStr te) (signs z) := fun B H0 H σ F R q => h B H0 H σ F _ fun v H1 e1 hv => by
  cases dp_str hv
  refine ⟨z, rfl, q _ H1 e1 fun Hb _ _ => ⟨fun _ => True, (fun i H v H' => H' = H ∧ ∃ c, z.cps[i]? = some c ∧ v = .str ⟨#[c]⟩), ?_, fun _ _ => trivial, fun i H2 x H3 e y => ?_⟩⟩
  · have : (signs z).length = z.cps.size := by simp [signs]
    rw [this]
    exact walk_str
  · obtain ⟨rfl, c, h1, rfl⟩ := y
    refine ⟨Evl.Ex.refl _, _, ?_, .str _⟩
    unfold signs
    rw [List.getElem?_map, Array.getElem?_toList, h1]
    rfl
/-! ### loops -/
/-- a target takes data -/
def PutG (K : PySem.W.Frag) (g : TG) (d : PyData) (f f' : Fm) : Prop := ∀ (B H0 H : Hp) (σ : St) (x : V), Fr K B H0 H σ f → Dp K H x d → ∀ Q : St → Hp → Prop, (∀ σ' H', Ex H H' → Fr K B H0 H' σ' f' → Q σ' H') → g x σ H Q
theorem put_name {j : Nat} {f : Fm} (hj : j < f.length) (hi : imm d = true) : PutG K (gName j) d f (f.set j (some (.im d))) := fun B H0 H σ x F hx Q q =>
  q _ H (Evl.Ex.refl H) (F.setD (Evl.Ex.refl H) hj ⟨hx, .inl hi⟩)
theorem put_tup2 {i j : Nat} {f : Fm} {d1 d2 : PyData} (hi : i < f.length) (hj : j < f.length) (h1 : imm d1 = true) (h2 : imm d2 = true) :
    PutG K (gTup K 2 (gCons (gName i) (gCons (gName j) gNil))) (.tuple [d1, d2]) f ((f.set i (some (.im d1))).set j (some (.im d2))) := fun B H0 H σ x F hx Q q => by
  obtain ⟨a, xs, rfl, h4, h5⟩ := dp_tup hx
  cases h5 with
  | cons g1 g2 =>
    cases g2 with
    | cons g2 g3 =>
      cases g3
      refine ⟨a, _, rfl, h4, rfl, _, _, rfl, _, _, rfl, rfl, q _ H (Evl.Ex.refl H) ?_⟩
      exact (F.setD (Evl.Ex.refl H) hi ⟨g1, .inl h1⟩).setD (Evl.Ex.refl H) (by rw [List.length_set]; exact hj) ⟨g2, .inl h2⟩
theorem sf_for {P : Po} {g : TG} {tb : TS} (Iv : Nat → Fm → Prop) (h : EvI K fs wi ds) (h0 : Iv 0 fs)
    (hs : ∀ i d f, ds[i]? = some d → Iv i f → ∃ f', PutG K g d f f' ∧ StF K tb f' { nx := Iv (i + 1), ct := Iv (i + 1), bk := P.nx, rt := P.rt }) (hd : ∀ f, Iv ds.length f → P.nx f) : StF K (tFor wi g tb) fs P := fun B H0 H σ D F n r b c =>
  h B H0 H σ F _ fun J H1 e1 k => by
    have F1 := F.mono e1
    obtain ⟨Hb, Fb, e0, eb, hb⟩ := F1.rebase
    obtain ⟨G, Y, w, hG, hY⟩ := k Hb hb eb
    refine for_it w (fun i σ H => ∃ f, Iv i f ∧ Fr K B Hb H σ f) ⟨fs, h0, Fb⟩ (fun i σ H _ ⟨f, _, F⟩ => hG H F.ex) (fun i x σ2 H2 H3 hi ⟨f, hf, F2⟩ y => ?_) fun σ2 H2 ⟨f, hf, F2⟩ => n f σ2 H2 (hd f hf) (F2.base F.exB e0)
    obtain ⟨e3, d, hd1, hx⟩ := hY i H2 x H3 F2.ex y
    obtain ⟨f', hp, hb⟩ := hs i d f hd1 hf
    refine hp B Hb H3 σ2 x (F2.mono e3) hx _ fun σ4 H4 e4 F4 => ?_
    exact hb B Hb H4 σ4 _ F4 (fun f5 σ5 H5 p F5 => ⟨f5, p, F5⟩) (fun s v H5 p e5 q => r s v H5 p (e0.trans e5) (q.base e0)) (fun f5 σ5 H5 p F5 => n f5 σ5 H5 p (F5.base F.exB e0)) fun f5 σ5 H5 p F5 => ⟨f5, p, F5⟩
/-- .. over a list of one's own that stays -/
theorem sf_forO {P : Po} {g : TG} {tb : TS} {j : Nat} {a : Addr} (Iv : Nat → Fm → Prop) (hj : ∀ i f, i ≤ ds.length → Iv i f → f[j]? = some (some (.ob a (.lst ds)))) (h0 : Iv 0 fs)
    (hs : ∀ i d f, ds[i]? = some d → Iv i f → ∃ f', PutG K g d f f' ∧ StF K tb f' { nx := Iv (i + 1), ct := Iv (i + 1), bk := P.nx, rt := P.rt }) (hd : ∀ f, Iv ds.length f → P.nx f) : StF K (tFor (iList K (tVar j)) g tb) fs P := fun B H0 H σ D F n r b c => by
  obtain ⟨h1, _, vs0, h3, h4⟩ := F.own (hj 0 fs (Nat.zero_le _) h0)
  refine ⟨_, h1, a, rfl, ⟨vs0, Evl.sq_of h3⟩, ?_⟩
  refine ⟨fun i m σ H => m = ds.length - i ∧ i ≤ ds.length ∧ ∃ f, Iv i f ∧ Fr K B H0 H σ f, ⟨_, rfl, Nat.zero_le _, fs, h0, F⟩, ?_⟩
  rintro i m σ2 H2 ⟨rfl, hi, f, hf, F2⟩
  obtain ⟨_, _, vs, g3, g4⟩ := F2.own (hj i f hi hf)
  have gl := g4.len
  by_cases hlt : i < ds.length
  · refine .inr ⟨⟨vs, vs[i]'(by omega), Evl.sq_of g3, by simp [show i < vs.length by omega]⟩, fun σ H => ∃ f, Iv (i + 1) f ∧ Fr K B H0 H σ f, fun σ' H' p => ⟨ds.length - (i + 1), by omega, rfl, by omega, p⟩, fun x H' y => ?_⟩
    obtain ⟨rfl, y⟩ := y
    obtain ⟨d, hd1, hx⟩ := dpAll_get g4.now (y vs (Evl.sq_of g3))
    obtain ⟨f', hp, hb⟩ := hs i d f hd1 hf
    refine hp B H0 H' σ2 x F2 hx _ fun σ4 H4 e4 F4 => ?_
    exact hb B H0 H4 σ4 _ F4 (fun f5 σ5 H5 p F5 => ⟨f5, p, F5⟩) r (fun f5 σ5 H5 p F5 => n f5 σ5 H5 p F5) fun f5 σ5 H5 p F5 => ⟨f5, p, F5⟩
  · have e : i = ds.length := by omega
    subst e
    exact .inl ⟨⟨vs, Evl.sq_of g3, by omega⟩, n f σ2 H2 (hd f hf) F2⟩
/-! ### comprehensions -/
theorem wipe_at {α : Type} (set : List (Option α) → Nat → List (Option α)) : True := trivial
theorem wipe_get {σ : St} {i : Nat} : ∀ {vs : List Nat}, (wipe σ vs)[i]? = if i ∈ vs then (if i < σ.length then some none else none) else σ[i]?
  | [] => by simp [wipe]
  | v :: vs => by
    have ih := wipe_get (σ := σ) (i := i) (vs := vs)
    unfold wipe
    by_cases hv : v = i
    · subst hv
      rw [if_pos List.mem_cons_self]
      by_cases hl : v < σ.length
      · rw [List.getElem?_set_self (by rw [wipe_length]; exact hl), if_pos hl]
      · rw [List.getElem?_eq_none (by rw [List.length_set, wipe_length]; omega), if_neg hl]
    · rw [List.getElem?_set_ne hv, ih]
      by_cases hm : i ∈ vs
      · rw [if_pos hm, if_pos (List.mem_cons_of_mem _ hm)]
      · rw [if_neg hm, if_neg (fun z => (List.mem_cons.mp z).elim (fun q => hv q.symm) hm)]
theorem wipe_set {σ : St} {j : Nat} {y : Option V} {vs : List Nat} (hj : j ∈ vs) : wipe ((wipe σ vs).set j y) vs = wipe σ vs := by
  apply List.ext_getElem?
  intro i
  rw [wipe_get, wipe_get, List.length_set, wipe_length]
  by_cases hm : i ∈ vs
  · rw [if_pos hm, if_pos hm]
  · have hne : j ≠ i := fun e => hm (e ▸ hj)
    rw [if_neg hm, if_neg hm, List.getElem?_set_ne hne, wipe_get, if_neg hm]
theorem wipe_sets {σ : St} {i j : Nat} {x y : Option V} {vs : List Nat} (hi : i ∈ vs) (hj : j ∈ vs) : wipe (((wipe σ vs).set i x).set j y) vs = wipe σ vs := by
  apply List.ext_getElem?
  intro k
  rw [wipe_get, wipe_get, List.length_set, List.length_set, wipe_length]
  by_cases hm : k ∈ vs
  · rw [if_pos hm, if_pos hm]
  · have h1 : j ≠ k := fun e => hm (e ▸ hj)
    have h2 : i ≠ k := fun e => hm (e ▸ hi)
    rw [if_neg hm, if_neg hm, List.getElem?_set_ne h1, List.getElem?_set_ne h2, wipe_get, if_neg hm]
theorem wipeF_len (fs : Fm) : ∀ vs : List Nat, (wipeF fs vs).length = fs.length
  | [] => rfl
  | v :: vs => by unfold wipeF; rw [List.length_set, wipeF_len fs vs]
/-- a comprehension's target -/
def PutC (K : PySem.W.Frag) (g : TG) (vs : List Nat) (d : PyData) (fs f' : Fm) : Prop := ∀ (B H0 H : Hp) (σ : St) (x : V), Fr K B H0 H (wipe σ vs) (wipeF fs vs) → Dp K H x d → ∀ Q : St → Hp → Prop, (∀ σ' H', Ex H H' → Fr K B H0 H' σ' f' → wipe σ' vs = wipe σ vs → Q σ' H') → g x (wipe σ vs) H Q
theorem putc_name {j : Nat} {vs : List Nat} (hj : j ∈ vs) (hl : j < fs.length) (hi : imm d = true) : PutC K (gName j) vs d fs ((wipeF fs vs).set j (some (.im d))) := fun B H0 H σ x F hx Q q =>
  q _ H (Evl.Ex.refl H) (F.setD (Evl.Ex.refl H) (by rw [wipeF_len]; exact hl) ⟨hx, .inl hi⟩) (wipe_set hj)
theorem putc_tup2 {i j : Nat} {vs : List Nat} {d1 d2 : PyData} (hi : i ∈ vs) (hj : j ∈ vs) (hil : i < fs.length) (hl : j < fs.length) (h1 : imm d1 = true) (h2 : imm d2 = true) :
    PutC K (gTup K 2 (gCons (gName i) (gCons (gName j) gNil))) vs (.tuple [d1, d2]) fs (((wipeF fs vs).set i (some (.im d1))).set j (some (.im d2))) := fun B H0 H σ x F hx Q q => by
  obtain ⟨a, xs, rfl, h4, h5⟩ := dp_tup hx
  cases h5 with
  | cons g1 g2 =>
    cases g2 with
    | cons g2 g3 =>
      cases g3
      refine ⟨a, _, rfl, h4, rfl, _, _, rfl, _, _, rfl, rfl, q _ H (Evl.Ex.refl H) ?_ (wipe_sets hi hj)⟩
      exact (F.setD (Evl.Ex.refl H) (by rw [wipeF_len]; exact hil) ⟨g1, .inl h1⟩).setD (Evl.Ex.refl H) (by rw [List.length_set, wipeF_len]; exact hl) ⟨g2, .inl h2⟩
/-- the new list, turn by turn -/
def madeD (b : PyData → Bool) (g : PyData → PyData) (ds : List PyData) : List PyData := (ds.filter b).map g
theorem madeD_take {b : PyData → Bool} {g : PyData → PyData} {i : Nat} {d : PyData} (h : ds[i]? = some d) : madeD b g (ds.take (i + 1)) = if b d = true then madeD b g (ds.take i) ++ [g d] else madeD b g (ds.take i) := by
  unfold madeD
  rw [List.take_succ, h, List.filter_append, List.map_append]
  cases hb : b d with
  | true => simp [hb]
  | false => simp [hb]
theorem en_lc {g : TG} {vs : List Nat} (b : PyData → Bool) (gv : PyData → PyData) (h : EvW K fs wi ds) (hl : ds.length < 100000)
    (hs : ∀ d ∈ ds, ∃ f', PutC K g vs d fs f' ∧ EvT K f' tt (b d) ∧ (b d = true → EvC K f' te (gv d) ∧ imm (gv d) = true)) : EvN K fs (tLc wi g tt te vs) (.lst (madeD b gv ds)) := fun B H0 H σ F Q q =>
  h B H0 H σ F _ fun J H1 e1 ⟨G, Y, w, hG, hY⟩ Dl hD => by
    refine lc_it w (fun i H' => Ex H1 H' ∧ ∃ acc, H' Dl = some (.lst acc) ∧ DpAll K H' acc (madeD b gv (ds.take i)) ∧ immAll (madeD b gv (ds.take i)) = true ∧ acc.length ≤ i) ⟨Evl.Ex.new hD, [], upd_same, .nil, rfl, Nat.le_refl _⟩ (fun i H' _ p => hG H' p.1) (fun i x H2 H3 hi p y => ?_) fun H' p => ?_
    · obtain ⟨p1, acc, p2, p3, p4, p5⟩ := p
      obtain ⟨e3, d, hd1, hx⟩ := hY i H2 x H3 p1 y
      obtain ⟨f', hp, ht, he⟩ := hs d (List.mem_of_getElem? hd1)
      refine hp B H0 H3 σ x ((F.mono (e1.trans (p1.trans e3))).wipe vs) hx _ fun σ4 H4 e4 F4 hw => ⟨hw, ?_⟩
      refine ht B H0 H4 σ4 F4 _ fun H5 e5 => ?_
      rw [madeD_take hd1]
      cases hb : b d with
      | true =>
        refine (show te σ4 H5 _ from (he hb).1 B H0 H5 σ4 (F4.mono e5) _ fun v H6 e6 hv => ?_)
        have ea : Ex H2 H6 := ((e3.trans e4).trans e5).trans e6
        have g2 := ea Dl _ p2
        have ej : Ej H6 (upd H6 Dl (.lst (acc ++ [v]))) := Ej.upd g2 (fun _ e => nomatch e) (fun _ _ e => nomatch e)
        refine ⟨acc, g2, Evl.sz_lt (by omega), Evl.Ex.mut (p1.trans ea) hD, acc ++ [v], upd_same, ?_, ?_, by rw [List.length_append, List.length_singleton]; omega⟩
        · rw [if_pos rfl]
          exact dpAll_app (dpAll_ej ej _ _ p4 (dpAll_ex ea _ _ p3)) (dpAll_one (dp_ej ej _ _ (he hb).2 hv))
        · rw [if_pos rfl]
          rw [immAll_iff] at p4 ⊢
          intro z hz
          rcases List.mem_append.mp hz with q | q
          · exact p4 z q
          · rw [List.mem_singleton.mp q]
            exact (he hb).2
      | false =>
        have ea : Ex H2 H5 := (e3.trans e4).trans e5
        refine (show _ ∧ _ from ⟨p1.trans ea, acc, ea Dl _ p2, ?_, ?_, by omega⟩)
        · rw [if_neg (by decide)]
          exact dpAll_ex ea _ _ p3
        · rw [if_neg (by decide)]
          exact p4
    · obtain ⟨p1, acc, p2, p3, p4, p5⟩ := p
      rw [List.take_length] at p3 p4
      exact q Dl H' (e1.trans p1) (fresh_ex e1 hD) ⟨acc, p2, .of p3 p4⟩
/-! ### promises -/
inductive Res where
  | d (d : PyData) | n (o : Ob)
def ResP (K : PySem.W.Frag) (H H' : Hp) (v : V) : Res → Prop
  | .d d => Stab K H H' v d
  | .n o => ∃ a, v = .ref a ∧ H a = none ∧ OwnOk K H H' a o
/-- a def that changes nothing: what it answers to which data -/
def spF (K : PySem.W.Frag) (R : List PyData → Res → Prop) : Sp := fun vs H Q _ => ∃ ds r, R ds r ∧ DpAll K H vs ds ∧ ∀ v H', Ex H H' → ResP K H H' v r → Q v H'
theorem spF_len {R : List PyData → Res → Prop} {n : Nat} (hR : ∀ ds r, R ds r → ds.length = n) (vs : List V) (H : Hp) (Q : VK) (E : XK) (h : spF K R vs H Q E) : vs.length = n := by
  obtain ⟨ds, r, h1, h2, _⟩ := h
  rw [dpAll_len h2, hR ds r h1]
variable {R : List PyData → Res → Prop} {t : TA} {as : List PyData} {E : XK}
theorem es_call (h : EvA K fs t as) (hR : R as (.d d)) (hi : imm d = true) : EvS K fs (tCall (spF K R) [] E t) d := fun B H0 H σ F Q q =>
  h B H0 H σ F _ fun vs H1 e1 h1 => ⟨as, .d d, hR, by rw [List.append_nil]; exact h1, fun v H2 e2 r => q v H2 (e1.trans e2) ⟨r.1, .inl hi⟩⟩
theorem ec_call (h : EvA K fs t as) (hR : R as (.d d)) : EvC K fs (tCall (spF K R) [] E t) d := fun B H0 H σ F Q q =>
  h B H0 H σ F _ fun vs H1 e1 h1 => ⟨as, .d d, hR, by rw [List.append_nil]; exact h1, fun v H2 e2 r => q v H2 (e1.trans e2) r.1⟩
theorem en_call (h : EvA K fs t as) (hR : R as (.n (.lst ds))) (hi : immAll ds = true) : EvN K fs (tCall (spF K R) [] E t) (.lst ds) := fun B H0 H σ F Q q =>
  h B H0 H σ F _ fun vs H1 e1 h1 => ⟨as, .n (.lst ds), hR, by rw [List.append_nil]; exact h1, fun v H2 e2 r => by
    obtain ⟨a, rfl, hn, ws, h2, h3⟩ := r
    exact q a H2 (e1.trans e2) (fresh_ex e1 hn) ⟨ws, h2, .of h3.now hi⟩⟩
def startF (n : Nat) (ds : List PyData) : Fm := ds.map (fun d => some (.im d)) ++ List.replicate (n - ds.length) none
def IsRes : Sl → Res → Prop
  | .im d, .d e => d = e
  | .ob _ o, .n u => o = u
  | _, _ => False
theorem fr_start {H : Hp} {vs : List V} {N : List Str} (h : DpAll K H vs ds) : Fr K H H H (L2.start N vs) (startF N.length ds) := by
  have hl := dpAll_len h
  refine ⟨Evl.Ex.refl H, Evl.Ex.refl H, ?_, fun i s hs => ?_, fun i j a o u hij hi hj => ?_⟩
  · unfold L2.start startF
    rw [List.length_append, List.length_append, List.length_map, List.length_map, hl, List.length_replicate, List.length_replicate]
  · unfold startF at hs
    unfold L2.start
    by_cases hi : i < ds.length
    · rw [List.getElem?_append_left (by simpa using hi), List.getElem?_map] at hs
      cases hd : ds[i]? with
      | none => rw [hd] at hs; cases hs
      | some d =>
        rw [hd] at hs
        cases hs
        obtain ⟨v, h1, h2⟩ := dpAll_at h hd
        refine ⟨v, ?_, h2, .inr h2⟩
        rw [List.getElem?_append_left (by simpa [hl] using hi), List.getElem?_map, h1]
        rfl
    · rw [List.getElem?_append_right (by simpa using hi), List.getElem?_replicate] at hs
      split at hs <;> cases hs
  · unfold startF at hi
    by_cases hl : i < ds.length
    · rw [List.getElem?_append_left (by simpa using hl), List.getElem?_map] at hi
      cases hd : ds[i]? with
      | none => rw [hd] at hi; cases hi
      | some d => rw [hd] at hi; cases hi
    · rw [List.getElem?_append_right (by simpa using hl), List.getElem?_replicate] at hi
      split at hi <;> cases hi
theorem run_pure {N : List Str} {n : Nat} {ts : TS} (hn : N.length = n) (h : ∀ ds r, R ds r → StF K ts (startF n ds) { nx := fun _ => r = .d .none, rt := fun s => IsRes s r }) (vs : List V) (H : Hp) (Q : VK) (E : XK) (hs : spF K R vs H Q E) :
    ts { nx := fun _ H' => Q .non H', rt := Q } (L2.start N vs) H := by
  obtain ⟨ds, r, h1, h2, q⟩ := hs
  subst hn
  refine h ds r h1 H H H (L2.start N vs) _ (fr_start h2) (fun f σ' H' e F => ?_) (fun s v H' e e0 hv => ?_) (fun _ _ _ e => e.elim) fun _ _ _ e => e.elim
  · subst e
    exact q _ H' F.ex ⟨.non, .inl rfl⟩
  · cases s with
    | im d => cases r with
      | d e' =>
        have e2 : d = e' := e
        subst e2
        exact q v H' e0 hv
      | n o => exact e.elim
    | ob a o => cases r with
      | d e' => exact e.elim
      | n u =>
        have e2 : o = u := e
        subst e2
        exact q v H' e0 ⟨a, hv⟩
    | raw w => cases r <;> exact e.elim
end
end T9

set_option maxHeartbeats 1000000
/-! KitM: max(xs, default=d) of a list of ints. -/
namespace T9
open PySem PySem.Spec PyProof.Rows L2
section
variable {pr : Program} {wo : World} {Ar : Around} {Rs : Result → Shared → Prop} {it : Addr} {fp wr : List Addr} {n : Nat} {Pv : Nat → Value → Prop} {Sv : Nat → Heap → Prop} {kw : List (Str × Value)}
theorem mx_name : (toString "max" ++ toString ".loop" : String) = "max.loop" := by decide
theorem mx_loop (wk : Walks pr wo Ar.in1 it fp wr n Pv Sv) (bt : Nat → Nat → Bool) (hc : CmpOf pr wo Ar.in1 .Gt Pv bt) (bs : Addr) (hf : bs ∉ fp) :
    ∀ (m j : Nat) (s : Shared) (vb : Value) (c : Nat), n - (j + 1) = m → j + 1 ≤ n → Sv (j + 1) s.heap → Pv (argBest bt j) vb →
    s.heap.get? bs = some { cls := .type "list", dict := none, data := .seq #[vb, vb] c, slots := #[] } →
    (∀ v h' tk, Pv (argBest bt (n - 1)) v → (∀ b o, b ∉ wr → b ≠ bs → s.heap.get? b = some o → h'.get? b = some o) → Rs (.ok (.ret v)) { s with heap := h', toks := tk }) →
    codeAny (model pr wo) Ar (.builtin "max.loop" ⟨[.ref it, .none, .ref bs], kw⟩) Rs s := by
  have hw : bs ∉ wr := fun q => hf (wk.sub _ q)
  intro m
  induction m with
  | zero =>
    intro j s vb c hk hj hst hp hb hR
    have hn : j + 1 = n := by omega
    refine codeAny_builtin PySem.F.entry_max_loop ?_
    rw [Around.under_plainId PySem.F.plain_max_loop _]
    refine wpAny_bind (m := seqItems? (.ref bs)) (wpAny_seqItems hb rfl ?_)
    refine wpAny_bind (m := tryCatch (pyNext (.ref it)) _) (wpAny_tryCatch (wk.done s _ _ (hn ▸ hst) fun h' tk kk => ?_))
    have hb' := kk bs _ hw hb
    refine wpAny_bind (m := updateSeq bs (fun _ => #[])) ?_
    refine wpAny_updateSeq hb' rfl (wpAny_bind (wpAny_letGo (wpAny_pure ?_)))
    refine hR vb _ tk (by rw [← hn]; exact hp) fun b o h1 h2 e => ?_
    exact (Heap.get?_update_other _ _ (Ne.symm h2)).trans (kk b o h1 e)
  | succ m ih =>
    intro j s vb c hk hj hst hp hb hR
    have hlt : j + 1 < n := by omega
    refine codeAny_builtin PySem.F.entry_max_loop ?_
    rw [Around.under_plainId PySem.F.plain_max_loop _]
    refine wpAny_bind (m := seqItems? (.ref bs)) (wpAny_seqItems hb rfl ?_)
    refine wpAny_bind (m := tryCatch (pyNext (.ref it)) _) (wpAny_tryCatch (wk.item (j + 1) s _ _ hlt hst fun v h' tk hv hst' kk => ?_))
    have hb' := kk bs _ hw hb
    refine wpAny_bind (m := tryCatch (holding [v, v] (richCompare .Gt v vb >>= _)) _) (wpAny_tryCatch (wpAny_holding (wpAny_bind (hc (j + 1) (argBest bt j) v vb _ _ _ hv hp ?_))))
    refine wpAny_bind (wpAny_holding (wpAny_truthy_bool ?_))
    refine wpAny_bind (wpAny_letGo (wpAny_pure ?_))
    cases hbt : bt (j + 1) (argBest bt j) with
    | true =>
      simp only [if_true]
      refine wpAny_bind ?_
      refine wpAny_updateSeq hb' rfl (wpAny_bind (wpAny_letGo ?_))
      rw [mx_name]
      refine wpAny_pure ⟨plainId_quiet PySem.F.plain_max_loop _, ih (j + 1) _ v _ (by omega) hlt (wk.frame _ _ _ hst' fun b h1 o e => ?_) ?_ (Heap.get?_update_self _ hb' rfl) fun v' h2 tk2 hp2 kk2 => ?_⟩
      · refine (Heap.get?_update_other _ _ fun q : bs = b => hf ?_).trans e
        rw [q]
        exact h1
      · simp only [argBest, hbt, if_true]
        exact hv
      · exact hR v' h2 tk2 hp2 fun b o h3 h4 e => kk2 b o h3 h4 ((Heap.get?_update_other _ _ (Ne.symm h4)).trans (kk b o h3 e))
    | false =>
      simp only [Bool.false_eq_true, if_false]
      refine wpAny_bind (wpAny_letGo ?_)
      rw [mx_name]
      refine wpAny_pure ⟨plainId_quiet PySem.F.plain_max_loop _, ih (j + 1) _ vb c (by omega) hlt hst' ?_ hb' fun v' h2 tk2 hp2 kk2 => ?_⟩
      · simp only [argBest, hbt, Bool.false_eq_true, if_false]
        exact hp
      · exact hR v' h2 tk2 hp2 fun b o h3 h4 e => kk2 b o h3 h4 (kk b o h3 e)
theorem mx_first (wk : Walks pr wo Ar.in1 it fp wr n Pv Sv) (bt : Nat → Nat → Bool) (hc : CmpOf pr wo Ar.in1 .Gt Pv bt) (bs : Addr) (hf : bs ∉ fp) (hn : 0 < n) {s : Shared} {c : Nat} (hst : Sv 0 s.heap)
    (hb : s.heap.get? bs = some { cls := .type "list", dict := none, data := .seq #[] c, slots := #[] })
    (hR : ∀ v h' tk, Pv (argBest bt (n - 1)) v → (∀ b o, b ∉ wr → b ≠ bs → s.heap.get? b = some o → h'.get? b = some o) → Rs (.ok (.ret v)) { s with heap := h', toks := tk }) :
    codeAny (model pr wo) Ar (.builtin "max.loop" ⟨[.ref it, .none, .ref bs], kw⟩) Rs s := by
  have hw : bs ∉ wr := fun q => hf (wk.sub _ q)
  refine codeAny_builtin PySem.F.entry_max_loop ?_
  rw [Around.under_plainId PySem.F.plain_max_loop _]
  refine wpAny_bind (m := seqItems? (.ref bs)) (wpAny_seqItems hb rfl ?_)
  refine wpAny_bind (m := tryCatch (pyNext (.ref it)) _) (wpAny_tryCatch (wk.item 0 s _ _ hn hst fun v h' tk hv hst' kk => ?_))
  have hb' := kk bs _ hw hb
  refine wpAny_bind (m := updateSeq bs (fun _ => #[v, v])) ?_
  refine wpAny_updateSeq hb' rfl ?_
  rw [mx_name]
  refine wpAny_pure ⟨plainId_quiet PySem.F.plain_max_loop _, mx_loop wk bt hc bs hf _ 0 _ v _ rfl hn (wk.frame _ _ _ hst' fun b h1 o e => ?_) hv (Heap.get?_update_self _ hb' rfl) fun v' h2 tk2 hp2 kk2 => ?_⟩
  · refine (Heap.get?_update_other _ _ fun q : bs = b => hf ?_).trans e
    rw [q]
    exact h1
  · exact hR v' h2 tk2 hp2 fun b o h3 h4 e => kk2 b o h3 h4 ((Heap.get?_update_other _ _ (Ne.symm h4)).trans (kk b o h3 e))
theorem mx_empty (wk : Walks pr wo Ar.in1 it fp wr n Pv Sv) (bs : Addr) (hf : bs ∉ fp) (hn : n = 0) {s : Shared} {c : Nat} {key : Str} {d : Value} (hst : Sv 0 s.heap)
    (hb : s.heap.get? bs = some { cls := .type "list", dict := none, data := .seq #[] c, slots := #[] })
    (hR : ∀ h' tk, (∀ b o, b ∉ wr → s.heap.get? b = some o → h'.get? b = some o) → Rs (.ok (.ret d)) { s with heap := h', toks := tk }) :
    codeAny (model pr wo) Ar (.builtin "max.loop" ⟨[.ref it, .none, .ref bs], [(key, d)]⟩) Rs s := by
  subst hn
  refine codeAny_builtin PySem.F.entry_max_loop ?_
  rw [Around.under_plainId PySem.F.plain_max_loop _]
  refine wpAny_bind (m := seqItems? (.ref bs)) (wpAny_seqItems hb rfl ?_)
  refine wpAny_bind (m := tryCatch (pyNext (.ref it)) _) (wpAny_tryCatch (wk.done s _ _ hst fun h' tk kk => ?_))
  exact wpAny_bind (wpAny_rule (wpAny_pure (hR h' tk kk)))
theorem mx_args (a d : Value) : argsOk "max" ⟨[a], [(Str.ofString "default", d)]⟩ := by unfold argsOk; kernel_rfl
end
section
variable {pr : Program} {wo : World} {Ar : Around} {E : Value → Shared → Prop} {s : Shared} {l : Addr} {xs : Array (Int × Tok)} {Q : Value → Shared → Prop} {d : Value}
theorem call_tree_kw {id : String} {b : Builtin} {args : List Value} {kw : List (Str × Value)} (hk : builtinKind id = none) (hp : plainId id = true) (hb : entryFor table id = some b) (ha : argsOk id ⟨args, kw⟩)
    (hc : wpAny (model pr wo) Ar.in1 (b ⟨args, kw⟩) (fun fin s' => match fin with
      | .done f => (match (Except.ok f : Result) with | .ok (.ret v) => Q v s' | .ok _ => False | .error e => E e s')
      | .again c' => c'.quiet = true ∧ codeAny (model pr wo) Ar c' (fun r s' => match r with | .ok (.ret v) => Q v s' | .ok _ => False | .error e => E e s') s') E s) :
    wpAny (model pr wo) Ar (call (.builtin id) args kw) Q E s := by
  refine wpAny_call (codeAny_call_builtin hp hb ?_)
  simp only [checkBuiltinCall, hk]
  cases hs : Manifest.signature? id with
  | none => exact wpAny_pure hc
  | some sg =>
    have h2 : Bind.checkArgs id sg ⟨args, kw⟩ = pure () := by simpa only [argsOk, hs] using ha
    simp only [h2]
    exact wpAny_pure hc
theorem mx_ints (hh : Ar.handled = none) (hl : s.heap.IsList l (intItems xs))
    (h : ∀ v h' tk, (xs.size = 0 → v = d) → (0 < xs.size → (intItems xs)[argBest (fun i j => decide (numAt xs i > numAt xs j)) (xs.size - 1)]? = some v) → (∀ b o, s.heap.get? b = some o → h'.get? b = some o) → Q v { s with heap := h', toks := tk }) :
    wpAny (model pr wo) Ar (call (.builtin "max") [.ref l] [(Str.ofString "default", d)]) Q E s := by
  refine call_tree_kw PySem.F.kind_max PySem.F.plain_max PySem.F.entry_max (mx_args _ _) ?_
  refine wpAny_bind (m := Builtin.Builtins.bindParams "max" ["key", "default"] 0 ⟨[], [(Str.ofString "default", d)]⟩) (wpAny_of_eq (show Builtin.Builtins.bindParams "max" ["key", "default"] 0 ⟨[], [(Str.ofString "default", d)]⟩ = pure [none, some d] from rfl) ?_)
  refine wpAny_bind (wpAny_pure ?_)
  refine wpAny_bind (iter_intList hl fun s2 e st hfp hne => ?_)
  refine wpAny_bind (wpAny_newObj_type ?_)
  have wk := Walks.list (prog := pr) (w := wo) (A := Ar.in1) hh s.heap.objs.size l hne (intItems xs)
  have hbs : s2.heap.objs.size ∉ [s.heap.objs.size, l] := fun q => Nat.lt_irrefl _ (hfp _ q)
  rw [mx_name]
  by_cases h0 : xs.size = 0
  · refine wpAny_pure ⟨plainId_quiet PySem.F.plain_max_loop _, mx_empty wk _ hbs (by simpa [intItems] using h0) (wk.frame _ _ _ st fun b _ o q => Heap.get?_push_of_some _ q) (Heap.get?_push_size _ rfl) fun h' tk kk => ?_⟩
    subst e
    exact h d h' tk (fun _ => rfl) (fun q => absurd h0 (Nat.ne_of_gt q)) (old_kept (l := l) fun b o hb q => kk b o hb (Heap.get?_push_of_some _ q))
  · refine wpAny_pure ⟨plainId_quiet PySem.F.plain_max_loop _, mx_first wk (fun i j => decide (numAt xs i > numAt xs j)) (CmpOf.ints_gt (numAt xs) fun _ _ => intItems_at) _ hbs (by simpa [intItems] using Nat.pos_of_ne_zero h0) (wk.frame _ _ _ st fun b _ o q => Heap.get?_push_of_some _ q) (Heap.get?_push_size _ rfl) fun v h' tk hv kk => ?_⟩
    subst e
    refine h v h' tk (fun q => absurd q h0) (fun _ => by simpa [intItems] using hv) (old_kept (l := l) fun b o hb q => ?_)
    exact kk b o hb (Nat.ne_of_lt (Heap.lt_size q)) (Heap.get?_push_of_some _ q)
end
/-- max(xs, default=i) -/
def rMaxD (K : PySem.W.Frag) : List V → List V → Hp → VK → Prop := fun vs zs H Q => ∃ (a : Addr) (ns : List Int) (i : Int), vs = [V.ref a] ∧ zs = [V.int i] ∧ SqL K H a (ns.map V.int) ∧ ∀ m, (ns = [] → m = i) → (ns ≠ [] → m ∈ ns ∧ ∀ y, y ∈ ns → y ≤ m) → Q (.int m) H
theorem cr_maxDft {X : Cx} (hc : X.calm = true) : CallRK X (.builtin "max") [Str.ofString "default"] (rMaxD X.K) := by
  intro pins s σ H vs zs us ws Q I r rz h
  obtain ⟨a, ns, i, rfl, rfl, hs, q⟩ := h
  obtain ⟨its, rv, hl, _⟩ := I.list hs
  obtain rfl := Vals.ref1 r
  obtain ⟨w1, rfl, t1, rfl⟩ := vals1 rz
  obtain ⟨xs, e⟩ := rv.ints.allInts.items
  have hn : numsOf (intItems xs).toList = ns := by
    rw [← e]
    exact rv.ints.numsOf
  rw [nums_intItems] at hn
  subst hn
  have hl' := hl.isList
  rw [e] at hl'
  refine mx_ints (I.ok.hd hc) hl' fun v h' tk h0 h1 hk => ?_
  by_cases hz : xs.size = 0
  · have ev := h0 hz
    subst ev
    exact ⟨.int i, H, I.kept hk, ⟨_, rfl⟩, q i (fun _ => rfl) fun z => absurd (List.map_eq_nil_iff.mpr (Array.toList_eq_nil_iff.mpr (Array.size_eq_zero_iff.mp hz))) z⟩
  · have hv := h1 (Nat.pos_of_ne_zero hz)
    obtain ⟨t, rfl⟩ := intItems_at hv
    obtain ⟨g1, g2⟩ := argBest_gt (numAt xs) (xs.size - 1)
    refine ⟨.int _, H, I.kept hk, ⟨_, rfl⟩, q _ (fun z => ?_) fun _ => ⟨?_, fun y hy => ?_⟩⟩
    · exact absurd (by simpa using congrArg List.length z) hz
    · rw [numAt_eq]
      exact PySem.getD_mem (by rw [List.length_map, Array.length_toList]; omega)
    · obtain ⟨j, hj, rfl⟩ := mem_getD hy
      rw [List.length_map, Array.length_toList] at hj
      rw [← numAt_eq]
      exact g2 j (by omega)
end T9

set_option maxHeartbeats 1000000
/-! KitD: operations, and what they make of data. -/
namespace T9
open PySem PySem.Spec PyProof.Rows L2
/-! ### readings that take all kinds -/
def rAddU (K : PySem.W.Frag) : R2 := fun x y H Q => rI0 (fun i j => .int (i + j)) x y H Q ∨ (∃ i j, x = .str i ∧ y = .str j ∧ i.length + j.length ≤ sizeLine ∧ Q (.str (i ++ j)) H) ∨ rCat x y H Q ∨ rCatA K x y H Q
def rLtU (K : PySem.W.Frag) : R2 := fun x y H Q => rI0 (fun i j => .bl (decide (i < j))) x y H Q ∨ (∃ i j, x = .str i ∧ y = .str j ∧ Q (.bl (decide (i.cps.toList < j.cps.toList))) H) ∨ rLtT K x y H Q
def rEqU (K : PySem.W.Frag) : R2 := fun x y H Q => rEq x y H Q ∨ rEqD K x y H Q
def rNeU (K : PySem.W.Frag) : R2 := fun x y H Q => rNe x y H Q ∨ rNeD K x y H Q
def rInU (K : PySem.W.Frag) : R2 := fun x y H Q => (∃ (c : Nat) (z : Str), x = .str ⟨#[c]⟩ ∧ y = .str z ∧ Q (.bl (decide (c ∈ z.cps.toList))) H) ∨ rIn K false x y H Q
def rNinU (K : PySem.W.Frag) : R2 := fun x y H Q => (∃ (c : Nat) (z : Str), x = .str ⟨#[c]⟩ ∧ y = .str z ∧ Q (.bl (!decide (c ∈ z.cps.toList))) H) ∨ rIn K true x y H Q
def rSlU (K : PySem.W.Frag) : V → Option Int → Option Int → Hp → VK → Prop := fun x lo hi H Q => rSlL K x lo hi H Q ∨ rSlA K x lo hi H Q ∨ rSlS x lo hi H Q
def rMulU : R2 := fun x y H Q => rI CMul (fun i j => .int (i * j)) x y H Q ∨ rI CMulW (fun i j => .int (i * j)) x y H Q
abbrev rSubU : R2 := rI0 fun i j => .int (i - j)
abbrev rDivU : R2 := rI CDiv fun i j => .int (i / j)
abbrev rModU : R2 := rI (fun _ j => 0 < j) fun i j => .int (i % j)
abbrev rPowU : R2 := rI CPow fun i j => .int (i ^ j.toNat)
abbrev rLeI : R2 := rI0 fun i j => .bl (decide (i ≤ j))
abbrev rGtI : R2 := rI0 fun i j => .bl (decide (j < i))
abbrev rGeI : R2 := rI0 fun i j => .bl (decide (j ≤ i))
def rIsNo : R2 := fun x y H Q => y = .non ∧ Q (.bl (decide (x = .non))) H
def rNotNo : R2 := fun x y H Q => y = .non ∧ Q (.bl (!decide (x = .non))) H
abbrev rNegU : V → Hp → VK → Prop := rU fun i => .int (-i)
abbrev rIntU : List V → Hp → VK → Prop := fun xs H Q => (∃ i, xs = [.int i] ∧ Q (.int i) H) ∨ ∃ k, xs = [.bl k] ∧ Q (.int (if k then 1 else 0)) H
abbrev rListU (K : PySem.W.Frag) : List V → Hp → VK → Prop := fun xs H Q => ∃ p ys, xs = [.ref p] ∧ (SqL K H p ys ∨ SqT K H p ys) ∧ ∀ l, H l = none → Q (.ref l) (upd H l (.lst ys))
abbrev rTupleU (K : PySem.W.Frag) : List V → Hp → VK → Prop := fun xs H Q => ∃ p ys, xs = [.ref p] ∧ ((SqL K H p ys ∧ ∀ l, H l = none → Q (.ref l) (upd H l (.tup ys))) ∨ (SqT K H p ys ∧ Q (.ref p) H))
abbrev rSplitU : V → List V → Hp → VK → Prop := fun x xs H Q => ∃ a b, x = .str a ∧ xs = [.str b] ∧ (b.length == 0) = false ∧ a.length + 2 ≤ sizeLine ∧ rNewStrs (Txt.split a b) H Q
abbrev rJoinU (K : PySem.W.Frag) : V → List V → Hp → VK → Prop := fun x xs H Q => ∃ a p, ∃ ys : List Str, x = .str a ∧ xs = [.ref p] ∧ (SqL K H p (ys.map V.str) ∨ SqT K H p (ys.map V.str)) ∧ (ys.map (·.length)).sum + ys.length * a.length ≤ 16777216 ∧ Q (.str (Txt.join a ys)) H
section
variable {X : Cx}
theorem op_addU : OpR X (binaryOp .Add) (rAddU X.K) := OpR.or op_add (OpR.or op_add_str (OpR.or op_cat op_catA))
theorem op_ltU (hu : X.A.units < cLine) : OpR X (compareOp .Lt) (rLtU X.K) := OpR.or op_lt (OpR.or op_lt_str (op_ltT hu))
theorem op_eqU (hu : X.A.units + 64 < cLine) : OpR X (compareOp .Eq) (rEqU X.K) := OpR.or op_eq (op_eqD hu)
theorem op_neU (hu : X.A.units + 64 < cLine) : OpR X (compareOp .NotEq) (rNeU X.K) := OpR.or op_ne (op_neD hu)
theorem op_inU : OpR X (compareOp .In) (rInU X.K) := OpR.or op_in_sign op_in_seq
theorem op_ninU : OpR X (compareOp .NotIn) (rNinU X.K) := OpR.or op_notIn_sign op_notIn_seq
theorem op_mulU : OpR X (binaryOp .Mult) rMulU := OpR.or op_mul op_mulW
theorem sl_U : SlR X (rSlU X.K) := SlR.or sl_list (SlR.or sl_tupA sl_str)
end
/-! ### on data -/
section
variable {K : PySem.W.Frag} {fs : Fm} {ta tb te : TE} {d e c : PyData} {ds es : List PyData} {t : TA}
theorem rd_addI {i j : Int} : RD K (rAddU K) (.int i) (.int j) (.int (i + j)) := fun x y H hx hy Q q => by
  cases dp_int hx
  cases dp_int hy
  exact .inl ⟨i, j, rfl, rfl, q _ H (Evl.Ex.refl H) (.int _)⟩
theorem rd_addS {i j : Str} (h : i.length + j.length ≤ 100000) : RD K (rAddU K) (.str i) (.str j) (.str (i ++ j)) := fun x y H hx hy Q q => by
  cases dp_str hx
  cases dp_str hy
  exact .inr (.inl ⟨i, j, rfl, rfl, Evl.sz_of h, q _ H (Evl.Ex.refl H) (.str _)⟩)
theorem rd_addT (h : ds.length + es.length ≤ 100000) : RD K (rAddU K) (.tuple ds) (.tuple es) (.tuple (ds ++ es)) := fun x y H hx hy Q q => by
  obtain ⟨a, xs, rfl, h1, h2⟩ := dp_tup hx
  obtain ⟨b, ys, rfl, h3, h4⟩ := dp_tup hy
  refine .inr (.inr (.inr ⟨a, b, xs, ys, rfl, rfl, h1, h3, Evl.sz_of (by rw [dpAll_len h2, dpAll_len h4]; exact h), fun e => ?_, fun n e => ?_, fun n m p hp => ?_⟩))
  · subst e
    cases h2
    exact q _ H (Evl.Ex.refl H) (.tup h3 h4)
  · subst e
    cases h4
    rw [List.append_nil] at q
    exact q _ H (Evl.Ex.refl H) (.tup h1 h2)
  · exact q _ _ (Evl.Ex.new hp) (.tup (Evl.st_of upd_same) (dpAll_ex (Evl.Ex.new hp) _ _ (dpAll_app h2 h4)))
theorem en_addL (ha : EvL K fs ta ds) (hb : EvL K fs tb es) (hi : immAll (ds ++ es) = true) (h : ds.length + es.length ≤ 100000) : EvN K fs (tOp (rAddU K) ta tb) (.lst (ds ++ es)) := fun B H0 H σ F Q q =>
  ha B H0 H σ F _ fun a xs H1 e1 h1 h2 => hb B H0 H1 σ (F.mono e1) _ fun b ys H2 e2 h3 h4 => .inr (.inr (.inl ⟨a, b, xs, ys, rfl, rfl, e2 a _ h1, h3, Evl.sz_of (by rw [dpAll_len h2, dpAll_len h4]; exact h), fun p hp =>
    q p _ ((e1.trans e2).trans (Evl.Ex.new hp)) (fresh_ex (e1.trans e2) hp) ⟨xs ++ ys, upd_same, .of (dpAll_ex (Evl.Ex.new hp) _ _ (dpAll_app (dpAll_ex e2 _ _ h2) h4)) hi⟩⟩))
theorem rd_subI {i j : Int} : RD K rSubU (.int i) (.int j) (.int (i - j)) := fun x y H hx hy Q q => by
  cases dp_int hx
  cases dp_int hy
  exact ⟨i, j, rfl, rfl, q _ H (Evl.Ex.refl H) (.int _)⟩
theorem rd_mulI {i j : Int} (h : CMul i j) : RD K rMulU (.int i) (.int j) (.int (i * j)) := fun x y H hx hy Q q => by
  cases dp_int hx
  cases dp_int hy
  exact .inl ⟨i, j, rfl, rfl, h, q _ H (Evl.Ex.refl H) (.int _)⟩
theorem rd_mulW {i j : Int} (h : CMulW i j) : RD K rMulU (.int i) (.int j) (.int (i * j)) := fun x y H hx hy Q q => by
  cases dp_int hx
  cases dp_int hy
  exact .inr ⟨i, j, rfl, rfl, h, q _ H (Evl.Ex.refl H) (.int _)⟩
theorem rd_I {C : Int → Int → Prop} {g : Int → Int → Int} {i j : Int} (h : C i j) : RD K (rI C fun i j => .int (g i j)) (.int i) (.int j) (.int (g i j)) := fun x y H hx hy Q q => by
  cases dp_int hx
  cases dp_int hy
  exact ⟨i, j, rfl, rfl, h, q _ H (Evl.Ex.refl H) (.int _)⟩
theorem rd_B {g : Int → Int → Bool} {i j : Int} : RD K (rI0 fun i j => .bl (g i j)) (.int i) (.int j) (.bool (g i j)) := fun x y H hx hy Q q => by
  cases dp_int hx
  cases dp_int hy
  exact ⟨i, j, rfl, rfl, q _ H (Evl.Ex.refl H) (.bl _)⟩
theorem rd_div {i j : Int} (h : CDiv i j) : RD K rDivU (.int i) (.int j) (.int (i / j)) := rd_I h
theorem rd_mod {i j : Int} (h : 0 < j) : RD K rModU (.int i) (.int j) (.int (i % j)) := rd_I (C := fun _ j => 0 < j) h
theorem rd_pow {i j : Int} (h : CPow i j) : RD K rPowU (.int i) (.int j) (.int (i ^ j.toNat)) := rd_I h
theorem rd_ltI {i j : Int} : RD K (rLtU K) (.int i) (.int j) (.bool (decide (i < j))) := fun x y H hx hy Q q => by
  cases dp_int hx
  cases dp_int hy
  exact .inl ⟨i, j, rfl, rfl, q _ H (Evl.Ex.refl H) (.bl _)⟩
theorem rd_ltS {i j : Str} : RD K (rLtU K) (.str i) (.str j) (.bool (decide (i.cps.toList < j.cps.toList))) := fun x y H hx hy Q q => by
  cases dp_str hx
  cases dp_str hy
  exact .inr (.inl ⟨i, j, rfl, rfl, q _ H (Evl.Ex.refl H) (.bl _)⟩)
theorem rd_leI {i j : Int} : RD K rLeI (.int i) (.int j) (.bool (decide (i ≤ j))) := rd_B
theorem rd_gtI {i j : Int} : RD K rGtI (.int i) (.int j) (.bool (decide (j < i))) := rd_B
theorem rd_geI {i j : Int} : RD K rGeI (.int i) (.int j) (.bool (decide (j ≤ i))) := rd_B
theorem ud_neg {i : Int} : UD K rNegU (.int i) (.int (-i)) := fun x H hx Q q => by
  cases dp_int hx
  exact ⟨i, rfl, q _ H (Evl.Ex.refl H) (.int _)⟩
theorem rd_eqS {i j : Str} : RD K (rEqU K) (.str i) (.str j) (.bool (decide (i = j))) := fun x y H hx hy Q q => by
  cases dp_str hx
  cases dp_str hy
  refine .inl ⟨rfl, ?_⟩
  have e : decide (V.str i = V.str j) = decide (i = j) := decide_eq_decide.mpr ⟨V.str.inj, congrArg _⟩
  rw [e]
  exact q _ H (Evl.Ex.refl H) (.bl _)
theorem rd_eqI {i j : Int} : RD K (rEqU K) (.int i) (.int j) (.bool (decide (i = j))) := fun x y H hx hy Q q => by
  cases dp_int hx
  cases dp_int hy
  refine .inl ⟨rfl, ?_⟩
  have e : decide (V.int i = V.int j) = decide (i = j) := decide_eq_decide.mpr ⟨V.int.inj, congrArg _⟩
  rw [e]
  exact q _ H (Evl.Ex.refl H) (.bl _)
theorem rd_eqD (h1 : SeqAt.shaped d = true) (h2 : SeqAt.shaped e = true) : RD K (rEqU K) d e (.bool (PyData.eqv d e)) := fun x y H hx hy Q q =>
  .inr ⟨d, e, hx, hy, h1, h2, q _ H (Evl.Ex.refl H) (.bl _)⟩
theorem rd_neS {i j : Str} : RD K (rNeU K) (.str i) (.str j) (.bool (!decide (i = j))) := fun x y H hx hy Q q => by
  cases dp_str hx
  cases dp_str hy
  refine .inl ⟨rfl, ?_⟩
  have e : decide (V.str i = V.str j) = decide (i = j) := decide_eq_decide.mpr ⟨V.str.inj, congrArg _⟩
  rw [e]
  exact q _ H (Evl.Ex.refl H) (.bl _)
theorem rd_neI {i j : Int} : RD K (rNeU K) (.int i) (.int j) (.bool (!decide (i = j))) := fun x y H hx hy Q q => by
  cases dp_int hx
  cases dp_int hy
  refine .inl ⟨rfl, ?_⟩
  have e : decide (V.int i = V.int j) = decide (i = j) := decide_eq_decide.mpr ⟨V.int.inj, congrArg _⟩
  rw [e]
  exact q _ H (Evl.Ex.refl H) (.bl _)
theorem rd_neD (h1 : SeqAt.shaped d = true) (h2 : SeqAt.shaped e = true) : RD K (rNeU K) d e (.bool (!PyData.eqv d e)) := fun x y H hx hy Q q =>
  .inr ⟨d, e, hx, hy, h1, h2, q _ H (Evl.Ex.refl H) (.bl _)⟩
/-- one sign in a text -/
theorem rd_inC {c : Nat} {z : Str} : RD K (rInU K) (.str ⟨#[c]⟩) (.str z) (.bool (decide (c ∈ z.cps.toList))) := fun x y H hx hy Q q => by
  cases dp_str hx
  cases dp_str hy
  exact .inl ⟨c, z, rfl, rfl, q _ H (Evl.Ex.refl H) (.bl _)⟩
theorem rd_ninC {c : Nat} {z : Str} : RD K (rNinU K) (.str ⟨#[c]⟩) (.str z) (.bool (!decide (c ∈ z.cps.toList))) := fun x y H hx hy Q q => by
  cases dp_str hx
  cases dp_str hy
  exact .inl ⟨c, z, rfl, rfl, q _ H (Evl.Ex.refl H) (.bl _)⟩
theorem inV_strs {x : Str} : ∀ {zs : List Str}, inV (.str x) (zs.map V.str) = decide (x ∈ zs)
  | [] => rfl
  | z :: zs => by
    have ih := inV_strs (x := x) (zs := zs)
    show (eqV (.str z) (.str x) || inV (.str x) (zs.map V.str)) = _
    rw [ih]
    have e : eqV (.str z) (.str x) = decide (x = z) := by
      show (z == x) = decide (x = z)
      by_cases h : x = z
      · subst h
        simp
      · rw [decide_eq_false h]
        exact beq_eq_false_iff_ne.mpr (Ne.symm h)
    rw [e]
    simp [List.mem_cons]
theorem inV_ints {x : Int} : ∀ {zs : List Int}, inV (.int x) (zs.map V.int) = decide (x ∈ zs)
  | [] => rfl
  | z :: zs => by
    have ih := inV_ints (x := x) (zs := zs)
    show (eqV (.int z) (.int x) || inV (.int x) (zs.map V.int)) = _
    rw [ih]
    have e : eqV (.int z) (.int x) = decide (x = z) := by
      show (z == x) = decide (x = z)
      by_cases h : x = z
      · subst h
        simp
      · rw [decide_eq_false h]
        exact beq_eq_false_iff_ne.mpr (Ne.symm h)
    rw [e]
    simp [List.mem_cons]
theorem flat_strs : ∀ zs : List Str, (zs.map V.str).all flatV = true
  | [] => rfl
  | z :: zs => by
    show (flatV (.str z) && (zs.map V.str).all flatV) = true
    rw [flat_strs zs]
    rfl
theorem flat_ints : ∀ zs : List Int, (zs.map V.int).all flatV = true
  | [] => rfl
  | z :: zs => by
    show (flatV (.int z) && (zs.map V.int).all flatV) = true
    rw [flat_ints zs]
    rfl
theorem rd_inT {x : Str} {zs : List Str} : RD K (rInU K) (.str x) (.tuple (zs.map .str)) (.bool (decide (x ∈ zs))) := fun u y H hx hy Q q => by
  cases dp_str hx
  obtain ⟨a, xs, rfl, h1, h2⟩ := dp_tup hy
  cases strs_of h2
  refine .inr ⟨a, _, rfl, .inr h1, rfl, flat_strs zs, ?_⟩
  rw [inV_strs]
  exact q _ H (Evl.Ex.refl H) (.bl _)
theorem rd_ninT {x : Str} {zs : List Str} : RD K (rNinU K) (.str x) (.tuple (zs.map .str)) (.bool (!decide (x ∈ zs))) := fun u y H hx hy Q q => by
  cases dp_str hx
  obtain ⟨a, xs, rfl, h1, h2⟩ := dp_tup hy
  cases strs_of h2
  refine .inr ⟨a, _, rfl, .inr h1, rfl, flat_strs zs, ?_⟩
  rw [inV_strs]
  exact q _ H (Evl.Ex.refl H) (.bl _)
theorem rd_ninTI {x : Int} {zs : List Int} : RD K (rNinU K) (.int x) (.tuple (zs.map .int)) (.bool (!decide (x ∈ zs))) := fun u y H hx hy Q q => by
  cases dp_int hx
  obtain ⟨a, xs, rfl, h1, h2⟩ := dp_tup hy
  cases ints_of h2
  refine .inr ⟨a, _, rfl, .inr h1, rfl, flat_ints zs, ?_⟩
  rw [inV_ints]
  exact q _ H (Evl.Ex.refl H) (.bl _)
theorem rd_inL {x : Str} {zs : List Str} : RD K (rInU K) (.str x) (.list (zs.map .str)) (.bool (decide (x ∈ zs))) := fun u y H hx hy Q q => by
  cases dp_str hx
  obtain ⟨a, xs, rfl, h1, h2⟩ := dp_lst hy
  cases strs_of h2
  refine .inr ⟨a, _, rfl, .inl h1, rfl, flat_strs zs, ?_⟩
  rw [inV_strs]
  exact q _ H (Evl.Ex.refl H) (.bl _)
/-! items -/
theorem dpAll_atI {H : Hp} {xs : List V} {i : Int} (h : DpAll K H xs ds) (ha : atI ds i = some d) : ∃ v, atI xs i = some v ∧ Dp K H v d := by
  unfold atI at ha ⊢
  rw [dpAll_len h]
  cases e : ixN ds.length i with
  | none =>
    rw [e] at ha
    cases ha
  | some j =>
    rw [e] at ha
    exact dpAll_at h ha
theorem rd_ixL {i : Int} (ha : atI ds i = some d) : RD K (rIx K) (.list ds) (.int i) d := fun x y H hx hy Q q => by
  cases dp_int hy
  obtain ⟨a, xs, rfl, h1, h2⟩ := dp_lst hx
  obtain ⟨v, h3, h4⟩ := dpAll_atI h2 ha
  exact .inl ⟨a, xs, i, v, rfl, rfl, h1, h3, q v H (Evl.Ex.refl H) h4⟩
theorem rd_ixT {i : Int} (ha : atI ds i = some d) : RD K (rIx K) (.tuple ds) (.int i) d := fun x y H hx hy Q q => by
  cases dp_int hy
  obtain ⟨a, xs, rfl, h1, h2⟩ := dp_tup hx
  obtain ⟨v, h3, h4⟩ := dpAll_atI h2 ha
  exact .inr (.inl ⟨a, xs, i, v, rfl, rfl, h1, h3, q v H (Evl.Ex.refl H) h4⟩)
theorem rd_ixS {i : Int} {z : Str} {c : Nat} (hz : z.length ≤ 100000) (ha : atI z.cps.toList i = some c) : RD K (rIx K) (.str z) (.int i) (.str ⟨#[c]⟩) := fun x y H hx hy Q q => by
  cases dp_int hy
  cases dp_str hx
  exact .inr (.inr ⟨z, i, c, rfl, rfl, Evl.sz_of hz, ha, q _ H (Evl.Ex.refl H) (.str _)⟩)
/-- an item of a stable list is stable -/
def cutD {α : Type} (xs : List α) (lo hi : Option Int) : List α := (xs.drop (HT.sIx xs.length 0 lo)).take (HT.sIx xs.length xs.length hi - HT.sIx xs.length 0 lo)
theorem dpAll_cut {H : Hp} {xs : List V} (h : DpAll K H xs ds) (lo hi : Option Int) : DpAll K H (cutV xs lo hi) (cutD ds lo hi) := by
  unfold cutV cutD
  rw [dpAll_len h]
  exact dpAll_take _ (dpAll_drop _ h)
theorem immAll_cut (h : immAll ds = true) (lo hi : Option Int) : immAll (cutD ds lo hi) = true := by
  rw [immAll_iff] at h ⊢
  exact fun d hd => h d (List.mem_of_mem_drop (List.mem_of_mem_take hd))
theorem en_slL {tl th : TO} {lo hi : Option Int} (h : EvC K fs te (.list ds)) (h1 : EvO K fs tl lo) (h2 : EvO K fs th hi) (hi' : immAll ds = true) : EvN K fs (tSl (rSlU K) te tl th) (.lst (cutD ds lo hi)) := fun B H0 H σ F Q q =>
  h B H0 H σ F _ fun v H1 e1 hv => h1 B H0 H1 σ (F.mono e1) _ fun H2 e2 => h2 B H0 H2 σ (F.mono (e1.trans e2)) _ fun H3 e3 => by
    obtain ⟨a, xs, rfl, g1, g2⟩ := dp_lst (dp_ex (e2.trans e3) _ _ hv)
    exact .inl ⟨a, xs, rfl, g1, fun p hp => q p _ (((e1.trans e2).trans e3).trans (Evl.Ex.new hp)) (fresh_ex ((e1.trans e2).trans e3) hp) ⟨_, upd_same, .of (dpAll_ex (Evl.Ex.new hp) _ _ (dpAll_cut g2 lo hi)) (immAll_cut hi' lo hi)⟩⟩
theorem ec_slT {tl th : TO} {lo hi : Option Int} (h : EvC K fs te (.tuple ds)) (h1 : EvO K fs tl lo) (h2 : EvO K fs th hi) : EvC K fs (tSl (rSlU K) te tl th) (.tuple (cutD ds lo hi)) := fun B H0 H σ F Q q =>
  h B H0 H σ F _ fun v H1 e1 hv => h1 B H0 H1 σ (F.mono e1) _ fun H2 e2 => h2 B H0 H2 σ (F.mono (e1.trans e2)) _ fun H3 e3 => by
    obtain ⟨a, xs, rfl, g1, g2⟩ := dp_tup (dp_ex (e2.trans e3) _ _ hv)
    refine .inr (.inl ⟨a, xs, rfl, g1, fun hw => ?_, fun _ p hp => ?_⟩)
    · have e : cutD ds lo hi = ds := by
        unfold cutD
        rw [dpAll_len g2] at hw
        rw [hw.1, hw.2]
        simp
      rw [e] at q
      exact q _ H3 ((e1.trans e2).trans e3) (.tup g1 g2)
    · exact q _ _ (((e1.trans e2).trans e3).trans (Evl.Ex.new hp)) (.tup (Evl.st_of upd_same) (dpAll_ex (Evl.Ex.new hp) _ _ (dpAll_cut g2 lo hi)))
theorem ec_slS {tl th : TO} {lo hi : Option Int} {z : Str} (h : EvC K fs te (.str z)) (h1 : EvO K fs tl lo) (h2 : EvO K fs th hi) (hz : z.length ≤ 100000) : EvC K fs (tSl (rSlU K) te tl th) (.str (cutS z lo hi)) := fun B H0 H σ F Q q =>
  h B H0 H σ F _ fun v H1 e1 hv => h1 B H0 H1 σ (F.mono e1) _ fun H2 e2 => h2 B H0 H2 σ (F.mono (e1.trans e2)) _ fun H3 e3 => by
    cases dp_str hv
    exact .inr (.inr ⟨z, rfl, Evl.sz_of hz, q _ H3 ((e1.trans e2).trans e3) (.str _)⟩)
/-! built-ins -/
theorem ad_lenL : AD K (rLen K) [.list ds] (.int ds.length) := fun xs H hx Q q => by
  cases hx with
  | cons h1 h2 =>
    cases h2
    obtain ⟨a, ys, rfl, g1, g2⟩ := dp_lst h1
    exact ⟨_, ys.length, rfl, .inl ⟨ys, g1, rfl⟩, by rw [dpAll_len g2]; exact q _ H (Evl.Ex.refl H) (.int _)⟩
theorem ad_lenT : AD K (rLen K) [.tuple ds] (.int ds.length) := fun xs H hx Q q => by
  cases hx with
  | cons h1 h2 =>
    cases h2
    obtain ⟨a, ys, rfl, g1, g2⟩ := dp_tup h1
    exact ⟨_, ys.length, rfl, .inr ⟨ys, g1, rfl⟩, by rw [dpAll_len g2]; exact q _ H (Evl.Ex.refl H) (.int _)⟩
theorem ad_lenS {z : Str} (h : z.length ≤ 100000) : AD K (rLen K) [.str z] (.int z.length) := fun xs H hx Q q => by
  cases hx with
  | cons h1 h2 =>
    cases h2
    cases dp_str h1
    exact ⟨_, z.length, rfl, ⟨Evl.sz_of h, rfl⟩, q _ H (Evl.Ex.refl H) (.int _)⟩
theorem ad_int {i : Int} : AD K rIntU [.int i] (.int i) := fun xs H hx Q q => by
  cases hx with
  | cons h1 h2 =>
    cases h2
    cases dp_int h1
    exact .inl ⟨i, rfl, q _ H (Evl.Ex.refl H) (.int _)⟩
theorem ad_intB {b : Bool} : AD K rIntU [.bool b] (.int (if b then 1 else 0)) := fun xs H hx Q q => by
  cases hx with
  | cons h1 h2 =>
    cases h2
    cases dp_bl h1
    exact .inr ⟨b, rfl, q _ H (Evl.Ex.refl H) (.int _)⟩
theorem ad_all {bs : List Bool} : AD K (rAll K) [.list (bs.map .bool)] (.bool (bs.all id)) := fun xs H hx Q q => by
  cases hx with
  | cons h1 h2 =>
    cases h2
    obtain ⟨a, ys, rfl, g1, g2⟩ := dp_lst h1
    cases bools_of g2
    exact ⟨a, bs, rfl, g1, q _ H (Evl.Ex.refl H) (.bl _)⟩
theorem al_listL : AL K (rListU K) [.list ds] ds := fun xs H hx Q q => by
  cases hx with
  | cons h1 h2 =>
    cases h2
    obtain ⟨a, ys, rfl, g1, g2⟩ := dp_lst h1
    exact ⟨a, ys, rfl, .inl g1, fun p hp => q p ys _ (Evl.Ex.new hp) hp upd_same (dpAll_ex (Evl.Ex.new hp) _ _ g2)⟩
theorem al_listT : AL K (rListU K) [.tuple ds] ds := fun xs H hx Q q => by
  cases hx with
  | cons h1 h2 =>
    cases h2
    obtain ⟨a, ys, rfl, g1, g2⟩ := dp_tup h1
    exact ⟨a, ys, rfl, .inr g1, fun p hp => q p ys _ (Evl.Ex.new hp) hp upd_same (dpAll_ex (Evl.Ex.new hp) _ _ g2)⟩
theorem ad_tupleL : AD K (rTupleU K) [.list ds] (.tuple ds) := fun xs H hx Q q => by
  cases hx with
  | cons h1 h2 =>
    cases h2
    obtain ⟨a, ys, rfl, g1, g2⟩ := dp_lst h1
    exact ⟨a, ys, rfl, .inl ⟨g1, fun p hp => q _ _ (Evl.Ex.new hp) (.tup (Evl.st_of upd_same) (dpAll_ex (Evl.Ex.new hp) _ _ g2))⟩⟩
theorem ad_max {ns : List Int} {m : Int} (h0 : ns ≠ []) (h1 : m ∈ ns) (h2 : ∀ y ∈ ns, y ≤ m) : AD K (rMax K) [.list (ns.map .int)] (.int m) := fun xs H hx Q q => by
  cases hx with
  | cons g1 g2 =>
    cases g2
    obtain ⟨a, ys, rfl, g1, g2⟩ := dp_lst g1
    cases ints_of g2
    refine ⟨a, ns, rfl, g1, List.length_pos_iff.mpr h0, fun k hk hle => ?_⟩
    have e : k = m := Int.le_antisymm (h2 k hk) (hle m h1)
    subst e
    exact q _ H (Evl.Ex.refl H) (.int _)
theorem ec_maxD {t tk : TA} {ns : List Int} {i m : Int} (h : EvA K fs t [.list (ns.map .int)]) (hk : EvA K fs tk [.int i]) (h0 : ns = [] → m = i) (h1 : ns ≠ [] → m ∈ ns ∧ ∀ y ∈ ns, y ≤ m) : EvC K fs (tCKw (rMaxD K) t tk) (.int m) := fun B H0 H σ F Q q =>
  h B H0 H σ F _ fun vs H1 e1 hv => hk B H0 H1 σ (F.mono e1) _ fun zs H2 e2 hz => by
    cases hz with
    | cons z1 z2 =>
      cases z2
      cases dp_int z1
      cases hv with
      | cons g1 g2 =>
        cases g2
        obtain ⟨a, ys, rfl, g1, g2⟩ := dp_lst (dp_ex e2 _ _ g1)
        cases ints_of g2
        refine ⟨a, ns, i, rfl, rfl, g1, fun k k0 k1 => ?_⟩
        have e : k = m := by
          by_cases hn : ns = []
          · rw [k0 hn, h0 hn]
          · exact Int.le_antisymm ((h1 hn).2 k (k1 hn).1) ((k1 hn).2 m (h1 hn).1)
        subst e
        exact q _ H2 (e1.trans e2) (.int _)
/-! texts -/
theorem en_split {x y : Str} (h : EvC K fs te (.str x)) (h2 : EvC K fs ta (.str y)) (hy : (y.length == 0) = false) (hx : x.length ≤ 99000) : EvN K fs (tM1 rSplitU te ta) (.lst ((Txt.split x y).map .str)) := fun B H0 H σ F Q q =>
  h B H0 H σ F _ fun v H1 e1 hv => by
    cases dp_str hv
    refine ⟨⟨x, rfl⟩, h2 B H0 H1 σ (F.mono e1) _ fun w H2 e2 hw => ?_⟩
    cases dp_str hw
    refine ⟨x, y, rfl, rfl, hy, Evl.sz_of (by omega), fun p hp => ?_⟩
    exact q p _ ((e1.trans e2).trans (Evl.Ex.new hp)) (fresh_ex (e1.trans e2) hp) ⟨_, upd_same, .of (dpAll_strs _) (immAll_iff.mpr fun d hd => by
      obtain ⟨z, _, rfl⟩ := List.mem_map.mp hd
      rfl)⟩
theorem ec_join {x : Str} {ys : List Str} (h : EvC K fs te (.str x)) (h2 : EvC K fs ta (.list (ys.map .str))) (hs : (ys.map (·.length)).sum + ys.length * x.length ≤ 16777216) : EvC K fs (tM1 (rJoinU K) te ta) (.str (Txt.join x ys)) := fun B H0 H σ F Q q =>
  h B H0 H σ F _ fun v H1 e1 hv => by
    cases dp_str hv
    refine ⟨⟨x, rfl⟩, h2 B H0 H1 σ (F.mono e1) _ fun w H2 e2 hw => ?_⟩
    obtain ⟨a, zs, rfl, g1, g2⟩ := dp_lst hw
    cases strs_of g2
    exact ⟨x, a, ys, rfl, rfl, .inl g1, hs, q _ H2 (e1.trans e2) (.str _)⟩
/-! isinstance -/
def tyD : PyData → String
  | .none => "NoneType"
  | .bool _ => "bool"
  | .int _ => "int"
  | .str _ => "str"
  | .list _ => "list"
  | .tuple _ => "tuple"
  | .dict _ => "dict"
theorem ty_dp {H : Hp} {v : V} (h : Dp K H v d) : TyX K H v (.type (tyD d)) := by
  cases h with
  | non => exact .base .non
  | bl b => exact .base (.bl b)
  | int i => exact .base (.int i)
  | str x => exact .base (.str x)
  | lst h1 h2 =>
    rcases h1 with (h | ⟨o, h⟩) | ⟨o, its, n, h3, h4, h5⟩
    · exact .base (.lst h)
    · exact .base (.frz h)
    · exact .kList h3 h4
  | tup h1 h2 =>
    rcases h1 with (h | ⟨o, h⟩) | ⟨o, its, n, h3, h4, h5⟩
    · exact .base (.tup h)
    · exact .fTuple h
    · exact .kTuple h3 h4
theorem ec_isi {T : String} {b : Bool} (h : EvC K fs te d) (hk : kitB (tyD d) T = some b) : EvC K fs (tCB (rIsi K) (tCons te (tCons (tC (.ty T)) tNil))) (.bool b) := fun B H0 H σ F Q q =>
  h B H0 H σ F _ fun v H1 e1 hv => ⟨v, .ty T, .type (tyD d), .type T, b, rfl, .ty T, ty_dp hv, kit_ty hk, q _ H1 e1 (.bl b)⟩
theorem ec_isB {b b' : Bool} (h : EvC K fs te (.bool b)) : EvC K fs (tOp rIsB te (tC (.bl b'))) (.bool (decide (b = b'))) := fun B H0 H σ F Q q =>
  h B H0 H σ F _ fun v H1 e1 hv => by
    cases dp_bl hv
    exact ⟨b, b', rfl, rfl, q _ H1 e1 (.bl _)⟩
def isNo : PyData → Bool
  | .none => true
  | _ => false
theorem isNo_dp {H : Hp} {v : V} (h : Dp K H v d) : decide (v = V.non) = isNo d := by
  cases h with
  | non => rfl
  | bl b => exact decide_eq_false fun e => nomatch e
  | int i => exact decide_eq_false fun e => nomatch e
  | str x => exact decide_eq_false fun e => nomatch e
  | lst h1 h2 => exact decide_eq_false fun e => nomatch e
  | tup h1 h2 => exact decide_eq_false fun e => nomatch e
theorem ec_isN (h : EvC K fs te d) : EvC K fs (tOp rIsNo te (tC .non)) (.bool (isNo d)) := fun B H0 H σ F Q q =>
  h B H0 H σ F _ fun v H1 e1 hv => ⟨rfl, by
    rw [isNo_dp hv]
    exact q _ H1 e1 (.bl _)⟩
theorem ec_notN (h : EvC K fs te d) : EvC K fs (tOp rNotNo te (tC .non)) (.bool (!isNo d)) := fun B H0 H σ F Q q =>
  h B H0 H σ F _ fun v H1 e1 hv => ⟨rfl, by
    rw [isNo_dp hv]
    exact q _ H1 e1 (.bl _)⟩
end
section
variable {X : Cx}
theorem op_isNo : OpR X (compareOp .Is) rIsNo := op_isN
theorem op_notNo : OpR X (compareOp .IsNot) rNotNo := op_notN
end
end T9

set_option maxHeartbeats 1000000
/-! KitE: defs by their names; sorted(dict); data of the text's tables. -/
namespace T9
open PySem PySem.Spec PyProof.Rows L2
/-- the module's def x keeps the promise sp -/
def Cl (P : Program) (w : World) (K : PySem.W.Frag) (mg : Str → Option Value) (base : Heap) (CX : CXT) (k : Nat) (x : Str) (sp : Sp) : Prop :=
  ∃ (f : Addr) (fd : FuncData) (ps : List Str), mg x = some (.ref f) ∧ PySem.W.keepIn K (.ref f) = true ∧ Binds K fd ps [] ∧ FnOk P w K mg base CX k f fd ps sp
theorem Cl.mono {P : Program} {w : World} {K : PySem.W.Frag} {mg : Str → Option Value} {base : Heap} {CX : CXT} {j k : Nat} {x : Str} {sp : Sp} (c : Cl P w K mg base CX j x sp) (h : j ≤ k) : Cl P w K mg base CX k x sp := by
  obtain ⟨f, fd, ps, h1, h2, h3, h4⟩ := c
  exact ⟨f, fd, ps, h1, h2, h3, h4.mono h⟩
theorem Cl.imp {P : Program} {w : World} {K : PySem.W.Frag} {mg : Str → Option Value} {base : Heap} {CX : CXT} {k : Nat} {x : Str} {sp sp' : Sp} (c : Cl P w K mg base CX k x sp) (h : ∀ vs H Q E, sp' vs H Q E → sp vs H Q E) : Cl P w K mg base CX k x sp' := by
  obtain ⟨f, fd, ps, h1, h2, h3, h4⟩ := c
  exact ⟨f, fd, ps, h1, h2, h3, h4.imp h⟩
section
variable {X : Cx} {CX : CXT} {k : Nat} {x : Str} {sp : Sp} {E : XK} {p pos : Pos} {e : Expr} {es : List Expr} {t : TA}
theorem pe_cl (c : Cl X.prog X.w X.K X.mg X.base CX k x sp) (hr : Room k X.A) (hg : Gl X x) (hx : Passes CX X E) (ha : PA X (e :: es) t)
    (hs : starEach (e :: es) X.env = (false, eval e X.env) :: starEach es X.env := by rfl) (hpl : (backTo pos (starEach es X.env)).any (·.1) = false := by rfl) (hd : (x == ("__debug__" : Str)) = false := by decide) :
    PE X (.Call (.Name x p) (e :: es) [] pos) (tCall sp [] E t) := by
  obtain ⟨f, fd, ps, hm, hk, hb, F⟩ := c
  exact pe_call F hr hg hm hk hb .nil hx ha hd hs hpl
theorem pe_cl0 (c : Cl X.prog X.w X.K X.mg X.base CX k x sp) (hr : Room k X.A) (hg : Gl X x) (hx : Passes CX X E) (hd : (x == ("__debug__" : Str)) = false := by decide) :
    PE X (.Call (.Name x p) [] [] pos) (tCall sp [] E tNil) := by
  obtain ⟨f, fd, ps, hm, hk, hb, F⟩ := c
  exact pe_call0 F hr hg hm hk hb .nil hx hd
/-- a name of the module, by its value -/
theorem pe_gc {v : V} (hg : Gl X x) (h : ∃ u, X.mg x = some u ∧ RelV v u) (hd : (x == ("__debug__" : Str)) = false := by decide) : PE X (.Name x pos) (tC v) := by
  obtain ⟨u, h1, h2⟩ := h
  exact pe_glob hg h1 h2 hd
end
/-- sorted(d), text keys -/
def rSortedDk : List V → Hp → VK → Prop := fun xs H Q => ∃ (a : Addr) (kvs : List (Key × V)) (ks : List Str), xs = [.ref a] ∧ Rd H a (.dK kvs) ∧ kvs.map (·.1) = ks.map Sum.inr ∧ ks.length < 64 ∧ ∀ ys p, ys.Perm ks → sortedS ys = true → H p = none → Q (.ref p) (upd H p (.lst (ys.map V.str)))
theorem call_sortedDk {X : Cx} (hc : X.calm = true) : CallR X (.builtin "sorted") rSortedDk := call_sortedD hc
theorem dp_strsT {K : PySem.W.Frag} {a : Addr} {zs : List Str} (h : ∀ H, SqT K H a (zs.map V.str)) (H : Hp) : Dp K H (.ref a) (.tuple (zs.map .str)) := .tup (h H) (dpAll_strs zs)
end T9

set_option maxHeartbeats 1000000
/-! KitF: statements in short; encodings. -/
namespace T9
open PySem PySem.Spec PyProof.Rows L2
section
variable {K : PySem.W.Frag} {fs : Fm} {te : TE} {tt : TT} {tu tw tz : TS} {P : Po} {s : Sl} {d : PyData} {b : Bool}
/-- if c: (a way out); the rest -/
theorem sq_ret (h : EvT K fs tt b) (h1 : b = true → StF K tu fs { P with nx := fun _ => False }) (h2 : b = false → StF K tz fs P) : StF K (tSeq (tIfS tt tu tNext) tz) fs P :=
  sf_seq (M := fun g => g = fs ∧ b = false) (sf_if h (fun e => sf_imp (h1 e) (fun _ q => q.elim) (fun _ q => q) (fun _ q => q) fun _ q => q) fun e => sf_next ⟨rfl, e⟩) fun g q => by
    obtain ⟨e, eb⟩ := q
    subst e
    exact h2 eb
/-- if c: x = e; the rest -/
theorem sq_when {gs : Fm} (h : EvT K fs tt b) (h1 : b = true → StF K tu fs { P with nx := fun g => Le g gs }) (h0 : b = false → Le fs gs) (h2 : StF K tz gs P) : StF K (tSeq (tIfS tt tu tNext) tz) fs P :=
  sf_seq (M := fun g => Le g gs) (sf_if h h1 fun e => sf_next (h0 e)) fun g l => sf_le h2 l
theorem sq_if {gs : Fm} (h : EvT K fs tt b) (h1 : b = true → StF K tu fs { P with nx := fun g => Le g gs }) (h0 : b = false → StF K tw fs { P with nx := fun g => Le g gs }) (h2 : StF K tz gs P) : StF K (tSeq (tIfS tt tu tw) tz) fs P :=
  sf_seq (M := fun g => Le g gs) (sf_if h h1 h0) fun g l => sf_le h2 l
theorem sq_drop (h : EvC K fs te d) (k : StF K tz fs P) : StF K (tSeq (tDrop te) tz) fs P := sf_seq1 (sf_drop h rfl) k
theorem sq_app {i : Nat} {a : Addr} {ds : List PyData} (hi : fs[i]? = some (some (.ob a (.lst ds)))) (h : EvC K fs te d) (hd : imm d = true) (hl : ds.length < 100000) (k : StF K tz (fs.set i (some (.ob a (.lst (ds ++ [d]))))) P) :
    StF K (tSeq (tDrop (tBM K "list" rAppend (tVar i) (tCons te tNil))) tz) fs P := sf_seq1 (sf_app hi h hd hl rfl) k
end
theorem immAll_map {α : Type} {f : α → PyData} (h : ∀ x, imm (f x) = true) (xs : List α) : immAll (xs.map f) = true := immAll_iff.mpr fun d hd => by
  obtain ⟨x, _, rfl⟩ := List.mem_map.mp hd
  exact h x
theorem immAll_mapM {α : Type} {f : α → PyData} {xs : List α} (h : ∀ x ∈ xs, imm (f x) = true) : immAll (xs.map f) = true := immAll_iff.mpr fun d hd => by
  obtain ⟨x, hx, rfl⟩ := List.mem_map.mp hd
  exact h x hx
theorem immAll_ints (xs : List Int) : immAll (xs.map .int) = true := immAll_map (fun _ => rfl) xs
theorem immAll_strs (xs : List Str) : immAll (xs.map .str) = true := immAll_map (fun _ => rfl) xs
theorem made_take {α : Type} {b : α → Bool} {g : α → PyData} {xs : List α} {i : Nat} {x : α} (h : xs[i]? = some x) : ((xs.take (i + 1)).filter b).map g = if b x = true then ((xs.take i).filter b).map g ++ [g x] else ((xs.take i).filter b).map g := by
  rw [List.take_succ, h, List.filter_append, List.map_append]
  cases hb : b x with
  | true => simp [hb]
  | false => simp [hb]
/-- [te for x in xs if tt], the items told by α -/
theorem en_lcT {α : Type} {K : PySem.W.Frag} {fs : Fm} {wi : TI} {g : TG} {tt : TT} {te : TE} {vs : List Nat} (f : α → PyData) (xs : List α) (b : α → Bool) (gv : α → PyData) (h : EvW K fs wi (xs.map f)) (hl : xs.length < 100000)
    (hs : ∀ x ∈ xs, ∃ f', PutC K g vs (f x) fs f' ∧ EvT K f' tt (b x) ∧ (b x = true → EvC K f' te (gv x) ∧ imm (gv x) = true)) : EvN K fs (tLc wi g tt te vs) (.lst ((xs.filter b).map gv)) := fun B H0 H σ F Q q =>
  h B H0 H σ F _ fun J H1 e1 ⟨G, Y, w, hG, hY⟩ Dl hD => by
    rw [List.length_map] at w
    refine lc_it w (fun i H' => Ex H1 H' ∧ ∃ acc, H' Dl = some (.lst acc) ∧ DpAll K H' acc (((xs.take i).filter b).map gv) ∧ immAll (((xs.take i).filter b).map gv) = true ∧ acc.length ≤ i) ⟨Evl.Ex.new hD, [], upd_same, .nil, rfl, Nat.le_refl _⟩ (fun i H' _ p => hG H' p.1) (fun i x H2 H3 hi p y => ?_) fun H' p => ?_
    · obtain ⟨p1, acc, p2, p3, p4, p5⟩ := p
      obtain ⟨e3, d, hd1, hx⟩ := hY i H2 x H3 p1 y
      rw [List.getElem?_map] at hd1
      obtain ⟨z, hz, rfl⟩ := Option.map_eq_some_iff.mp hd1
      obtain ⟨f', hp, ht, he⟩ := hs z (List.mem_of_getElem? hz)
      refine hp B H0 H3 σ x ((F.mono (e1.trans (p1.trans e3))).wipe vs) hx _ fun σ4 H4 e4 F4 hw => ⟨hw, ?_⟩
      refine ht B H0 H4 σ4 F4 _ fun H5 e5 => ?_
      rw [made_take hz]
      cases hb : b z with
      | true =>
        refine (show te σ4 H5 _ from (he hb).1 B H0 H5 σ4 (F4.mono e5) _ fun v H6 e6 hv => ?_)
        have ea : Ex H2 H6 := ((e3.trans e4).trans e5).trans e6
        have g2 := ea Dl _ p2
        have ej : Ej H6 (upd H6 Dl (.lst (acc ++ [v]))) := Ej.upd g2 (fun _ e => nomatch e) (fun _ _ e => nomatch e)
        refine ⟨acc, g2, Evl.sz_lt (by omega), Evl.Ex.mut (p1.trans ea) hD, acc ++ [v], upd_same, ?_, ?_, by rw [List.length_append, List.length_singleton]; omega⟩
        · rw [if_pos rfl]
          exact dpAll_app (dpAll_ej ej _ _ p4 (dpAll_ex ea _ _ p3)) (dpAll_one (dp_ej ej _ _ (he hb).2 hv))
        · rw [if_pos rfl]
          rw [immAll_iff] at p4 ⊢
          intro z' hz'
          rcases List.mem_append.mp hz' with q | q
          · exact p4 z' q
          · rw [List.mem_singleton.mp q]
            exact (he hb).2
      | false =>
        have ea : Ex H2 H5 := (e3.trans e4).trans e5
        refine (show _ ∧ _ from ⟨p1.trans ea, acc, ea Dl _ p2, ?_, ?_, by omega⟩)
        · rw [if_neg (by decide)]
          exact dpAll_ex ea _ _ p3
        · rw [if_neg (by decide)]
          exact p4
    · obtain ⟨p1, acc, p2, p3, p4, p5⟩ := p
      rw [List.take_length] at p3 p4
      exact q Dl H' (e1.trans p1) (fresh_ex e1 hD) ⟨acc, p2, .of p3 p4⟩
/-- .. without an if -/
theorem en_lcM {α : Type} {K : PySem.W.Frag} {fs : Fm} {wi : TI} {g : TG} {te : TE} {vs : List Nat} (f : α → PyData) (xs : List α) (gv : α → PyData) (h : EvW K fs wi (xs.map f)) (hl : xs.length < 100000)
    (hs : ∀ x ∈ xs, ∃ f', PutC K g vs (f x) fs f' ∧ EvC K f' te (gv x) ∧ imm (gv x) = true) : EvN K fs (tLc wi g tYes te vs) (.lst (xs.map gv)) := by
  have z := en_lcT f xs (fun _ => true) gv (tt := tYes) (te := te) (g := g) (vs := vs) h hl fun x hx => let ⟨f', a, b, c⟩ := hs x hx; ⟨f', a, et_yes, fun _ => ⟨b, c⟩⟩
  rwa [show (xs.filter fun _ => true) = xs by simp] at z
end T9

set_option maxHeartbeats 1000000
/-! KitG: tests that are decided; plain ranges; sorted texts; a dict of flags, handed down -/
namespace T9
open PySem PySem.Spec PyProof.Rows L2
section
variable {K : PySem.W.Frag} {fs : Fm} {te : TE} {tt : TT} {tu tw tz : TS} {P : Po} {d : PyData}
theorem sq_retT (h : EvT K fs tt true) (h1 : StF K tu fs { P with nx := fun _ => False }) : StF K (tSeq (tIfS tt tu tNext) tz) fs P := sq_ret h (fun _ => h1) fun e => nomatch e
theorem sq_retF (h : EvT K fs tt false) (h2 : StF K tz fs P) : StF K (tSeq (tIfS tt tu tNext) tz) fs P := sq_ret h (fun e => nomatch e) fun _ => h2
theorem Le.nil : Le [] [] := Le.refl _
theorem Le.cons {x : Option Sl} {f g : Fm} (h : Le f g) : Le (x :: f) (x :: g) := ⟨congrArg (· + 1) h.1, fun i s hs => match i, hs with
  | 0, hs => hs
  | i + 1, hs => h.2 i s hs⟩
theorem Le.drop {x : Option Sl} {f g : Fm} (h : Le f g) : Le (x :: f) (none :: g) := ⟨congrArg (· + 1) h.1, fun i s hs => match i, hs with
  | 0, hs => nomatch hs
  | i + 1, hs => h.2 i s hs⟩
theorem Le.set {f g : Fm} (h : Le f g) (j : Nat) (x : Option Sl) : Le (f.set j x) (g.set j x) := ⟨by rw [List.length_set, List.length_set, h.1], fun i s hs => by
  rw [List.getElem?_set] at hs ⊢
  rw [← h.1] at hs
  split at hs
  · rename_i e
    rw [if_pos e]
    exact hs
  · rename_i e
    rw [if_neg e]
    exact h.2 i s hs⟩
theorem Le.len {f g : Fm} (h : Le f g) : f.length = g.length := h.1
theorem put_le {f g : Fm} {j : Nat} {d : PyData} (h : Le f g) (hj : j < g.length) (hi : imm d = true) : PutG K (gName j) d f (f.set j (some (.im d))) := put_name (by rw [h.1]; exact hj) hi
theorem sum_le {B : Nat} : ∀ {ys : List Str}, (∀ y ∈ ys, y.length ≤ B) → (ys.map (·.length)).sum ≤ ys.length * B
  | [], _ => Nat.le_of_eq (by simp)
  | y :: r, h => by
    have h1 := h y (List.mem_cons_self ..)
    have h2 := sum_le (B := B) (ys := r) fun z hz => h z (List.mem_cons_of_mem _ hz)
    rw [List.map_cons, List.sum_cons, List.length_cons, Nat.succ_mul]
    omega
theorem rangeD_0 (n : Nat) : rangeD 0 n = (List.range n).map fun (i : Nat) => PyData.int (i : Int) := by
  unfold rangeD
  exact List.map_congr_left fun i _ => by rw [Int.zero_add]
theorem ei_rng {t : TA} {n : Nat} {m : Int} (h : EvA K fs t [.int m]) (e : m.toNat = n) (hn : m < 1000000) (h0 : -1000000 < m) : EvI K fs (iRng1 t) ((List.range n).map fun (i : Nat) => PyData.int (i : Int)) := by
  have z := ei_rng1 h (by omega) (by omega)
  rwa [rangeD_0, e] at z
theorem range_at {n i : Nat} {d : PyData} (h : ((List.range n).map fun (i : Nat) => PyData.int (i : Int))[i]? = some d) : i < n ∧ d = .int (i : Int) := by
  rw [List.getElem?_map] at h
  obtain ⟨j, hj, rfl⟩ := Option.map_eq_some_iff.mp h
  by_cases hi : i < n
  · rw [List.getElem?_range hi] at hj
    cases hj
    exact ⟨hi, rfl⟩
  · rw [List.getElem?_eq_none (by rw [List.length_range]; omega)] at hj
    cases hj
theorem imm_range (n : Nat) : immAll ((List.range n).map fun (i : Nat) => PyData.int (i : Int)) = true := immAll_map (fun _ => rfl) _
def leS (a b : Str) : Bool := !ltCps b.cps.toList a.cps.toList
def srt (xs : List Str) : List Str := xs.mergeSort leS
/-- sorted(texts) -/
theorem al_sortedS {xs : List Str} (h : xs.length < 64) (hs : ∀ ys : List Str, ys.Perm xs → sortedS ys = true → ys = srt xs) : AL K (rSortedS K) [.list (xs.map .str)] ((srt xs).map .str) := fun vs H hx Q q => by
  cases hx with
  | cons h1 h2 => cases h2 with
    | nil =>
      obtain ⟨a, us, rfl, g1, g2⟩ := dp_lst h1
      rw [strs_of g2] at g1
      refine ⟨a, xs, rfl, g1, h, fun ys p hp hy hn => ?_⟩
      rw [hs ys hp hy]
      exact q p _ _ (Evl.Ex.new hn) hn upd_same (dpAll_strs _)
/-- a dict of flags -/
def kvD (ks : List Str) : List (Key × PyData) := ks.map fun k => (Sum.inr k, .bool true)
def kvT (ks : List Str) : List (Key × V) := ks.map fun k => (Sum.inr k, .bl true)
theorem kv_of {B H : Hp} : ∀ {ks : List Str} {vs : List (Key × V)}, KvAll K B H vs (kvD ks) → vs = kvT ks
  | [], _, h => by cases h; rfl
  | k :: r, _, h => by
    cases h with
    | cons h1 h2 =>
      rw [kv_of h2, dp_bl h1.1]
      rfl
theorem kv_mk {B H : Hp} : ∀ ks : List Str, KvAll K B H (kvT ks) (kvD ks)
  | [] => .nil
  | k :: r => .cons ⟨.bl true, .inl rfl⟩ (kv_mk r)
def addK (ks : List Str) (p : Str) : List Str := if p ∈ ks then ks else ks ++ [p]
theorem kv_put (ks : List Str) (p : Str) : putK (kvT ks) (Sum.inr p) (V.bl true) = kvT (addK ks p) := by
  unfold putK addK kvT
  by_cases h : p ∈ ks
  · rw [if_pos h, if_pos (by rw [List.any_map, List.any_eq_true]; exact ⟨p, h, by simp⟩), List.map_map]
    refine List.map_congr_left fun k _ => ?_
    show (if (Sum.inr k : Key) = Sum.inr p then ((Sum.inr k : Key), V.bl true) else (Sum.inr k, V.bl true)) = _
    split <;> rfl
  · rw [if_neg h, if_neg (by rw [List.any_map, List.any_eq_true]; rintro ⟨k, hk, e⟩; simp at e; exact h (e ▸ hk)), List.map_append]
    rfl
variable {i : Nat} {a : Addr} {ks : List Str}
theorem sf_dput {p : Str} (hi : fs[i]? = some (some (.ob a (.dk (kvD ks))))) (h : EvC K fs te (.str p)) (hl : ks.length < 10000) (k : P.nx (fs.set i (some (.ob a (.dk (kvD (addK ks p))))))) :
    StF K (sDPut (tVar i) te (tC (.bl true))) fs P := fun B H0 H σ D F n r b c => by
  obtain ⟨h1, h2, h3⟩ := F.own hi
  refine (show ∃ v, σ[i]? = some (some v) ∧ te σ H _ from ⟨_, h1, h B H0 H σ F _ fun v H1 e1 hv => ?_⟩)
  cases dp_str hv
  have F1 := F.mono e1
  obtain ⟨g1, g2, vs', g3, g4⟩ := F1.own hi
  rw [kv_of g4] at g3
  refine ⟨a, _, rfl, DPut.k (k := Sum.inr p) g3 (by unfold kvT; rw [List.length_map]; exact Nat.lt_of_lt_of_le hl (by decide)), n _ _ _ k (F1.put hi ?_)⟩
  rw [kv_put]
  exact ⟨_, upd_same, kv_mk _⟩
/-- a dict of one's own handed down to a def that puts flags -/
theorem sf_flag {sp : Sp} {d : PyData} {ks2 : List Str} {X : XK} (hi : fs[i]? = some (some (.ob a (.dk (kvD ks))))) (h : EvC K fs te d)
    (hs : ∀ (v : V) (H : Hp) (Q : VK), Dp K H v d → H a = some (.dK (kvT ks)) → (∀ H', (∀ b o, b ≠ a → H b = some o → H' b = some o) → H' a = some (.dK (kvT ks2)) → Q .non H') → sp [v, .ref a] H Q X)
    (k : P.nx (fs.set i (some (.ob a (.dk (kvD ks2)))))) : StF K (tDrop (tCall sp [] X (tCons te (tCons (tVar i) tNil)))) fs P := fun B H0 H σ D F n r b c =>
  h B H0 H σ F _ fun v H1 e1 hv => by
    have F1 := F.mono e1
    obtain ⟨g1, g2, vs', g3, g4⟩ := F1.own hi
    rw [kv_of g4] at g3
    refine ⟨_, g1, hs v H1 _ hv g3 fun H' hk ha => ?_⟩
    have F2 : Fr K B H0 (upd H1 a (.dK (kvT ks2))) σ (fs.set i (some (.ob a (.dk (kvD ks2))))) := F1.put hi ⟨_, upd_same, kv_mk _⟩
    refine n _ _ _ k (F2.mono fun x o hx => ?_)
    by_cases e : x = a
    · subst e
      rw [upd_same] at hx
      rw [ha, ← hx]
    · rw [upd_ne e] at hx
      exact hk x o e hx
theorem en_sortedDk {ys : List Str} (hi : fs[i]? = some (some (.ob a (.dk (kvD ks))))) (h : ks.length < 64) (hs : ∀ zs : List Str, zs.Perm ks → sortedS zs = true → zs = ys) : EvN K fs (tCB rSortedDk (tCons (tVar i) tNil)) (.lst (ys.map .str)) := fun B H0 H σ F Q q => by
  obtain ⟨g1, g2, vs', g3, g4⟩ := F.own hi
  rw [kv_of g4] at g3
  refine ⟨_, g1, a, kvT ks, ks, rfl, .inl g3, ?_, h, fun zs p hp hz hn => ?_⟩
  · unfold kvT
    rw [List.map_map]
    rfl
  · rw [hs zs hp hz]
    exact q p _ (Evl.Ex.new hn) hn ⟨_, upd_same, .of (dpAll_strs _) (immAll_strs _)⟩
theorem en_dnew : EvN K fs tDNewK (.dk (kvD [])) := fun B H0 H σ F Q q p hp => q p _ (Evl.Ex.new hp) hp ⟨[], upd_same, .nil⟩
/-- the frame of a def that is handed data and a dict of flags -/
theorem fr_flag {H : Hp} {v : V} {d : PyData} {n : Nat} (hd : imm d = true) (h : Dp K H v d) (ha : H a = some (.dK (kvT ks))) :
    ∃ B : Hp, (∀ b o, b ≠ a → H b = some o → B b = some o) ∧ Fr K B B H ([some v, some (.ref a)] ++ List.replicate n none) ([some (.im d), some (.ob a (.dk (kvD ks)))] ++ List.replicate n none) := by
  refine ⟨fun b => if b = a then none else H b, fun b o hb ho => by show (if b = a then none else H b) = some o; rw [if_neg hb]; exact ho, ?_⟩
  have eb : Ex (fun b => if b = a then none else H b) H := fun b o hb' => by
    have hb : (if b = a then none else H b) = some o := hb'
    by_cases e : b = a
    · rw [if_pos e] at hb
      cases hb
    · rwa [if_neg e] at hb
  refine ⟨Evl.Ex.refl _, eb, by simp, fun j s hs => ?_, fun j k b o u hjk hj hk => ?_⟩
  · match j with
    | 0 =>
      cases hs
      exact ⟨v, rfl, h, .inl hd⟩
    | 1 =>
      cases hs
      exact ⟨_, rfl, rfl, if_pos rfl, kvT ks, ha, kv_mk _⟩
    | j + 2 =>
      have hs' : (List.replicate n (none : Option Sl))[j]? = some (some s) := hs
      rw [List.getElem?_replicate] at hs'
      split at hs' <;> cases hs'
  · have one : ∀ {j : Nat} {b : Addr} {o : Ob}, ([some (.im d), some (.ob a (.dk (kvD ks)))] ++ List.replicate n none : Fm)[j]? = some (some (.ob b o)) → j = 1 := fun {j b o} h => by
      match j with
      | 0 => cases h
      | 1 => rfl
      | j + 2 =>
        have hs' : (List.replicate n (none : Option Sl))[j]? = some (some (.ob b o)) := h
        rw [List.getElem?_replicate] at hs'
        split at hs' <;> cases hs'
    exact hjk ((one hj).trans (one hk).symm)
end
end T9

set_option maxHeartbeats 1000000
/-! the text by places; the readings -/
namespace T94
open PySem PySem.Spec PyProof.Rows L2 T9
def top (i : Nat) : Stmt := PySem.Challenge.pw_tessera_k94_expressions.main.body.getD i (.Pass ⟨0, 0, 0, 0⟩)

structure Tx (K : PySem.W.Frag) (mg : Str → Option Value) : Prop where
  g_is_name : mg "is_name" = some (.ref (He.ga K "is_name"))
  f_is_name : ∃ fd, FunD K "is_name" "is_name" (defArgs (top 4)) (defBody (top 4)) (defScope (top 4)) [] [] (He.ga K "is_name") fd
  g_is_path : mg "is_path" = some (.ref (He.ga K "is_path"))
  f_is_path : ∃ fd, FunD K "is_path" "is_path" (defArgs (top 5)) (defBody (top 5)) (defScope (top 5)) [] [] (He.ga K "is_path") fd
  g_parts_of : mg "parts_of" = some (.ref (He.ga K "parts_of"))
  f_parts_of : ∃ fd, FunD K "parts_of" "parts_of" (defArgs (top 10)) (defBody (top 10)) (defScope (top 10)) [] [] (He.ga K "parts_of") fd
  g_depth : mg "depth" = some (.ref (He.ga K "depth"))
  f_depth : ∃ fd, FunD K "depth" "depth" (defArgs (top 11)) (defBody (top 11)) (defScope (top 11)) [] [] (He.ga K "depth") fd
  g_collect_paths : mg "collect_paths" = some (.ref (He.ga K "collect_paths"))
  f_collect_paths : ∃ fd, FunD K "collect_paths" "collect_paths" (defArgs (top 12)) (defBody (top 12)) (defScope (top 12)) [] [] (He.ga K "collect_paths") fd
  g_paths_of : mg "paths_of" = some (.ref (He.ga K "paths_of"))
  f_paths_of : ∃ fd, FunD K "paths_of" "paths_of" (defArgs (top 13)) (defBody (top 13)) (defScope (top 13)) [] [] (He.ga K "paths_of") fd
  g_is_integer : mg "is_integer" = some (.ref (He.ga K "is_integer"))
  f_is_integer : ∃ fd, FunD K "is_integer" "is_integer" (defArgs (top 14)) (defBody (top 14)) (defScope (top 14)) [] [] (He.ga K "is_integer") fd
  g_has_valid_names : mg "has_valid_names" = some (.ref (He.ga K "has_valid_names"))
  f_has_valid_names : ∃ fd, FunD K "has_valid_names" "has_valid_names" (defArgs (top 15)) (defBody (top 15)) (defScope (top 15)) [] [] (He.ga K "has_valid_names") fd
  g_is_expression : mg "is_expression" = some (.ref (He.ga K "is_expression"))
  f_is_expression : ∃ fd, FunD K "is_expression" "is_expression" (defArgs (top 16)) (defBody (top 16)) (defScope (top 16)) [] [] (He.ga K "is_expression") fd
  g__law_cell : mg "_law_cell" = some (.ref (He.ga K "_law_cell"))
  f__law_cell : ∃ fd, FunD K "_law_cell" "_law_cell" (defArgs (top 18)) (defBody (top 18)) (defScope (top 18)) [] [] (He.ga K "_law_cell") fd
  g__law_draws : mg "_law_draws" = some (.ref (He.ga K "_law_draws"))
  f__law_draws : ∃ fd, FunD K "_law_draws" "_law_draws" (defArgs (top 19)) (defBody (top 19)) (defScope (top 19)) [] [] (He.ga K "_law_draws") fd
  g__law_is_int : mg "_law_is_int" = some (.ref (He.ga K "_law_is_int"))
  f__law_is_int : ∃ fd, FunD K "_law_is_int" "_law_is_int" (defArgs (top 20)) (defBody (top 20)) (defScope (top 20)) [] [] (He.ga K "_law_is_int") fd
  g__law_is_bool : mg "_law_is_bool" = some (.ref (He.ga K "_law_is_bool"))
  f__law_is_bool : ∃ fd, FunD K "_law_is_bool" "_law_is_bool" (defArgs (top 21)) (defBody (top 21)) (defScope (top 21)) [] [] (He.ga K "_law_is_bool") fd
  g__law_is_text : mg "_law_is_text" = some (.ref (He.ga K "_law_is_text"))
  f__law_is_text : ∃ fd, FunD K "_law_is_text" "_law_is_text" (defArgs (top 22)) (defBody (top 22)) (defScope (top 22)) [] [] (He.ga K "_law_is_text") fd
  g__law_is_number : mg "_law_is_number" = some (.ref (He.ga K "_law_is_number"))
  f__law_is_number : ∃ fd, FunD K "_law_is_number" "_law_is_number" (defArgs (top 23)) (defBody (top 23)) (defScope (top 23)) [] [] (He.ga K "_law_is_number") fd
  g__law_is_texts : mg "_law_is_texts" = some (.ref (He.ga K "_law_is_texts"))
  f__law_is_texts : ∃ fd, FunD K "_law_is_texts" "_law_is_texts" (defArgs (top 24)) (defBody (top 24)) (defScope (top 24)) [] [] (He.ga K "_law_is_texts") fd
  g__law_stream : mg "_law_stream" = some (.ref (He.ga K "_law_stream"))
  f__law_stream : ∃ fd, FunD K "_law_stream" "_law_stream" (defArgs (top 25)) (defBody (top 25)) (defScope (top 25)) [] [] (He.ga K "_law_stream") fd
  g__law_signs : mg "_law_signs" = some (.ref (He.ga K "_law_signs"))
  f__law_signs : ∃ fd, FunD K "_law_signs" "_law_signs" (defArgs (top 26)) (defBody (top 26)) (defScope (top 26)) [] [] (He.ga K "_law_signs") fd
  g__law_letters : mg "_law_letters" = some (.ref (He.ga K "_law_letters"))
  f__law_letters : ∃ fd, FunD K "_law_letters" "_law_letters" (defArgs (top 27)) (defBody (top 27)) (defScope (top 27)) [] [] (He.ga K "_law_letters") fd
  g__law_name : mg "_law_name" = some (.ref (He.ga K "_law_name"))
  f__law_name : ∃ fd, FunD K "_law_name" "_law_name" (defArgs (top 28)) (defBody (top 28)) (defScope (top 28)) [] [] (He.ga K "_law_name") fd
  g__law_wild_path : mg "_law_wild_path" = some (.ref (He.ga K "_law_wild_path"))
  f__law_wild_path : ∃ fd, FunD K "_law_wild_path" "_law_wild_path" (defArgs (top 29)) (defBody (top 29)) (defScope (top 29)) [] [] (He.ga K "_law_wild_path") fd
  g__law_is_name_due : mg "_law_is_name_due" = some (.ref (He.ga K "_law_is_name_due"))
  f__law_is_name_due : ∃ fd, FunD K "_law_is_name_due" "_law_is_name_due" (defArgs (top 30)) (defBody (top 30)) (defScope (top 30)) [] [] (He.ga K "_law_is_name_due") fd
  g__law_is_path_due : mg "_law_is_path_due" = some (.ref (He.ga K "_law_is_path_due"))
  f__law_is_path_due : ∃ fd, FunD K "_law_is_path_due" "_law_is_path_due" (defArgs (top 31)) (defBody (top 31)) (defScope (top 31)) [] [] (He.ga K "_law_is_path_due") fd
  g__law_expression : mg "_law_expression" = some (.ref (He.ga K "_law_expression"))
  f__law_expression : ∃ fd, FunD K "_law_expression" "_law_expression" (defArgs (top 32)) (defBody (top 32)) (defScope (top 32)) [] [] (He.ga K "_law_expression") fd
  g__law_parts : mg "_law_parts" = some (.ref (He.ga K "_law_parts"))
  f__law_parts : ∃ fd, FunD K "_law_parts" "_law_parts" (defArgs (top 33)) (defBody (top 33)) (defScope (top 33)) [] [] (He.ga K "_law_parts") fd
  g__law_depth : mg "_law_depth" = some (.ref (He.ga K "_law_depth"))
  f__law_depth : ∃ fd, FunD K "_law_depth" "_law_depth" (defArgs (top 34)) (defBody (top 34)) (defScope (top 34)) [] [] (He.ga K "_law_depth") fd
  g__law_paths : mg "_law_paths" = some (.ref (He.ga K "_law_paths"))
  f__law_paths : ∃ fd, FunD K "_law_paths" "_law_paths" (defArgs (top 35)) (defBody (top 35)) (defScope (top 35)) [] [] (He.ga K "_law_paths") fd
  g__law_distinct : mg "_law_distinct" = some (.ref (He.ga K "_law_distinct"))
  f__law_distinct : ∃ fd, FunD K "_law_distinct" "_law_distinct" (defArgs (top 36)) (defBody (top 36)) (defScope (top 36)) [] [] (He.ga K "_law_distinct") fd
  g_law : mg "law" = some (.ref (He.ga K "law"))
  f_law : ∃ fd, FunD K "law" "law" (defArgs (top 37)) (defBody (top 37)) (defScope (top 37)) [] [] (He.ga K "law") fd
  b_len : mg "len" = none
  b_all : mg "all" = none
  b_list : mg "list" = none
  b_max : mg "max" = none
  b_sorted : mg "sorted" = none
  b_range : mg "range" = none
  b_int : mg "int" = none
  b_isinstance : mg "isinstance" = none
  b_bool : mg "bool" = none
  b_str : mg "str" = none
  b_tuple : mg "tuple" = none
  c_LONGEST_NAME : ∃ u, mg "LONGEST_NAME" = some u ∧ RelV (.int 12) u
  c_LETTERS : ∃ u, mg "LETTERS" = some u ∧ RelV (.str "abcdefghijklmnopqrstuvwxyz0123456789") u
  c_MOST_NAMES : ∃ u, mg "MOST_NAMES" = some u ∧ RelV (.int 6) u
  c_GREATEST : ∃ u, mg "GREATEST" = some u ∧ RelV (.int 1000000000000000000000000000000) u
  c_PAIRS : ∃ u, mg "PAIRS" = some u ∧ RelV (.ref (He.ga K "PAIRS")) u
  k_PAIRS : ∀ H, SqT K H (He.ga K "PAIRS") ([(V.str "add"), (V.str "sub"), (V.str "mul"), (V.str "min"), (V.str "max"), (V.str "less")])
  c_DEEPEST : ∃ u, mg "DEEPEST" = some u ∧ RelV (.int 12) u

def t_is_name (K : PySem.W.Frag) : TS :=
  (tRet (tAndV (tChain rLeI rLeI (tC (.int 1)) (tCB (rLen K) (tCons (tVar 0) tNil)) (tC (.int 12))) (tCB (rAll K) (tCons (tLc (iStr (tVar 0)) (gName 1) tYes (tOp (rInU K) (tVar 1) (tC (.str "abcdefghijklmnopqrstuvwxyz0123456789"))) [1]) tNil))))

def t_is_path (K : PySem.W.Frag) (s_is_name : Sp) : TS :=
  (tSeq (tIfS (tTest (tOp (rEqU K) (tVar 0) (tC (.str "")))) (tRet (tC (.bl true))) tNext)
  (tSeq (tAsg (tM1 rSplitU (tVar 0) (tC (.str "/"))) (gName 1))
  (tRet (tAndV (tOp rLeI (tCB (rLen K) (tCons (tVar 1) tNil)) (tC (.int 6))) (tCB (rAll K) (tCons (tLc (iList K (tVar 1)) (gName 2) tYes (tCall s_is_name [] E0 (tCons (tVar 2) tNil)) [2]) tNil))))))

def t_parts_of (K : PySem.W.Frag) : TS :=
  (tSeq (tAsg (tOp (rIx K) (tVar 0) (tC (.int 0))) (gName 1))
  (tSeq (tIfS (tOr (tTest (tOp (rEqU K) (tVar 1) (tC (.str "path")))) (tTest (tOp (rEqU K) (tVar 1) (tC (.str "number"))))) (tRet (tLst tNil)) tNext)
  (tSeq (tIfS (tTest (tOp (rEqU K) (tVar 1) (tC (.str "shift")))) (tRet (tLst (tCons (tOp (rIx K) (tVar 0) (tC (.int 1))) tNil))) tNext)
  (tRet (tCB (rListU K) (tCons (tSl (rSlU K) (tVar 0) (tPart (tC (.int 1))) tNoPart) tNil))))))

def t_depth (K : PySem.W.Frag) (s_parts_of : Sp) (s_depth : Sp) : TS :=
  (tRet (tOp (rAddU K) (tC (.int 1)) (tCKw (rMaxD K) (tCons (tLc (iList K (tCall s_parts_of [] E0 (tCons (tVar 0) tNil))) (gName 1) tYes (tCall s_depth [] E0 (tCons (tVar 1) tNil)) [1]) tNil) (tCons (tC (.int 0)) tNil))))

def t_collect_paths (K : PySem.W.Frag) (s_parts_of : Sp) (s_collect_paths : Sp) : TS :=
  (tSeq (tIfS (tTest (tOp (rEqU K) (tOp (rIx K) (tVar 0) (tC (.int 0))) (tC (.str "path")))) (sDPut (tVar 1) (tOp (rIx K) (tVar 0) (tC (.int 1))) (tC (.bl true))) tNext)
  (tFor (iList K (tCall s_parts_of [] E0 (tCons (tVar 0) tNil))) (gName 2) (tDrop (tCall s_collect_paths [] E0 (tCons (tVar 2) (tCons (tVar 1) tNil))))))

def t_paths_of (K : PySem.W.Frag) (s_collect_paths : Sp) : TS :=
  (tSeq (tAsg tDNewK (gName 1))
  (tSeq (tDrop (tCall s_collect_paths [] E0 (tCons (tVar 0) (tCons (tVar 1) tNil))))
  (tRet (tCB rSortedDk (tCons (tVar 1) tNil)))))

def t_is_integer (K : PySem.W.Frag) : TS :=
  (tRet (tChain (rLtU K) (rLtU K) (tUn rNegU (tC (.int (1000000000000000000000000000000)))) (tVar 0) (tC (.int (1000000000000000000000000000000)))))

def t_has_valid_names (K : PySem.W.Frag) (s_parts_of : Sp) (s_has_valid_names : Sp) (s_is_integer : Sp) (s_is_path : Sp) : TS :=
  (tSeq (tAsg (tOp (rIx K) (tVar 0) (tC (.int 0))) (gName 1))
  (tSeq (tIfS (tTest (tOp (rEqU K) (tVar 1) (tC (.str "path")))) (tRet (tCall s_is_path [] E0 (tCons (tOp (rIx K) (tVar 0) (tC (.int 1))) tNil))) tNext)
  (tSeq (tIfS (tTest (tOp (rEqU K) (tVar 1) (tC (.str "number")))) (tRet (tCall s_is_integer [] E0 (tCons (tOp (rIx K) (tVar 0) (tC (.int 1))) tNil))) tNext)
  (tSeq (tIfS (tAnd (tTest (tOp (rEqU K) (tVar 1) (tC (.str "shift")))) (tNot (tB (tCB (rAll K) (tCons (tLc (iTup K (tOp (rIx K) (tVar 0) (tC (.int 2)))) (gName 3) tYes (tCall s_is_integer [] E0 (tCons (tVar 3) tNil)) [3]) tNil))))) (tRet (tC (.bl false))) tNext)
  (tSeq (tIfS (tAnd (tTest (tOp (rNinU K) (tVar 1) (tC (.ref (He.ga K "PAIRS"))))) (tTest (tOp (rNinU K) (tVar 1) (tTup (tCons (tC (.str "pick")) (tCons (tC (.str "shift")) tNil)))))) (tRet (tC (.bl false))) tNext)
  (tRet (tCB (rAll K) (tCons (tLc (iList K (tCall s_parts_of [] E0 (tCons (tVar 0) tNil))) (gName 2) tYes (tCall s_has_valid_names [] E0 (tCons (tVar 2) tNil)) [2]) tNil))))))))

def t_is_expression (K : PySem.W.Frag) (s_has_valid_names : Sp) (s_depth : Sp) : TS :=
  (tRet (tAndV (tCall s_has_valid_names [] E0 (tCons (tVar 0) tNil)) (tOp rLeI (tCall s_depth [] E0 (tCons (tVar 0) tNil)) (tC (.int 12)))))

def t__law_cell (K : PySem.W.Frag) : TS :=
  (tSeq (tIfS (tTest (tOp (rLtU K) (tVar 1) (tCB (rLen K) (tCons (tVar 0) tNil)))) (tRet (tOp (rIx K) (tVar 0) (tVar 1))) tNext)
  (tRet (tC (.int 0))))

def t__law_draws (K : PySem.W.Frag) : TS :=
  (tSeq (tAsg (tLst tNil) (gName 2))
  (tSeq (tAsg (tVar 0) (gName 3))
  (tSeq (tFor (iRng1 (tCons (tVar 1) tNil)) (gName 4) (tIfS (tAnd (tTest (tOp rGeI (tVar 0) (tOp rPowU (tC (.int 10)) (tC (.int 18))))) (tTest (tOp rGtI (tVar 3) (tC (.int 0))))) (tSeq (tDrop (tBM K "list" rAppend (tVar 2) (tCons (tOp rModU (tCB rIntU (tCons (tVar 3) tNil)) (tC (.int 4096))) tNil)))
  (tAsg (tOp rDivU (tVar 3) (tC (.int 4096))) (gName 3))) (tSeq (tAsg (tOp rModU (tCB rIntU (tCons (tOp (rAddU K) (tOp rMulU (tVar 0) (tC (.int 48271))) (tOp rMulU (tOp (rAddU K) (tVar 4) (tC (.int 1))) (tC (.int 69621)))) tNil)) (tC (.int 2147483647))) (gName 5))
  (tSeq (tAsg (tOp rModU (tCB rIntU (tCons (tOp (rAddU K) (tOp (rAddU K) (tOp rMulU (tVar 5) (tVar 5)) (tOp rMulU (tVar 5) (tC (.int 16807)))) (tOp rMulU (tVar 4) (tC (.int 7919)))) tNil)) (tC (.int 2147483629))) (gName 5))
  (tSeq (tAsg (tOp rModU (tCB rIntU (tCons (tOp (rAddU K) (tOp (rAddU K) (tOp rMulU (tVar 5) (tVar 5)) (tVar 0)) (tOp rMulU (tC (.int 13)) (tVar 4))) tNil)) (tC (.int 2147483587))) (gName 5))
  (tDrop (tBM K "list" rAppend (tVar 2) (tCons (tOp rModU (tOp rDivU (tVar 5) (tC (.int 7))) (tC (.int 4096))) tNil))))))))
  (tRet (tVar 2)))))

def t__law_is_int (K : PySem.W.Frag) : TS :=
  (tRet (tAndV (tCB (rIsi K) (tCons (tVar 0) (tCons (tC (.ty "int")) tNil))) (tNotV (tCB (rIsi K) (tCons (tVar 0) (tCons (tC (.ty "bool")) tNil))))))

def t__law_is_bool (K : PySem.W.Frag) : TS :=
  (tSeq (tIfS (tB (tVar 1)) (tRet (tOp rIsB (tVar 0) (tC (.bl true)))) tNext)
  (tRet (tOp rIsB (tVar 0) (tC (.bl false)))))

def t__law_is_text (K : PySem.W.Frag) : TS :=
  (tRet (tAndV (tCB (rIsi K) (tCons (tVar 0) (tCons (tC (.ty "str")) tNil))) (tOp (rEqU K) (tVar 0) (tVar 1))))

def t__law_is_number (K : PySem.W.Frag) (s__law_is_int : Sp) : TS :=
  (tRet (tAndV (tCall s__law_is_int [] E0 (tCons (tVar 0) tNil)) (tOp (rEqU K) (tVar 0) (tVar 1))))

def t__law_is_texts (K : PySem.W.Frag) (s__law_is_text : Sp) : TS :=
  (tSeq (tIfS (tOr (tAnd (tTest (tOp (rEqU K) (tVar 2) (tC (.str "list")))) (tNot (tB (tCB (rIsi K) (tCons (tVar 0) (tCons (tC (.ty "list")) tNil)))))) (tAnd (tTest (tOp (rEqU K) (tVar 2) (tC (.str "tuple")))) (tNot (tB (tCB (rIsi K) (tCons (tVar 0) (tCons (tC (.ty "tuple")) tNil))))))) (tRet (tC (.bl false))) tNext)
  (tSeq (tIfS (tTest (tOp (rNeU K) (tCB (rLen K) (tCons (tVar 0) tNil)) (tCB (rLen K) (tCons (tVar 1) tNil)))) (tRet (tC (.bl false))) tNext)
  (tSeq (tFor (iRng1 (tCons (tCB (rLen K) (tCons (tVar 1) tNil)) tNil)) (gName 3) (tIfS (tNot (tB (tCall s__law_is_text [] E0 (tCons (tOp (rIx K) (tVar 0) (tVar 3)) (tCons (tOp (rIx K) (tVar 1) (tVar 3)) tNil))))) (tRet (tC (.bl false))) tNext))
  (tRet (tC (.bl true))))))

def t__law_stream (K : PySem.W.Frag) (s__law_draws : Sp) (s__law_cell : Sp) : TS :=
  (tSeq (tAsg (tLst tNil) (gName 2))
  (tSeq (tFor (iRng1 (tCons (tOp (rAddU K) (tC (.int 1)) (tOp rDivU (tVar 1) (tC (.int 16)))) tNil)) (gName 3) (tAsg (tOp (rAddU K) (tVar 2) (tCall s__law_draws [] E0 (tCons (tOp (rAddU K) (tCall s__law_cell [] E0 (tCons (tVar 0) (tCons (tVar 3) tNil))) (tOp rMulU (tC (.int 7)) (tVar 3))) (tCons (tC (.int 16)) tNil)))) (gName 2)))
  (tRet (tSl (rSlU K) (tVar 2) tNoPart (tPart (tVar 1))))))

def t__law_signs (K : PySem.W.Frag) : TS :=
  (tRet (tC (.str " !\"#$&'()*+,-./0123456789:;<=>?@ABCDEFGHIJKLMNOPQRSTUVWXYZ[\\]^_`abcdefghijklmnopqrstuvwxyz{|}~")))

def t__law_letters (K : PySem.W.Frag) : TS :=
  (tRet (tC (.str "abcdefghijklmnopqrstuvwxyz0123456789")))

def t__law_name (K : PySem.W.Frag) (s__law_letters : Sp) : TS :=
  (tSeq (tAsg (tCall s__law_letters [] E0 tNil) (gName 2))
  (tRet (tM1 (rJoinU K) (tC (.str "")) (tLc (iRng1 (tCons (tOp (rAddU K) (tC (.int 1)) (tOp rModU (tOp (rIx K) (tVar 0) (tOp rModU (tVar 1) (tCB (rLen K) (tCons (tVar 0) tNil)))) (tC (.int 12)))) tNil)) (gName 3) tYes (tOp (rIx K) (tVar 2) (tOp rModU (tOp (rIx K) (tVar 0) (tOp rModU (tOp (rAddU K) (tOp (rAddU K) (tVar 1) (tC (.int 1))) (tVar 3)) (tCB (rLen K) (tCons (tVar 0) tNil)))) (tC (.int 36)))) [3]))))

def t__law_wild_path (K : PySem.W.Frag) (s__law_signs : Sp) (s__law_name : Sp) : TS :=
  (tSeq (tAsg (tLc (iRng1 (tCons (tOp rModU (tOp (rIx K) (tVar 0) (tOp rModU (tVar 1) (tCB (rLen K) (tCons (tVar 0) tNil)))) (tC (.int 8))) tNil)) (gName 8) tYes (tCall s__law_name [] E0 (tCons (tVar 0) (tCons (tOp (rAddU K) (tOp (rAddU K) (tVar 1) (tC (.int 1))) (tOp rMulU (tC (.int 3)) (tVar 8))) tNil))) [8]) (gName 2))
  (tSeq (tAsg (tM1 (rJoinU K) (tC (.str "/")) (tVar 2)) (gName 3))
  (tSeq (tAsg (tCall s__law_signs [] E0 tNil) (gName 4))
  (tSeq (tAsg (tOp rModU (tOp (rIx K) (tVar 0) (tOp rModU (tOp (rAddU K) (tVar 1) (tC (.int 2))) (tCB (rLen K) (tCons (tVar 0) tNil)))) (tC (.int 8))) (gName 5))
  (tSeq (tAsg (tOp rModU (tOp (rIx K) (tVar 0) (tOp rModU (tOp (rAddU K) (tVar 1) (tC (.int 3))) (tCB (rLen K) (tCons (tVar 0) tNil)))) (tOp (rAddU K) (tCB (rLen K) (tCons (tVar 3) tNil)) (tC (.int 1)))) (gName 6))
  (tSeq (tAsg (tOp (rIx K) (tVar 4) (tOp rModU (tOp (rIx K) (tVar 0) (tOp rModU (tOp (rAddU K) (tVar 1) (tC (.int 4))) (tCB (rLen K) (tCons (tVar 0) tNil)))) (tCB (rLen K) (tCons (tVar 4) tNil)))) (gName 7))
  (tSeq (tIfS (tTest (tOp (rEqU K) (tVar 5) (tC (.int 0)))) (tRet (tOp (rAddU K) (tOp (rAddU K) (tSl (rSlU K) (tVar 3) tNoPart (tPart (tVar 6))) (tVar 7)) (tSl (rSlU K) (tVar 3) (tPart (tVar 6)) tNoPart))) tNext)
  (tSeq (tIfS (tTest (tOp (rEqU K) (tVar 5) (tC (.int 1)))) (tRet (tOp (rAddU K) (tOp (rAddU K) (tSl (rSlU K) (tVar 3) tNoPart (tPart (tVar 6))) (tVar 7)) (tSl (rSlU K) (tVar 3) (tPart (tOp (rAddU K) (tVar 6) (tC (.int 1)))) tNoPart))) tNext)
  (tSeq (tIfS (tTest (tOp (rEqU K) (tVar 5) (tC (.int 2)))) (tRet (tOp (rAddU K) (tOp (rAddU K) (tSl (rSlU K) (tVar 3) tNoPart (tPart (tVar 6))) (tC (.str "/"))) (tSl (rSlU K) (tVar 3) (tPart (tVar 6)) tNoPart))) tNext)
  (tSeq (tIfS (tTest (tOp (rEqU K) (tVar 5) (tC (.int 3)))) (tRet (tOp (rAddU K) (tSl (rSlU K) (tVar 3) tNoPart (tPart (tVar 6))) (tSl (rSlU K) (tVar 3) (tPart (tOp (rAddU K) (tVar 6) (tC (.int 1)))) tNoPart))) tNext)
  (tRet (tVar 3))))))))))))

def t__law_is_name_due (K : PySem.W.Frag) (s__law_letters : Sp) : TS :=
  (tSeq (tIfS (tOr (tTest (tOp (rLtU K) (tCB (rLen K) (tCons (tVar 0) tNil)) (tC (.int 1)))) (tTest (tOp rGtI (tCB (rLen K) (tCons (tVar 0) tNil)) (tC (.int 12))))) (tRet (tC (.bl false))) tNext)
  (tRet (tOp (rEqU K) (tCB (rLen K) (tCons (tLc (iStr (tVar 0)) (gName 1) (tTest (tOp (rNinU K) (tVar 1) (tCall s__law_letters [] E0 tNil))) (tVar 1) [1]) tNil)) (tC (.int 0)))))

def t__law_is_path_due (K : PySem.W.Frag) (s__law_is_name_due : Sp) : TS :=
  (tSeq (tIfS (tTest (tOp (rEqU K) (tVar 0) (tC (.str "")))) (tRet (tC (.bl true))) tNext)
  (tSeq (tAsg (tM1 rSplitU (tVar 0) (tC (.str "/"))) (gName 1))
  (tRet (tAndV (tOp rLeI (tCB (rLen K) (tCons (tVar 1) tNil)) (tC (.int 6))) (tOp (rEqU K) (tCB (rLen K) (tCons (tLc (iList K (tVar 1)) (gName 2) (tNot (tB (tCall s__law_is_name_due [] E0 (tCons (tVar 2) tNil)))) (tVar 2) [2]) tNil)) (tC (.int 0)))))))

def t__law_expression (K : PySem.W.Frag) (s__law_expression : Sp) : TS :=
  (tSeq (tAsg (tOp (rAddU K) (tOp (rIx K) (tVar 0) (tOp rModU (tVar 1) (tCB (rLen K) (tCons (tVar 0) tNil)))) (tOp rMulU (tC (.int 31)) (tVar 1))) (gName 4))
  (tSeq (tIfS (tOr (tTest (tOp (rEqU K) (tVar 2) (tC (.int 0)))) (tTest (tOp (rEqU K) (tOp rModU (tVar 4) (tC (.int 5))) (tC (.int 0))))) (tSeq (tIfS (tTest (tOp (rEqU K) (tOp rModU (tOp rDivU (tVar 4) (tC (.int 5))) (tC (.int 3))) (tC (.int 0)))) (tRet (tTup (tCons (tC (.str "number")) (tCons (tOp (rIx K) (tLst (tCons (tOp rSubU (tOp rModU (tOp rDivU (tVar 4) (tC (.int 15))) (tC (.int 9))) (tC (.int 4))) (tCons (tOp rSubU (tOp rPowU (tC (.int 10)) (tC (.int 29))) (tVar 4)) (tCons (tOp (rAddU K) (tUn rNegU (tOp rPowU (tC (.int 10)) (tC (.int 20)))) (tVar 4)) tNil)))) (tOp rModU (tOp rDivU (tVar 4) (tC (.int 135))) (tC (.int 3)))) tNil)))) tNext)
  (tRet (tTup (tCons (tC (.str "path")) (tCons (tOp (rIx K) (tLst (tCons (tC (.str "a")) (tCons (tC (.str "b")) (tCons (tC (.str "b/c")) tNil)))) (tOp rModU (tOp rDivU (tVar 4) (tC (.int 15))) (tC (.int 3)))) tNil))))) tNext)
  (tSeq (tAsg (tOp rModU (tOp rDivU (tVar 4) (tC (.int 5))) (tC (.int 9))) (gName 5))
  (tSeq (tAsg (tLc (iRng1 (tCons (tC (.int 3)) tNil)) (gName 7) tYes (tCall s__law_expression [] E0 (tCons (tVar 0) (tCons (tOp (rAddU K) (tOp (rAddU K) (tOp rMulU (tC (.int 3)) (tVar 1)) (tC (.int 1))) (tVar 7)) (tCons (tOp rSubU (tVar 2) (tC (.int 1))) (tCons (tVar 3) tNil))))) [7]) (gName 6))
  (tSeq (tIfS (tTest (tOp (rEqU K) (tVar 5) (tC (.int 7)))) (tRet (tTup (tCons (tC (.str "pick")) (tCons (tOp (rIx K) (tVar 6) (tC (.int 0))) (tCons (tOp (rIx K) (tVar 6) (tC (.int 1))) (tCons (tOp (rIx K) (tVar 6) (tC (.int 2))) tNil)))))) tNext)
  (tSeq (tIfS (tTest (tOp (rEqU K) (tVar 5) (tC (.int 8)))) (tRet (tTup (tCons (tC (.str "shift")) (tCons (tOp (rIx K) (tVar 6) (tC (.int 0))) (tCons (tCB (rTupleU K) (tCons (tLc (iRng1 (tCons (tVar 3) tNil)) (gName 7) tYes (tOp rSubU (tOp rModU (tOp (rIx K) (tVar 0) (tOp rModU (tOp (rAddU K) (tOp (rAddU K) (tVar 1) (tC (.int 5))) (tVar 7)) (tCB (rLen K) (tCons (tVar 0) tNil)))) (tC (.int 5))) (tC (.int 2))) [7]) tNil)) tNil))))) tNext)
  (tRet (tTup (tCons (tOp (rIx K) (tLst (tCons (tC (.str "add")) (tCons (tC (.str "sub")) (tCons (tC (.str "mul")) (tCons (tC (.str "min")) (tCons (tC (.str "max")) (tCons (tC (.str "less")) (tCons (tC (.str "add")) tNil)))))))) (tVar 5)) (tCons (tOp (rIx K) (tVar 6) (tC (.int 0))) (tCons (tOp (rIx K) (tVar 6) (tC (.int 1))) tNil)))))))))))

def t__law_parts (K : PySem.W.Frag) : TS :=
  (tSeq (tIfS (tTest (tOp (rInU K) (tOp (rIx K) (tVar 0) (tC (.int 0))) (tTup (tCons (tC (.str "path")) (tCons (tC (.str "number")) tNil))))) (tRet (tLst tNil)) tNext)
  (tSeq (tIfS (tTest (tOp (rEqU K) (tOp (rIx K) (tVar 0) (tC (.int 0))) (tC (.str "shift")))) (tRet (tLst (tCons (tOp (rIx K) (tVar 0) (tC (.int 1))) tNil))) tNext)
  (tRet (tCB (rListU K) (tCons (tSl (rSlU K) (tVar 0) (tPart (tC (.int 1))) tNoPart) tNil)))))

def t__law_depth (K : PySem.W.Frag) (s__law_parts : Sp) (s__law_depth : Sp) : TS :=
  (tRet (tOp (rAddU K) (tC (.int 1)) (tCB (rMax K) (tCons (tOp (rAddU K) (tLc (iList K (tCall s__law_parts [] E0 (tCons (tVar 0) tNil))) (gName 1) tYes (tCall s__law_depth [] E0 (tCons (tVar 1) tNil)) [1]) (tLst (tCons (tC (.int 0)) tNil))) tNil))))

def t__law_paths (K : PySem.W.Frag) (s__law_distinct : Sp) (s__law_parts : Sp) (s__law_paths : Sp) : TS :=
  (tSeq (tIfS (tTest (tOp (rEqU K) (tOp (rIx K) (tVar 0) (tC (.int 0))) (tC (.str "path")))) (tRet (tLst (tCons (tOp (rIx K) (tVar 0) (tC (.int 1))) tNil))) tNext)
  (tSeq (tAsg (tLst tNil) (gName 1))
  (tSeq (tFor (iList K (tCall s__law_parts [] E0 (tCons (tVar 0) tNil))) (gName 2) (tAsg (tOp (rAddU K) (tVar 1) (tCall s__law_paths [] E0 (tCons (tVar 2) tNil))) (gName 1)))
  (tRet (tCall s__law_distinct [] E0 (tCons (tVar 1) tNil))))))

def t__law_distinct (K : PySem.W.Frag) : TS :=
  (tSeq (tAsg (tLst tNil) (gName 1))
  (tSeq (tFor (iList K (tCB (rSortedS K) (tCons (tVar 0) tNil))) (gName 2) (tIfS (tOr (tTest (tOp (rEqU K) (tVar 1) (tLst tNil))) (tTest (tOp (rNeU K) (tOp (rIx K) (tVar 1) (tUn rNegU (tC (.int 1)))) (tVar 2)))) (tDrop (tBM K "list" rAppend (tVar 1) (tCons (tVar 2) tNil))) tNext))
  (tRet (tVar 1))))

def t_law (K : PySem.W.Frag) (s__law_is_texts : Sp) (s__law_paths : Sp) (s_paths_of : Sp) (s__law_is_bool : Sp) (s_is_expression : Sp) (s__law_is_number : Sp) (s_depth : Sp) (s__law_depth : Sp) (s__law_is_path_due : Sp) (s__law_wild_path : Sp) (s__law_expression : Sp) (s__law_stream : Sp) : TS :=
  (tSeq (tAsg (tCall s__law_stream [] E0 (tCons (tVar 0) (tCons (tC (.int 48)) tNil))) (gName 1))
  (tSeq (tAsg (tCall s__law_expression [] E0 (tCons (tVar 1) (tCons (tC (.int 1)) (tCons (tOp rModU (tOp (rIx K) (tVar 1) (tC (.int 0))) (tC (.int 4))) (tCons (tC (.int 2)) tNil))))) (gName 2))
  (tSeq (tAsg (tOp (rEqU K) (tOp rModU (tOp (rIx K) (tVar 1) (tC (.int 2))) (tC (.int 2))) (tC (.int 0))) (gName 3))
  (tSeq (tIfS (tB (tVar 3)) (tSeq (tAsg (tCall s__law_wild_path [] E0 (tCons (tVar 1) (tCons (tC (.int 20)) tNil))) (gName 4))
  (tSeq (tAsg (tOp (rIx K) (tLst (tCons (tTup (tCons (tC (.str "path")) (tCons (tVar 4) tNil))) (tCons (tTup (tCons (tC (.str "number")) (tCons (tOp rPowU (tC (.int 10)) (tC (.int 30))) tNil))) (tCons (tTup (tCons (tC (.str "number")) (tCons (tOp rSubU (tUn rNegU (tOp rPowU (tC (.int 10)) (tC (.int 30)))) (tOp (rIx K) (tVar 1) (tC (.int 3)))) tNil))) (tCons (tTup (tCons (tC (.str "Add")) (tCons (tVar 2) (tCons (tVar 2) tNil)))) (tCons (tTup (tCons (tC (.str "div")) (tCons (tVar 2) (tCons (tVar 2) tNil)))) (tCons (tTup (tCons (tC (.str "shift")) (tCons (tVar 2) (tCons (tTup (tCons (tC (.int 1)) (tCons (tOp rPowU (tC (.int 10)) (tC (.int 30))) tNil))) tNil)))) (tCons (tTup (tCons (tC (.str "path")) (tCons (tC (.str "A")) tNil))) (tCons (tTup (tCons (tC (.str "number")) (tCons (tOp rSubU (tOp rPowU (tC (.int 10)) (tC (.int 30))) (tC (.int 1))) tNil))) tNil))))))))) (tOp rModU (tOp (rIx K) (tVar 1) (tC (.int 4))) (tC (.int 8)))) (gName 5))
  (tSeq (tAsg (tOrV (tOp (rNinU K) (tOp rModU (tOp (rIx K) (tVar 1) (tC (.int 4))) (tC (.int 8))) (tTup (tCons (tC (.int 0)) (tCons (tC (.int 7)) tNil)))) (tAndV (tOp (rEqU K) (tOp rModU (tOp (rIx K) (tVar 1) (tC (.int 4))) (tC (.int 8))) (tC (.int 0))) (tNotV (tCall s__law_is_path_due [] E0 (tCons (tVar 4) tNil))))) (gName 3))
  (tAsg (tOp (rIx K) (tLst (tCons (tVar 5) (tCons (tTup (tCons (tC (.str "add")) (tCons (tVar 5) (tCons (tVar 2) tNil)))) (tCons (tTup (tCons (tC (.str "pick")) (tCons (tVar 2) (tCons (tVar 2) (tCons (tVar 5) tNil))))) (tCons (tTup (tCons (tC (.str "shift")) (tCons (tVar 5) (tCons (tTup (tCons (tC (.int 0)) tNil)) tNil)))) (tCons (tTup (tCons (tC (.str "less")) (tCons (tVar 2) (tCons (tVar 5) tNil)))) tNil)))))) (tOp rModU (tOp (rIx K) (tVar 1) (tC (.int 5))) (tC (.int 5)))) (gName 2))))) tNext)
  (tSeq (tAsg (tOp (rIx K) (tLst (tCons (tC (.int 0)) (tCons (tC (.int 0)) (tCons (tC (.int 11)) (tCons (tC (.int 12)) (tCons (tC (.int 13)) (tCons (tC (.int 30)) tNil))))))) (tOp rModU (tOp (rIx K) (tVar 1) (tC (.int 6))) (tC (.int 6)))) (gName 6))
  (tSeq (tFor (iRng1 (tCons (tC (.int 30)) tNil)) (gName 7) (tIfS (tTest (tOp (rLtU K) (tCall s__law_depth [] E0 (tCons (tVar 2) tNil)) (tVar 6))) (tAsg (tIf (tTest (tOp (rEqU K) (tOp rModU (tOp (rIx K) (tVar 1) (tOp (rAddU K) (tC (.int 7)) (tOp rModU (tVar 7) (tC (.int 12))))) (tC (.int 2))) (tC (.int 0)))) (tTup (tCons (tC (.str "shift")) (tCons (tVar 2) (tCons (tTup (tCons (tC (.int 1)) (tCons (tUn rNegU (tC (.int 1))) tNil))) tNil)))) (tTup (tCons (tC (.str "sub")) (tCons (tTup (tCons (tC (.str "number")) (tCons (tVar 7) tNil))) (tCons (tVar 2) tNil))))) (gName 2)) tNext))
  (tSeq (tAsg (tCall s__law_depth [] E0 (tCons (tVar 2) tNil)) (gName 8))
  (tSeq (tIfS (tNot (tB (tCall s__law_is_number [] E0 (tCons (tCall s_depth [] E0 (tCons (tVar 2) tNil)) (tCons (tVar 8) tNil))))) (tRet (tC (.bl false))) tNext)
  (tSeq (tIfS (tNot (tB (tCall s__law_is_bool [] E0 (tCons (tCall s_is_expression [] E0 (tCons (tVar 2) tNil)) (tCons (tAndV (tNotV (tVar 3)) (tOp rLeI (tVar 8) (tC (.int 12)))) tNil))))) (tRet (tC (.bl false))) tNext)
  (tSeq (tAsg (tCall s_paths_of [] E0 (tCons (tVar 2) tNil)) (gName 9))
  (tRet (tCall s__law_is_texts [] E0 (tCons (tVar 9) (tCons (tCall s__law_paths [] E0 (tCons (tVar 2) tNil)) (tCons (tC (.str "list")) tNil)))))))))))))))

end T94

set_option maxHeartbeats 4000000
/-! the derivations -/
namespace T94
open PySem PySem.Spec PyProof.Rows L2 T9
section
variable {P : Program} {w : World} {K : PySem.W.Frag} {mg : Str → Option Value} {base : Heap}

abbrev s_is_name_ : Stmt := top 4
theorem sc_is_name : FnScope ["name", "letter"] ["name"] (defScope s_is_name_) := ⟨rfl, rfl, rfl, by decide +kernel, rfl, by decide +kernel, by decide +kernel⟩
theorem ok_is_name {sp : Sp} {k : Nat} (T : Tx K mg) (len : ∀ vs H Q E, sp vs H Q E → vs.length = 1)
    (pure : ∀ vs H Q E, sp vs H Q E → t_is_name K { nx := fun _ H' => Q .non H', rt := Q } (L2.start ["name", "letter"] vs) H) : Cl P w K mg base CX0 (k + 1) "is_name" sp := by
  obtain ⟨fd, F⟩ := T.f_is_name
  refine ⟨_, fd, ["name"], T.g_is_name, F.kp, FunD.bindsN F fun _ _ _ _ _ _ us hl => match us, hl with | [_], _ => rfl, F.ok sc_is_name len fun cdv A outer s H vs Q E hr h => ⟨t_is_name K, PSs.nox ?_, pure vs H Q E h⟩⟩
  exact (pss_one (ps_ret (pe_and (pe_chain op_le op_le pe_int (pe_callB call_len (by rfl) T.b_len (by decide +kernel) (pa_cons (pv 0) pa_nil)) (pe_gc (by rfl) T.c_LONGEST_NAME)) (pe_one (pe_callB (cr_all rfl) (by rfl) T.b_all (by decide +kernel) (pa_cons (pe_lc (own := [("letter", 1)]) rfl sc_is_name.nd (pi_str (pv 0)) (blkOk_by (own := [("letter", 1)]) (N := ["name", "letter"]) (sc := defScope s_is_name_) (by decide +kernel)) (fun _ _ _ _ _ => (pg_name (i := 1) sc_is_name.nd rfl (by first | exact Or.inl rfl | exact Or.inr rfl))) (fun _ _ _ _ _ => pts_nil) (fun _ _ _ _ _ => (pe_cmpR op_inU (pv 1) (pe_gc (by rfl) T.c_LETTERS) (by rfl)))) pa_nil))))))

abbrev s_is_path_ : Stmt := top 5
theorem sc_is_path : FnScope ["path", "names", "name"] ["path"] (defScope s_is_path_) := ⟨rfl, rfl, rfl, by decide +kernel, rfl, by decide +kernel, by decide +kernel⟩
theorem ok_is_path {s_is_name : Sp} {sp : Sp} {k : Nat} (T : Tx K mg) (G_is_name : Cl P w K mg base CX0 k "is_name" s_is_name) (len : ∀ vs H Q E, sp vs H Q E → vs.length = 1)
    (pure : ∀ vs H Q E, sp vs H Q E → t_is_path K s_is_name { nx := fun _ H' => Q .non H', rt := Q } (L2.start ["path", "names", "name"] vs) H) : Cl P w K mg base CX0 (k + 1) "is_path" sp := by
  obtain ⟨fd, F⟩ := T.f_is_path
  refine ⟨_, fd, ["path"], T.g_is_path, F.kp, FunD.bindsN F fun _ _ _ _ _ _ us hl => match us, hl with | [_], _ => rfl, F.ok sc_is_path len fun cdv A outer s H vs Q E hr h => ⟨t_is_path K s_is_name, PSs.nox ?_, pure vs H Q E h⟩⟩
  exact (pss_cons (ps_if (pt_cmpR (op_eqU hr.units) (pv 0) pe_str (nomark _)) (pss_one (ps_ret pe_bl)) pss_nil)
    (pss_cons (ps_set (i := 1) sc_is_path.nd rfl (by first | exact Or.inl rfl | exact Or.inr rfl) (pe_split (pv 0) pe_str))
    (pss_one (ps_ret (pe_and (pe_cmpR op_le (pe_callB call_len (by rfl) T.b_len (by decide +kernel) (pa_cons (pv 1) pa_nil)) (pe_gc (by rfl) T.c_MOST_NAMES) (nomark _)) (pe_one (pe_callB (cr_all rfl) (by rfl) T.b_all (by decide +kernel) (pa_cons (pe_lc (own := [("name", 2)]) rfl sc_is_path.nd (pi_list (pv 1)) (blkOk_by (own := [("name", 2)]) (N := ["path", "names", "name"]) (sc := defScope s_is_path_) (by decide +kernel)) (fun _ _ _ _ _ => (pg_name (i := 2) sc_is_path.nd rfl (by first | exact Or.inl rfl | exact Or.inr rfl))) (fun _ _ _ _ _ => pts_nil) (fun _ _ _ _ _ => (pe_cl G_is_name hr (by rfl) pass0 (pa_cons (pv 2) pa_nil)))) pa_nil))))))))

abbrev s_parts_of_ : Stmt := top 10
theorem sc_parts_of : FnScope ["expression", "kind"] ["expression"] (defScope s_parts_of_) := ⟨rfl, rfl, rfl, by decide +kernel, rfl, by decide +kernel, by decide +kernel⟩
theorem ok_parts_of {sp : Sp} {k : Nat} (T : Tx K mg) (len : ∀ vs H Q E, sp vs H Q E → vs.length = 1)
    (pure : ∀ vs H Q E, sp vs H Q E → t_parts_of K { nx := fun _ H' => Q .non H', rt := Q } (L2.start ["expression", "kind"] vs) H) : Cl P w K mg base CX0 (k + 1) "parts_of" sp := by
  obtain ⟨fd, F⟩ := T.f_parts_of
  refine ⟨_, fd, ["expression"], T.g_parts_of, F.kp, FunD.bindsN F fun _ _ _ _ _ _ us hl => match us, hl with | [_], _ => rfl, F.ok sc_parts_of len fun cdv A outer s H vs Q E hr h => ⟨t_parts_of K, PSs.nox ?_, pure vs H Q E h⟩⟩
  exact (pss_cons (ps_set (i := 1) sc_parts_of.nd rfl (by first | exact Or.inl rfl | exact Or.inr rfl) (pe_ix ix_seq (pv 0) pe_int (fun _ _ => rfl)))
    (pss_cons (ps_if (PW.pt (pw_or (pt_cmpR (op_eqU hr.units) (pv 1) pe_str (nomark _)) (pw_or1 (pt_cmpR (op_eqU hr.units) (pv 1) pe_str (nomark _))))) (pss_one (ps_ret (pe_lst pa_nil))) pss_nil)
    (pss_cons (ps_if (pt_cmpR (op_eqU hr.units) (pv 1) pe_str (nomark _)) (pss_one (ps_ret (pe_lst (pa_cons (pe_ix ix_seq (pv 0) pe_int (fun _ _ => rfl)) pa_nil)))) pss_nil)
    (pss_one (ps_ret (pe_callTy call_list_of (by rfl) T.b_list (by decide +kernel) (pa_cons (pe_slice sl_U (pv 0) (po_some pe_int) po_none) pa_nil)))))))

abbrev s_depth_ : Stmt := top 11
theorem sc_depth : FnScope ["expression", "part"] ["expression"] (defScope s_depth_) := ⟨rfl, rfl, rfl, by decide +kernel, rfl, by decide +kernel, by decide +kernel⟩
theorem ok_depth {s_parts_of : Sp} {s_depth : Sp} {sp : Sp} {k : Nat} (T : Tx K mg) (G_parts_of : Cl P w K mg base CX0 k "parts_of" s_parts_of) (G_depth : Cl P w K mg base CX0 k "depth" s_depth) (len : ∀ vs H Q E, sp vs H Q E → vs.length = 1)
    (pure : ∀ vs H Q E, sp vs H Q E → t_depth K s_parts_of s_depth { nx := fun _ H' => Q .non H', rt := Q } (L2.start ["expression", "part"] vs) H) : Cl P w K mg base CX0 (k + 1) "depth" sp := by
  obtain ⟨fd, F⟩ := T.f_depth
  refine ⟨_, fd, ["expression"], T.g_depth, F.kp, FunD.bindsN F fun _ _ _ _ _ _ us hl => match us, hl with | [_], _ => rfl, F.ok sc_depth len fun cdv A outer s H vs Q E hr h => ⟨t_depth K s_parts_of s_depth, PSs.nox ?_, pure vs H Q E h⟩⟩
  exact (pss_one (ps_ret (pe_op op_addU pe_int (pe_callBK (cr_maxDft rfl) (by rfl) T.b_max (by decide +kernel) (pa_cons (pe_lc (own := [("part", 1)]) rfl sc_depth.nd (pi_list (pe_cl G_parts_of hr (by rfl) pass0 (pa_cons (pv 0) pa_nil))) (blkOk_by (own := [("part", 1)]) (N := ["expression", "part"]) (sc := defScope s_depth_) (by decide +kernel)) (fun _ _ _ _ _ => (pg_name (i := 1) sc_depth.nd rfl (by first | exact Or.inl rfl | exact Or.inr rfl))) (fun _ _ _ _ _ => pts_nil) (fun _ _ _ _ _ => (pe_cl G_depth hr (by rfl) pass0 (pa_cons (pv 1) pa_nil)))) pa_nil) (pk_cons pe_int pk_nil)))))

abbrev s_collect_paths_ : Stmt := top 12
theorem sc_collect_paths : FnScope ["expression", "found", "part"] ["expression", "found"] (defScope s_collect_paths_) := ⟨rfl, rfl, rfl, by decide +kernel, rfl, by decide +kernel, by decide +kernel⟩
theorem ok_collect_paths {s_parts_of : Sp} {s_collect_paths : Sp} {sp : Sp} {k : Nat} (T : Tx K mg) (G_parts_of : Cl P w K mg base CX0 k "parts_of" s_parts_of) (G_collect_paths : Cl P w K mg base CX0 k "collect_paths" s_collect_paths) (len : ∀ vs H Q E, sp vs H Q E → vs.length = 2)
    (pure : ∀ vs H Q E, sp vs H Q E → t_collect_paths K s_parts_of s_collect_paths { nx := fun _ H' => Q .non H', rt := Q } (L2.start ["expression", "found", "part"] vs) H) : Cl P w K mg base CX0 (k + 1) "collect_paths" sp := by
  obtain ⟨fd, F⟩ := T.f_collect_paths
  refine ⟨_, fd, ["expression", "found"], T.g_collect_paths, F.kp, FunD.bindsN F fun _ _ _ _ _ _ us hl => match us, hl with | [_, _], _ => rfl, F.ok sc_collect_paths len fun cdv A outer s H vs Q E hr h => ⟨t_collect_paths K s_parts_of s_collect_paths, PSs.nox ?_, pure vs H Q E h⟩⟩
  exact (pss_cons (ps_if (pt_cmpR (op_eqU hr.units) (pe_ix ix_seq (pv 0) pe_int (fun _ _ => rfl)) pe_str (nomark _)) (pss_one (ps_dput (hu_of hr) (pv 1) (pe_ix ix_seq (pv 0) pe_int (fun _ _ => rfl)) pe_bl rfl)) pss_nil)
    (pss_one (ps_for PassesOwn.never rfl (pi_list (pe_cl G_parts_of hr (by rfl) pass0 (pa_cons (pv 0) pa_nil))) (pg_name (i := 2) sc_collect_paths.nd rfl (by first | exact Or.inl rfl | exact Or.inr rfl)) (pss_one (ps_expr (pe_cl G_collect_paths hr (by rfl) pass0 (pa_cons (pv 2) (pa_cons (pv 1) pa_nil))))))))

abbrev s_paths_of_ : Stmt := top 13
theorem sc_paths_of : FnScope ["expression", "found"] ["expression"] (defScope s_paths_of_) := ⟨rfl, rfl, rfl, by decide +kernel, rfl, by decide +kernel, by decide +kernel⟩
theorem ok_paths_of {s_collect_paths : Sp} {sp : Sp} {k : Nat} (T : Tx K mg) (G_collect_paths : Cl P w K mg base CX0 k "collect_paths" s_collect_paths) (len : ∀ vs H Q E, sp vs H Q E → vs.length = 1)
    (pure : ∀ vs H Q E, sp vs H Q E → t_paths_of K s_collect_paths { nx := fun _ H' => Q .non H', rt := Q } (L2.start ["expression", "found"] vs) H) : Cl P w K mg base CX0 (k + 1) "paths_of" sp := by
  obtain ⟨fd, F⟩ := T.f_paths_of
  refine ⟨_, fd, ["expression"], T.g_paths_of, F.kp, FunD.bindsN F fun _ _ _ _ _ _ us hl => match us, hl with | [_], _ => rfl, F.ok sc_paths_of len fun cdv A outer s H vs Q E hr h => ⟨t_paths_of K s_collect_paths, PSs.nox ?_, pure vs H Q E h⟩⟩
  exact (pss_cons (ps_set (i := 1) sc_paths_of.nd rfl (by first | exact Or.inl rfl | exact Or.inr rfl) pe_dnewK)
    (pss_cons (ps_expr (pe_cl G_collect_paths hr (by rfl) pass0 (pa_cons (pv 0) (pa_cons (pv 1) pa_nil))))
    (pss_one (ps_ret (pe_callB (call_sortedDk rfl) (by rfl) T.b_sorted (by decide +kernel) (pa_cons (pv 1) pa_nil))))))

abbrev s_is_integer_ : Stmt := top 14
theorem sc_is_integer : FnScope ["number"] ["number"] (defScope s_is_integer_) := ⟨rfl, rfl, rfl, by decide +kernel, rfl, by decide +kernel, by decide +kernel⟩
theorem ok_is_integer {sp : Sp} {k : Nat} (T : Tx K mg) (len : ∀ vs H Q E, sp vs H Q E → vs.length = 1)
    (pure : ∀ vs H Q E, sp vs H Q E → t_is_integer K { nx := fun _ H' => Q .non H', rt := Q } (L2.start ["number"] vs) H) : Cl P w K mg base CX0 (k + 1) "is_integer" sp := by
  obtain ⟨fd, F⟩ := T.f_is_integer
  refine ⟨_, fd, ["number"], T.g_is_integer, F.kp, FunD.bindsN F fun _ _ _ _ _ _ us hl => match us, hl with | [_], _ => rfl, F.ok sc_is_integer len fun cdv A outer s H vs Q E hr h => ⟨t_is_integer K, PSs.nox ?_, pure vs H Q E h⟩⟩
  exact (pss_one (ps_ret (pe_chain (op_ltU hr.units0) (op_ltU hr.units0) (pe_un un_neg (pe_gc (by rfl) T.c_GREATEST)) (pv 0) (pe_gc (by rfl) T.c_GREATEST))))

abbrev s_has_valid_names_ : Stmt := top 15
theorem sc_has_valid_names : FnScope ["expression", "kind", "part", "number"] ["expression"] (defScope s_has_valid_names_) := ⟨rfl, rfl, rfl, by decide +kernel, rfl, by decide +kernel, by decide +kernel⟩
theorem ok_has_valid_names {s_parts_of : Sp} {s_has_valid_names : Sp} {s_is_integer : Sp} {s_is_path : Sp} {sp : Sp} {k : Nat} (T : Tx K mg) (G_parts_of : Cl P w K mg base CX0 k "parts_of" s_parts_of) (G_has_valid_names : Cl P w K mg base CX0 k "has_valid_names" s_has_valid_names) (G_is_integer : Cl P w K mg base CX0 k "is_integer" s_is_integer) (G_is_path : Cl P w K mg base CX0 k "is_path" s_is_path) (len : ∀ vs H Q E, sp vs H Q E → vs.length = 1)
    (pure : ∀ vs H Q E, sp vs H Q E → t_has_valid_names K s_parts_of s_has_valid_names s_is_integer s_is_path { nx := fun _ H' => Q .non H', rt := Q } (L2.start ["expression", "kind", "part", "number"] vs) H) : Cl P w K mg base CX0 (k + 1) "has_valid_names" sp := by
  obtain ⟨fd, F⟩ := T.f_has_valid_names
  refine ⟨_, fd, ["expression"], T.g_has_valid_names, F.kp, FunD.bindsN F fun _ _ _ _ _ _ us hl => match us, hl with | [_], _ => rfl, F.ok sc_has_valid_names len fun cdv A outer s H vs Q E hr h => ⟨t_has_valid_names K s_parts_of s_has_valid_names s_is_integer s_is_path, PSs.nox ?_, pure vs H Q E h⟩⟩
  exact (pss_cons (ps_set (i := 1) sc_has_valid_names.nd rfl (by first | exact Or.inl rfl | exact Or.inr rfl) (pe_ix ix_seq (pv 0) pe_int (fun _ _ => rfl)))
    (pss_cons (ps_if (pt_cmpR (op_eqU hr.units) (pv 1) pe_str (nomark _)) (pss_one (ps_ret (pe_cl G_is_path hr (by rfl) pass0 (pa_cons (pe_ix ix_seq (pv 0) pe_int (fun _ _ => rfl)) pa_nil)))) pss_nil)
    (pss_cons (ps_if (pt_cmpR (op_eqU hr.units) (pv 1) pe_str (nomark _)) (pss_one (ps_ret (pe_cl G_is_integer hr (by rfl) pass0 (pa_cons (pe_ix ix_seq (pv 0) pe_int (fun _ _ => rfl)) pa_nil)))) pss_nil)
    (pss_cons (ps_if (PW.pt (pw_and (pt_cmpR (op_eqU hr.units) (pv 1) pe_str (nomark _)) (pw_and1 (pt_not (pt_val (pe_callB (cr_all rfl) (by rfl) T.b_all (by decide +kernel) (pa_cons (pe_lc (own := [("number", 3)]) rfl sc_has_valid_names.nd (pi_tup (pe_ix ix_seq (pv 0) pe_int (fun _ _ => rfl))) (blkOk_by (own := [("number", 3)]) (N := ["expression", "kind", "part", "number"]) (sc := defScope s_has_valid_names_) (by decide +kernel)) (fun _ _ _ _ _ => (pg_name (i := 3) sc_has_valid_names.nd rfl (by first | exact Or.inl rfl | exact Or.inr rfl))) (fun _ _ _ _ _ => pts_nil) (fun _ _ _ _ _ => (pe_cl G_is_integer hr (by rfl) pass0 (pa_cons (pv 3) pa_nil)))) pa_nil))))))) (pss_one (ps_ret pe_bl)) pss_nil)
    (pss_cons (ps_if (PW.pt (pw_and (pt_cmpR op_ninU (pv 1) (pe_gc (by rfl) T.c_PAIRS) (by rfl)) (pw_and1 (pt_cmpR op_ninU (pv 1) (pe_tup (pa_cons pe_str (pa_cons pe_str pa_nil))) (by rfl))))) (pss_one (ps_ret pe_bl)) pss_nil)
    (pss_one (ps_ret (pe_callB (cr_all rfl) (by rfl) T.b_all (by decide +kernel) (pa_cons (pe_lc (own := [("part", 2)]) rfl sc_has_valid_names.nd (pi_list (pe_cl G_parts_of hr (by rfl) pass0 (pa_cons (pv 0) pa_nil))) (blkOk_by (own := [("part", 2)]) (N := ["expression", "kind", "part", "number"]) (sc := defScope s_has_valid_names_) (by decide +kernel)) (fun _ _ _ _ _ => (pg_name (i := 2) sc_has_valid_names.nd rfl (by first | exact Or.inl rfl | exact Or.inr rfl))) (fun _ _ _ _ _ => pts_nil) (fun _ _ _ _ _ => (pe_cl G_has_valid_names hr (by rfl) pass0 (pa_cons (pv 2) pa_nil)))) pa_nil)))))))))

abbrev s_is_expression_ : Stmt := top 16
theorem sc_is_expression : FnScope ["expression"] ["expression"] (defScope s_is_expression_) := ⟨rfl, rfl, rfl, by decide +kernel, rfl, by decide +kernel, by decide +kernel⟩
theorem ok_is_expression {s_has_valid_names : Sp} {s_depth : Sp} {sp : Sp} {k : Nat} (T : Tx K mg) (G_has_valid_names : Cl P w K mg base CX0 k "has_valid_names" s_has_valid_names) (G_depth : Cl P w K mg base CX0 k "depth" s_depth) (len : ∀ vs H Q E, sp vs H Q E → vs.length = 1)
    (pure : ∀ vs H Q E, sp vs H Q E → t_is_expression K s_has_valid_names s_depth { nx := fun _ H' => Q .non H', rt := Q } (L2.start ["expression"] vs) H) : Cl P w K mg base CX0 (k + 1) "is_expression" sp := by
  obtain ⟨fd, F⟩ := T.f_is_expression
  refine ⟨_, fd, ["expression"], T.g_is_expression, F.kp, FunD.bindsN F fun _ _ _ _ _ _ us hl => match us, hl with | [_], _ => rfl, F.ok sc_is_expression len fun cdv A outer s H vs Q E hr h => ⟨t_is_expression K s_has_valid_names s_depth, PSs.nox ?_, pure vs H Q E h⟩⟩
  exact (pss_one (ps_ret (pe_and (pe_cl G_has_valid_names hr (by rfl) pass0 (pa_cons (pv 0) pa_nil)) (pe_one (pe_cmpR op_le (pe_cl G_depth hr (by rfl) pass0 (pa_cons (pv 0) pa_nil)) (pe_gc (by rfl) T.c_DEEPEST) (nomark _))))))

abbrev s__law_cell_ : Stmt := top 18
theorem sc__law_cell : FnScope ["_law_script", "_law_k"] ["_law_script", "_law_k"] (defScope s__law_cell_) := ⟨rfl, rfl, rfl, by decide +kernel, rfl, by decide +kernel, by decide +kernel⟩
theorem ok__law_cell {sp : Sp} {k : Nat} (T : Tx K mg) (len : ∀ vs H Q E, sp vs H Q E → vs.length = 2)
    (pure : ∀ vs H Q E, sp vs H Q E → t__law_cell K { nx := fun _ H' => Q .non H', rt := Q } (L2.start ["_law_script", "_law_k"] vs) H) : Cl P w K mg base CX0 (k + 1) "_law_cell" sp := by
  obtain ⟨fd, F⟩ := T.f__law_cell
  refine ⟨_, fd, ["_law_script", "_law_k"], T.g__law_cell, F.kp, FunD.bindsN F fun _ _ _ _ _ _ us hl => match us, hl with | [_, _], _ => rfl, F.ok sc__law_cell len fun cdv A outer s H vs Q E hr h => ⟨t__law_cell K, PSs.nox ?_, pure vs H Q E h⟩⟩
  exact (pss_cons (ps_if (pt_cmpR (op_ltU hr.units0) (pv 1) (pe_callB call_len (by rfl) T.b_len (by decide +kernel) (pa_cons (pv 0) pa_nil)) (nomark _)) (pss_one (ps_ret (pe_ix ix_seq (pv 0) (pv 1) (fun _ _ => rfl)))) pss_nil)
    (pss_one (ps_ret pe_int)))

abbrev s__law_draws_ : Stmt := top 19
theorem sc__law_draws : FnScope ["_law_cell_here", "_law_count", "_law_rows", "_law_left", "_law_k", "_law_mixed"] ["_law_cell_here", "_law_count"] (defScope s__law_draws_) := ⟨rfl, rfl, rfl, by decide +kernel, rfl, by decide +kernel, by decide +kernel⟩
theorem ok__law_draws {sp : Sp} {k : Nat} (T : Tx K mg) (len : ∀ vs H Q E, sp vs H Q E → vs.length = 2)
    (pure : ∀ vs H Q E, sp vs H Q E → t__law_draws K { nx := fun _ H' => Q .non H', rt := Q } (L2.start ["_law_cell_here", "_law_count", "_law_rows", "_law_left", "_law_k", "_law_mixed"] vs) H) : Cl P w K mg base CX0 (k + 1) "_law_draws" sp := by
  obtain ⟨fd, F⟩ := T.f__law_draws
  refine ⟨_, fd, ["_law_cell_here", "_law_count"], T.g__law_draws, F.kp, FunD.bindsN F fun _ _ _ _ _ _ us hl => match us, hl with | [_, _], _ => rfl, F.ok sc__law_draws len fun cdv A outer s H vs Q E hr h => ⟨t__law_draws K, PSs.nox ?_, pure vs H Q E h⟩⟩
  exact (pss_cons (ps_set (i := 2) sc__law_draws.nd rfl (by first | exact Or.inl rfl | exact Or.inr rfl) (pe_lst pa_nil))
    (pss_cons (ps_set (i := 3) sc__law_draws.nd rfl (by first | exact Or.inl rfl | exact Or.inr rfl) (pv 0))
    (pss_cons (ps_for PassesOwn.never rfl (pi_range1 (by rfl) T.b_range (pa_cons (pv 1) pa_nil)) (pg_name (i := 4) sc__law_draws.nd rfl (by first | exact Or.inl rfl | exact Or.inr rfl)) (pss_one (ps_if (PW.pt (pw_and (pt_cmpR op_ge (pv 0) (pe_op op_pow pe_int pe_int) (nomark _)) (pw_and1 (pt_cmpR op_gt (pv 3) pe_int (nomark _))))) (pss_cons (ps_expr (pe_bm PySem.F.plainAttrs_list PySem.F.slot_list_append PySem.F.type_list_append mt_append (pv 2) (pa_cons (pe_op op_mod (pe_callTy call_int1 (by rfl) T.b_int (by decide +kernel) (pa_cons (pv 3) pa_nil)) pe_int) pa_nil)))
    (pss_one (ps_set (i := 3) sc__law_draws.nd rfl (by first | exact Or.inl rfl | exact Or.inr rfl) (pe_op op_fdiv (pv 3) pe_int)))) (pss_cons (ps_set (i := 5) sc__law_draws.nd rfl (by first | exact Or.inl rfl | exact Or.inr rfl) (pe_op op_mod (pe_callTy call_int1 (by rfl) T.b_int (by decide +kernel) (pa_cons (pe_op op_addU (pe_op op_mulU (pv 0) pe_int) (pe_op op_mulU (pe_op op_addU (pv 4) pe_int) pe_int)) pa_nil)) pe_int))
    (pss_cons (ps_set (i := 5) sc__law_draws.nd rfl (by first | exact Or.inl rfl | exact Or.inr rfl) (pe_op op_mod (pe_callTy call_int1 (by rfl) T.b_int (by decide +kernel) (pa_cons (pe_op op_addU (pe_op op_addU (pe_op op_mulU (pv 5) (pv 5)) (pe_op op_mulU (pv 5) pe_int)) (pe_op op_mulU (pv 4) pe_int)) pa_nil)) pe_int))
    (pss_cons (ps_set (i := 5) sc__law_draws.nd rfl (by first | exact Or.inl rfl | exact Or.inr rfl) (pe_op op_mod (pe_callTy call_int1 (by rfl) T.b_int (by decide +kernel) (pa_cons (pe_op op_addU (pe_op op_addU (pe_op op_mulU (pv 5) (pv 5)) (pv 0)) (pe_op op_mulU pe_int (pv 4))) pa_nil)) pe_int))
    (pss_one (ps_expr (pe_bm PySem.F.plainAttrs_list PySem.F.slot_list_append PySem.F.type_list_append mt_append (pv 2) (pa_cons (pe_op op_mod (pe_op op_fdiv (pv 5) pe_int) pe_int) pa_nil))))))))))
    (pss_one (ps_ret (pv 2))))))

abbrev s__law_is_int_ : Stmt := top 20
theorem sc__law_is_int : FnScope ["_law_x"] ["_law_x"] (defScope s__law_is_int_) := ⟨rfl, rfl, rfl, by decide +kernel, rfl, by decide +kernel, by decide +kernel⟩
theorem ok__law_is_int {sp : Sp} {k : Nat} (T : Tx K mg) (len : ∀ vs H Q E, sp vs H Q E → vs.length = 1)
    (pure : ∀ vs H Q E, sp vs H Q E → t__law_is_int K { nx := fun _ H' => Q .non H', rt := Q } (L2.start ["_law_x"] vs) H) : Cl P w K mg base CX0 (k + 1) "_law_is_int" sp := by
  obtain ⟨fd, F⟩ := T.f__law_is_int
  refine ⟨_, fd, ["_law_x"], T.g__law_is_int, F.kp, FunD.bindsN F fun _ _ _ _ _ _ us hl => match us, hl with | [_], _ => rfl, F.ok sc__law_is_int len fun cdv A outer s H vs Q E hr h => ⟨t__law_is_int K, PSs.nox ?_, pure vs H Q E h⟩⟩
  exact (pss_one (ps_ret (pe_and (pe_callB call_isi (by rfl) T.b_isinstance (by decide +kernel) (pa_cons (pv 0) (pa_cons (pe_bltn (by rfl) T.b_int (by decide +kernel) rfl) pa_nil))) (pe_one (pe_not (pe_callB call_isi (by rfl) T.b_isinstance (by decide +kernel) (pa_cons (pv 0) (pa_cons (pe_bltn (by rfl) T.b_bool (by decide +kernel) rfl) pa_nil))))))))

abbrev s__law_is_bool_ : Stmt := top 21
theorem sc__law_is_bool : FnScope ["_law_x", "_law_due"] ["_law_x", "_law_due"] (defScope s__law_is_bool_) := ⟨rfl, rfl, rfl, by decide +kernel, rfl, by decide +kernel, by decide +kernel⟩
theorem ok__law_is_bool {sp : Sp} {k : Nat} (T : Tx K mg) (len : ∀ vs H Q E, sp vs H Q E → vs.length = 2)
    (pure : ∀ vs H Q E, sp vs H Q E → t__law_is_bool K { nx := fun _ H' => Q .non H', rt := Q } (L2.start ["_law_x", "_law_due"] vs) H) : Cl P w K mg base CX0 (k + 1) "_law_is_bool" sp := by
  obtain ⟨fd, F⟩ := T.f__law_is_bool
  refine ⟨_, fd, ["_law_x", "_law_due"], T.g__law_is_bool, F.kp, FunD.bindsN F fun _ _ _ _ _ _ us hl => match us, hl with | [_, _], _ => rfl, F.ok sc__law_is_bool len fun cdv A outer s H vs Q E hr h => ⟨t__law_is_bool K, PSs.nox ?_, pure vs H Q E h⟩⟩
  exact (pss_cons (ps_if (pt_val (pv 1)) (pss_one (ps_ret (pe_cmpR op_isBl (pv 0) pe_bl (nomark _)))) pss_nil)
    (pss_one (ps_ret (pe_cmpR op_isBl (pv 0) pe_bl (nomark _)))))

abbrev s__law_is_text_ : Stmt := top 22
theorem sc__law_is_text : FnScope ["_law_x", "_law_due"] ["_law_x", "_law_due"] (defScope s__law_is_text_) := ⟨rfl, rfl, rfl, by decide +kernel, rfl, by decide +kernel, by decide +kernel⟩
theorem ok__law_is_text {sp : Sp} {k : Nat} (T : Tx K mg) (len : ∀ vs H Q E, sp vs H Q E → vs.length = 2)
    (pure : ∀ vs H Q E, sp vs H Q E → t__law_is_text K { nx := fun _ H' => Q .non H', rt := Q } (L2.start ["_law_x", "_law_due"] vs) H) : Cl P w K mg base CX0 (k + 1) "_law_is_text" sp := by
  obtain ⟨fd, F⟩ := T.f__law_is_text
  refine ⟨_, fd, ["_law_x", "_law_due"], T.g__law_is_text, F.kp, FunD.bindsN F fun _ _ _ _ _ _ us hl => match us, hl with | [_, _], _ => rfl, F.ok sc__law_is_text len fun cdv A outer s H vs Q E hr h => ⟨t__law_is_text K, PSs.nox ?_, pure vs H Q E h⟩⟩
  exact (pss_one (ps_ret (pe_and (pe_callB call_isi (by rfl) T.b_isinstance (by decide +kernel) (pa_cons (pv 0) (pa_cons (pe_bltn (by rfl) T.b_str (by decide +kernel) rfl) pa_nil))) (pe_one (pe_cmpR (op_eqU hr.units) (pv 0) (pv 1) (nomark _))))))

abbrev s__law_is_number_ : Stmt := top 23
theorem sc__law_is_number : FnScope ["_law_x", "_law_due"] ["_law_x", "_law_due"] (defScope s__law_is_number_) := ⟨rfl, rfl, rfl, by decide +kernel, rfl, by decide +kernel, by decide +kernel⟩
theorem ok__law_is_number {s__law_is_int : Sp} {sp : Sp} {k : Nat} (T : Tx K mg) (G__law_is_int : Cl P w K mg base CX0 k "_law_is_int" s__law_is_int) (len : ∀ vs H Q E, sp vs H Q E → vs.length = 2)
    (pure : ∀ vs H Q E, sp vs H Q E → t__law_is_number K s__law_is_int { nx := fun _ H' => Q .non H', rt := Q } (L2.start ["_law_x", "_law_due"] vs) H) : Cl P w K mg base CX0 (k + 1) "_law_is_number" sp := by
  obtain ⟨fd, F⟩ := T.f__law_is_number
  refine ⟨_, fd, ["_law_x", "_law_due"], T.g__law_is_number, F.kp, FunD.bindsN F fun _ _ _ _ _ _ us hl => match us, hl with | [_, _], _ => rfl, F.ok sc__law_is_number len fun cdv A outer s H vs Q E hr h => ⟨t__law_is_number K s__law_is_int, PSs.nox ?_, pure vs H Q E h⟩⟩
  exact (pss_one (ps_ret (pe_and (pe_cl G__law_is_int hr (by rfl) pass0 (pa_cons (pv 0) pa_nil)) (pe_one (pe_cmpR (op_eqU hr.units) (pv 0) (pv 1) (nomark _))))))

abbrev s__law_is_texts_ : Stmt := top 24
theorem sc__law_is_texts : FnScope ["_law_x", "_law_due", "_law_kind", "_law_k"] ["_law_x", "_law_due", "_law_kind"] (defScope s__law_is_texts_) := ⟨rfl, rfl, rfl, by decide +kernel, rfl, by decide +kernel, by decide +kernel⟩
theorem ok__law_is_texts {s__law_is_text : Sp} {sp : Sp} {k : Nat} (T : Tx K mg) (G__law_is_text : Cl P w K mg base CX0 k "_law_is_text" s__law_is_text) (len : ∀ vs H Q E, sp vs H Q E → vs.length = 3)
    (pure : ∀ vs H Q E, sp vs H Q E → t__law_is_texts K s__law_is_text { nx := fun _ H' => Q .non H', rt := Q } (L2.start ["_law_x", "_law_due", "_law_kind", "_law_k"] vs) H) : Cl P w K mg base CX0 (k + 1) "_law_is_texts" sp := by
  obtain ⟨fd, F⟩ := T.f__law_is_texts
  refine ⟨_, fd, ["_law_x", "_law_due", "_law_kind"], T.g__law_is_texts, F.kp, FunD.bindsN F fun _ _ _ _ _ _ us hl => match us, hl with | [_, _, _], _ => rfl, F.ok sc__law_is_texts len fun cdv A outer s H vs Q E hr h => ⟨t__law_is_texts K s__law_is_text, PSs.nox ?_, pure vs H Q E h⟩⟩
  exact (pss_cons (ps_if (PW.pt (pw_or (PW.pt (pw_and (pt_cmpR (op_eqU hr.units) (pv 2) pe_str (nomark _)) (pw_and1 (pt_not (pt_val (pe_callB call_isi (by rfl) T.b_isinstance (by decide +kernel) (pa_cons (pv 0) (pa_cons (pe_bltn (by rfl) T.b_list (by decide +kernel) rfl) pa_nil)))))))) (pw_or1 (PW.pt (pw_and (pt_cmpR (op_eqU hr.units) (pv 2) pe_str (nomark _)) (pw_and1 (pt_not (pt_val (pe_callB call_isi (by rfl) T.b_isinstance (by decide +kernel) (pa_cons (pv 0) (pa_cons (pe_bltn (by rfl) T.b_tuple (by decide +kernel) rfl) pa_nil))))))))))) (pss_one (ps_ret pe_bl)) pss_nil)
    (pss_cons (ps_if (pt_cmpR (op_neU hr.units) (pe_callB call_len (by rfl) T.b_len (by decide +kernel) (pa_cons (pv 0) pa_nil)) (pe_callB call_len (by rfl) T.b_len (by decide +kernel) (pa_cons (pv 1) pa_nil)) (nomark _)) (pss_one (ps_ret pe_bl)) pss_nil)
    (pss_cons (ps_for PassesOwn.never rfl (pi_range1 (by rfl) T.b_range (pa_cons (pe_callB call_len (by rfl) T.b_len (by decide +kernel) (pa_cons (pv 1) pa_nil)) pa_nil)) (pg_name (i := 3) sc__law_is_texts.nd rfl (by first | exact Or.inl rfl | exact Or.inr rfl)) (pss_one (ps_if (pt_not (pt_val (pe_cl G__law_is_text hr (by rfl) pass0 (pa_cons (pe_ix ix_seq (pv 0) (pv 3) (fun _ _ => rfl)) (pa_cons (pe_ix ix_seq (pv 1) (pv 3) (fun _ _ => rfl)) pa_nil))))) (pss_one (ps_ret pe_bl)) pss_nil)))
    (pss_one (ps_ret pe_bl)))))

abbrev s__law_stream_ : Stmt := top 25
theorem sc__law_stream : FnScope ["_law_script", "_law_count", "_law_rows", "_law_k"] ["_law_script", "_law_count"] (defScope s__law_stream_) := ⟨rfl, rfl, rfl, by decide +kernel, rfl, by decide +kernel, by decide +kernel⟩
theorem ok__law_stream {s__law_draws : Sp} {s__law_cell : Sp} {sp : Sp} {k : Nat} (T : Tx K mg) (G__law_draws : Cl P w K mg base CX0 k "_law_draws" s__law_draws) (G__law_cell : Cl P w K mg base CX0 k "_law_cell" s__law_cell) (len : ∀ vs H Q E, sp vs H Q E → vs.length = 2)
    (pure : ∀ vs H Q E, sp vs H Q E → t__law_stream K s__law_draws s__law_cell { nx := fun _ H' => Q .non H', rt := Q } (L2.start ["_law_script", "_law_count", "_law_rows", "_law_k"] vs) H) : Cl P w K mg base CX0 (k + 1) "_law_stream" sp := by
  obtain ⟨fd, F⟩ := T.f__law_stream
  refine ⟨_, fd, ["_law_script", "_law_count"], T.g__law_stream, F.kp, FunD.bindsN F fun _ _ _ _ _ _ us hl => match us, hl with | [_, _], _ => rfl, F.ok sc__law_stream len fun cdv A outer s H vs Q E hr h => ⟨t__law_stream K s__law_draws s__law_cell, PSs.nox ?_, pure vs H Q E h⟩⟩
  exact (pss_cons (ps_set (i := 2) sc__law_stream.nd rfl (by first | exact Or.inl rfl | exact Or.inr rfl) (pe_lst pa_nil))
    (pss_cons (ps_for PassesOwn.never rfl (pi_range1 (by rfl) T.b_range (pa_cons (pe_op op_addU pe_int (pe_op op_fdiv (pv 1) pe_int)) pa_nil)) (pg_name (i := 3) sc__law_stream.nd rfl (by first | exact Or.inl rfl | exact Or.inr rfl)) (pss_one (ps_set (i := 2) sc__law_stream.nd rfl (by first | exact Or.inl rfl | exact Or.inr rfl) (pe_op op_addU (pv 2) (pe_cl G__law_draws hr (by rfl) pass0 (pa_cons (pe_op op_addU (pe_cl G__law_cell hr (by rfl) pass0 (pa_cons (pv 0) (pa_cons (pv 3) pa_nil))) (pe_op op_mulU pe_int (pv 3))) (pa_cons pe_int pa_nil)))))))
    (pss_one (ps_ret (pe_slice sl_U (pv 2) po_none (po_some (pv 1)))))))

abbrev s__law_signs_ : Stmt := top 26
theorem sc__law_signs : FnScope [] [] (defScope s__law_signs_) := ⟨rfl, rfl, rfl, by decide +kernel, rfl, by decide +kernel, by decide +kernel⟩
theorem ok__law_signs {sp : Sp} {k : Nat} (T : Tx K mg) (len : ∀ vs H Q E, sp vs H Q E → vs.length = 0)
    (pure : ∀ vs H Q E, sp vs H Q E → t__law_signs K { nx := fun _ H' => Q .non H', rt := Q } (L2.start [] vs) H) : Cl P w K mg base CX0 (k + 1) "_law_signs" sp := by
  obtain ⟨fd, F⟩ := T.f__law_signs
  refine ⟨_, fd, [], T.g__law_signs, F.kp, FunD.bindsN F fun _ _ _ _ _ _ us hl => match us, hl with | [], _ => rfl, F.ok sc__law_signs len fun cdv A outer s H vs Q E hr h => ⟨t__law_signs K, PSs.nox ?_, pure vs H Q E h⟩⟩
  exact (pss_one (ps_ret pe_str))

abbrev s__law_letters_ : Stmt := top 27
theorem sc__law_letters : FnScope [] [] (defScope s__law_letters_) := ⟨rfl, rfl, rfl, by decide +kernel, rfl, by decide +kernel, by decide +kernel⟩
theorem ok__law_letters {sp : Sp} {k : Nat} (T : Tx K mg) (len : ∀ vs H Q E, sp vs H Q E → vs.length = 0)
    (pure : ∀ vs H Q E, sp vs H Q E → t__law_letters K { nx := fun _ H' => Q .non H', rt := Q } (L2.start [] vs) H) : Cl P w K mg base CX0 (k + 1) "_law_letters" sp := by
  obtain ⟨fd, F⟩ := T.f__law_letters
  refine ⟨_, fd, [], T.g__law_letters, F.kp, FunD.bindsN F fun _ _ _ _ _ _ us hl => match us, hl with | [], _ => rfl, F.ok sc__law_letters len fun cdv A outer s H vs Q E hr h => ⟨t__law_letters K, PSs.nox ?_, pure vs H Q E h⟩⟩
  exact (pss_one (ps_ret pe_str))

abbrev s__law_name_ : Stmt := top 28
theorem sc__law_name : FnScope ["_law_draws_here", "_law_at", "_law_letters_here", "_law_k"] ["_law_draws_here", "_law_at"] (defScope s__law_name_) := ⟨rfl, rfl, rfl, by decide +kernel, rfl, by decide +kernel, by decide +kernel⟩
theorem ok__law_name {s__law_letters : Sp} {sp : Sp} {k : Nat} (T : Tx K mg) (G__law_letters : Cl P w K mg base CX0 k "_law_letters" s__law_letters) (len : ∀ vs H Q E, sp vs H Q E → vs.length = 2)
    (pure : ∀ vs H Q E, sp vs H Q E → t__law_name K s__law_letters { nx := fun _ H' => Q .non H', rt := Q } (L2.start ["_law_draws_here", "_law_at", "_law_letters_here", "_law_k"] vs) H) : Cl P w K mg base CX0 (k + 1) "_law_name" sp := by
  obtain ⟨fd, F⟩ := T.f__law_name
  refine ⟨_, fd, ["_law_draws_here", "_law_at"], T.g__law_name, F.kp, FunD.bindsN F fun _ _ _ _ _ _ us hl => match us, hl with | [_, _], _ => rfl, F.ok sc__law_name len fun cdv A outer s H vs Q E hr h => ⟨t__law_name K s__law_letters, PSs.nox ?_, pure vs H Q E h⟩⟩
  exact (pss_cons (ps_set (i := 2) sc__law_name.nd rfl (by first | exact Or.inl rfl | exact Or.inr rfl) (pe_cl0 G__law_letters hr (by rfl) pass0))
    (pss_one (ps_ret (pe_join pe_str (pe_lc (own := [("_law_k", 3)]) rfl sc__law_name.nd (pi_range1 (by rfl) T.b_range (pa_cons (pe_op op_addU pe_int (pe_op op_mod (pe_ix ix_seq (pv 0) (pe_op op_mod (pv 1) (pe_callB call_len (by rfl) T.b_len (by decide +kernel) (pa_cons (pv 0) pa_nil))) (fun _ _ => rfl)) pe_int)) pa_nil)) (blkOk_by (own := [("_law_k", 3)]) (N := ["_law_draws_here", "_law_at", "_law_letters_here", "_law_k"]) (sc := defScope s__law_name_) (by decide +kernel)) (fun _ _ _ _ _ => (pg_name (i := 3) sc__law_name.nd rfl (by first | exact Or.inl rfl | exact Or.inr rfl))) (fun _ _ _ _ _ => pts_nil) (fun _ _ _ _ _ => (pe_ix ix_seq (pv 2) (pe_op op_mod (pe_ix ix_seq (pv 0) (pe_op op_mod (pe_op op_addU (pe_op op_addU (pv 1) pe_int) (pv 3)) (pe_callB call_len (by rfl) T.b_len (by decide +kernel) (pa_cons (pv 0) pa_nil))) (fun _ _ => rfl)) pe_int) (fun _ _ => rfl))))))))

abbrev s__law_wild_path_ : Stmt := top 29
theorem sc__law_wild_path : FnScope ["_law_draws_here", "_law_at", "_law_names", "_law_path", "_law_signs_here", "_law_way", "_law_place", "_law_sign", "_law_k"] ["_law_draws_here", "_law_at"] (defScope s__law_wild_path_) := ⟨rfl, rfl, rfl, by decide +kernel, rfl, by decide +kernel, by decide +kernel⟩
theorem ok__law_wild_path {s__law_signs : Sp} {s__law_name : Sp} {sp : Sp} {k : Nat} (T : Tx K mg) (G__law_signs : Cl P w K mg base CX0 k "_law_signs" s__law_signs) (G__law_name : Cl P w K mg base CX0 k "_law_name" s__law_name) (len : ∀ vs H Q E, sp vs H Q E → vs.length = 2)
    (pure : ∀ vs H Q E, sp vs H Q E → t__law_wild_path K s__law_signs s__law_name { nx := fun _ H' => Q .non H', rt := Q } (L2.start ["_law_draws_here", "_law_at", "_law_names", "_law_path", "_law_signs_here", "_law_way", "_law_place", "_law_sign", "_law_k"] vs) H) : Cl P w K mg base CX0 (k + 1) "_law_wild_path" sp := by
  obtain ⟨fd, F⟩ := T.f__law_wild_path
  refine ⟨_, fd, ["_law_draws_here", "_law_at"], T.g__law_wild_path, F.kp, FunD.bindsN F fun _ _ _ _ _ _ us hl => match us, hl with | [_, _], _ => rfl, F.ok sc__law_wild_path len fun cdv A outer s H vs Q E hr h => ⟨t__law_wild_path K s__law_signs s__law_name, PSs.nox ?_, pure vs H Q E h⟩⟩
  exact (pss_cons (ps_setLc (i := 2) (own := [("_law_k", 8)]) rfl sc__law_wild_path.nd rfl rfl (sw_true rfl rfl rfl (by decide +kernel)) (pi_range1 (by rfl) T.b_range (pa_cons (pe_op op_mod (pe_ix ix_seq (pv 0) (pe_op op_mod (pv 1) (pe_callB call_len (by rfl) T.b_len (by decide +kernel) (pa_cons (pv 0) pa_nil))) (fun _ _ => rfl)) pe_int) pa_nil)) (blkOk_by (own := [("_law_k", 8)]) (N := ["_law_draws_here", "_law_at", "_law_names", "_law_path", "_law_signs_here", "_law_way", "_law_place", "_law_sign", "_law_k"]) (sc := defScope s__law_wild_path_) (by decide +kernel)) (fun _ _ _ _ _ => (pg_name (i := 8) sc__law_wild_path.nd rfl (by first | exact Or.inl rfl | exact Or.inr rfl))) (fun _ _ _ _ _ => pts_nil) (fun _ _ _ _ _ => (pe_cl G__law_name hr (by rfl) pass0 (pa_cons (pv 0) (pa_cons (pe_op op_addU (pe_op op_addU (pv 1) pe_int) (pe_op op_mulU pe_int (pv 8))) pa_nil)))))
    (pss_cons (ps_set (i := 3) sc__law_wild_path.nd rfl (by first | exact Or.inl rfl | exact Or.inr rfl) (pe_join pe_str (pv 2)))
    (pss_cons (ps_set (i := 4) sc__law_wild_path.nd rfl (by first | exact Or.inl rfl | exact Or.inr rfl) (pe_cl0 G__law_signs hr (by rfl) pass0))
    (pss_cons (ps_set (i := 5) sc__law_wild_path.nd rfl (by first | exact Or.inl rfl | exact Or.inr rfl) (pe_op op_mod (pe_ix ix_seq (pv 0) (pe_op op_mod (pe_op op_addU (pv 1) pe_int) (pe_callB call_len (by rfl) T.b_len (by decide +kernel) (pa_cons (pv 0) pa_nil))) (fun _ _ => rfl)) pe_int))
    (pss_cons (ps_set (i := 6) sc__law_wild_path.nd rfl (by first | exact Or.inl rfl | exact Or.inr rfl) (pe_op op_mod (pe_ix ix_seq (pv 0) (pe_op op_mod (pe_op op_addU (pv 1) pe_int) (pe_callB call_len (by rfl) T.b_len (by decide +kernel) (pa_cons (pv 0) pa_nil))) (fun _ _ => rfl)) (pe_op op_addU (pe_callB call_len (by rfl) T.b_len (by decide +kernel) (pa_cons (pv 3) pa_nil)) pe_int)))
    (pss_cons (ps_set (i := 7) sc__law_wild_path.nd rfl (by first | exact Or.inl rfl | exact Or.inr rfl) (pe_ix ix_seq (pv 4) (pe_op op_mod (pe_ix ix_seq (pv 0) (pe_op op_mod (pe_op op_addU (pv 1) pe_int) (pe_callB call_len (by rfl) T.b_len (by decide +kernel) (pa_cons (pv 0) pa_nil))) (fun _ _ => rfl)) (pe_callB call_len (by rfl) T.b_len (by decide +kernel) (pa_cons (pv 4) pa_nil))) (fun _ _ => rfl)))
    (pss_cons (ps_if (pt_cmpR (op_eqU hr.units) (pv 5) pe_int (nomark _)) (pss_one (ps_ret (pe_op op_addU (pe_op op_addU (pe_slice sl_U (pv 3) po_none (po_some (pv 6))) (pv 7)) (pe_slice sl_U (pv 3) (po_some (pv 6)) po_none)))) pss_nil)
    (pss_cons (ps_if (pt_cmpR (op_eqU hr.units) (pv 5) pe_int (nomark _)) (pss_one (ps_ret (pe_op op_addU (pe_op op_addU (pe_slice sl_U (pv 3) po_none (po_some (pv 6))) (pv 7)) (pe_slice sl_U (pv 3) (po_some (pe_op op_addU (pv 6) pe_int)) po_none)))) pss_nil)
    (pss_cons (ps_if (pt_cmpR (op_eqU hr.units) (pv 5) pe_int (nomark _)) (pss_one (ps_ret (pe_op op_addU (pe_op op_addU (pe_slice sl_U (pv 3) po_none (po_some (pv 6))) pe_str) (pe_slice sl_U (pv 3) (po_some (pv 6)) po_none)))) pss_nil)
    (pss_cons (ps_if (pt_cmpR (op_eqU hr.units) (pv 5) pe_int (nomark _)) (pss_one (ps_ret (pe_op op_addU (pe_slice sl_U (pv 3) po_none (po_some (pv 6))) (pe_slice sl_U (pv 3) (po_some (pe_op op_addU (pv 6) pe_int)) po_none)))) pss_nil)
    (pss_one (ps_ret (pv 3)))))))))))))

abbrev s__law_is_name_due_ : Stmt := top 30
theorem sc__law_is_name_due : FnScope ["_law_name_here", "_law_sign"] ["_law_name_here"] (defScope s__law_is_name_due_) := ⟨rfl, rfl, rfl, by decide +kernel, rfl, by decide +kernel, by decide +kernel⟩
theorem ok__law_is_name_due {s__law_letters : Sp} {sp : Sp} {k : Nat} (T : Tx K mg) (G__law_letters : Cl P w K mg base CX0 k "_law_letters" s__law_letters) (len : ∀ vs H Q E, sp vs H Q E → vs.length = 1)
    (pure : ∀ vs H Q E, sp vs H Q E → t__law_is_name_due K s__law_letters { nx := fun _ H' => Q .non H', rt := Q } (L2.start ["_law_name_here", "_law_sign"] vs) H) : Cl P w K mg base CX0 (k + 1) "_law_is_name_due" sp := by
  obtain ⟨fd, F⟩ := T.f__law_is_name_due
  refine ⟨_, fd, ["_law_name_here"], T.g__law_is_name_due, F.kp, FunD.bindsN F fun _ _ _ _ _ _ us hl => match us, hl with | [_], _ => rfl, F.ok sc__law_is_name_due len fun cdv A outer s H vs Q E hr h => ⟨t__law_is_name_due K s__law_letters, PSs.nox ?_, pure vs H Q E h⟩⟩
  exact (pss_cons (ps_if (PW.pt (pw_or (pt_cmpR (op_ltU hr.units0) (pe_callB call_len (by rfl) T.b_len (by decide +kernel) (pa_cons (pv 0) pa_nil)) pe_int (nomark _)) (pw_or1 (pt_cmpR op_gt (pe_callB call_len (by rfl) T.b_len (by decide +kernel) (pa_cons (pv 0) pa_nil)) pe_int (nomark _))))) (pss_one (ps_ret pe_bl)) pss_nil)
    (pss_one (ps_ret (pe_cmpR (op_eqU hr.units) (pe_callB call_len (by rfl) T.b_len (by decide +kernel) (pa_cons (pe_lc (own := [("_law_sign", 1)]) rfl sc__law_is_name_due.nd (pi_str (pv 0)) (blkOk_by (own := [("_law_sign", 1)]) (N := ["_law_name_here", "_law_sign"]) (sc := defScope s__law_is_name_due_) (by decide +kernel)) (fun _ _ _ _ _ => (pg_name (i := 1) sc__law_is_name_due.nd rfl (by first | exact Or.inl rfl | exact Or.inr rfl))) (fun _ _ _ _ _ => (pts_one (pt_cmpR op_ninU (pv 1) (pe_cl0 G__law_letters hr (by rfl) pass0) (by rfl)))) (fun _ _ _ _ _ => (pv 1))) pa_nil)) pe_int (nomark _)))))

abbrev s__law_is_path_due_ : Stmt := top 31
theorem sc__law_is_path_due : FnScope ["_law_path", "_law_names", "_law_name_here"] ["_law_path"] (defScope s__law_is_path_due_) := ⟨rfl, rfl, rfl, by decide +kernel, rfl, by decide +kernel, by decide +kernel⟩
theorem ok__law_is_path_due {s__law_is_name_due : Sp} {sp : Sp} {k : Nat} (T : Tx K mg) (G__law_is_name_due : Cl P w K mg base CX0 k "_law_is_name_due" s__law_is_name_due) (len : ∀ vs H Q E, sp vs H Q E → vs.length = 1)
    (pure : ∀ vs H Q E, sp vs H Q E → t__law_is_path_due K s__law_is_name_due { nx := fun _ H' => Q .non H', rt := Q } (L2.start ["_law_path", "_law_names", "_law_name_here"] vs) H) : Cl P w K mg base CX0 (k + 1) "_law_is_path_due" sp := by
  obtain ⟨fd, F⟩ := T.f__law_is_path_due
  refine ⟨_, fd, ["_law_path"], T.g__law_is_path_due, F.kp, FunD.bindsN F fun _ _ _ _ _ _ us hl => match us, hl with | [_], _ => rfl, F.ok sc__law_is_path_due len fun cdv A outer s H vs Q E hr h => ⟨t__law_is_path_due K s__law_is_name_due, PSs.nox ?_, pure vs H Q E h⟩⟩
  exact (pss_cons (ps_if (pt_cmpR (op_eqU hr.units) (pv 0) pe_str (nomark _)) (pss_one (ps_ret pe_bl)) pss_nil)
    (pss_cons (ps_set (i := 1) sc__law_is_path_due.nd rfl (by first | exact Or.inl rfl | exact Or.inr rfl) (pe_split (pv 0) pe_str))
    (pss_one (ps_ret (pe_and (pe_cmpR op_le (pe_callB call_len (by rfl) T.b_len (by decide +kernel) (pa_cons (pv 1) pa_nil)) pe_int (nomark _)) (pe_one (pe_cmpR (op_eqU hr.units) (pe_callB call_len (by rfl) T.b_len (by decide +kernel) (pa_cons (pe_lc (own := [("_law_name_here", 2)]) rfl sc__law_is_path_due.nd (pi_list (pv 1)) (blkOk_by (own := [("_law_name_here", 2)]) (N := ["_law_path", "_law_names", "_law_name_here"]) (sc := defScope s__law_is_path_due_) (by decide +kernel)) (fun _ _ _ _ _ => (pg_name (i := 2) sc__law_is_path_due.nd rfl (by first | exact Or.inl rfl | exact Or.inr rfl))) (fun _ _ _ _ _ => (pts_one (pt_not (pt_val (pe_cl G__law_is_name_due hr (by rfl) pass0 (pa_cons (pv 2) pa_nil)))))) (fun _ _ _ _ _ => (pv 2))) pa_nil)) pe_int (nomark _))))))))

abbrev s__law_expression_ : Stmt := top 32
theorem sc__law_expression : FnScope ["_law_draws_here", "_law_at", "_law_deep", "_law_dimensions", "_law_draw", "_law_way", "_law_parts_here", "_law_k"] ["_law_draws_here", "_law_at", "_law_deep", "_law_dimensions"] (defScope s__law_expression_) := ⟨rfl, rfl, rfl, by decide +kernel, rfl, by decide +kernel, by decide +kernel⟩
theorem ok__law_expression {s__law_expression : Sp} {sp : Sp} {k : Nat} (T : Tx K mg) (G__law_expression : Cl P w K mg base CX0 k "_law_expression" s__law_expression) (len : ∀ vs H Q E, sp vs H Q E → vs.length = 4)
    (pure : ∀ vs H Q E, sp vs H Q E → t__law_expression K s__law_expression { nx := fun _ H' => Q .non H', rt := Q } (L2.start ["_law_draws_here", "_law_at", "_law_deep", "_law_dimensions", "_law_draw", "_law_way", "_law_parts_here", "_law_k"] vs) H) : Cl P w K mg base CX0 (k + 1) "_law_expression" sp := by
  obtain ⟨fd, F⟩ := T.f__law_expression
  refine ⟨_, fd, ["_law_draws_here", "_law_at", "_law_deep", "_law_dimensions"], T.g__law_expression, F.kp, FunD.bindsN F fun _ _ _ _ _ _ us hl => match us, hl with | [_, _, _, _], _ => rfl, F.ok sc__law_expression len fun cdv A outer s H vs Q E hr h => ⟨t__law_expression K s__law_expression, PSs.nox ?_, pure vs H Q E h⟩⟩
  exact (pss_cons (ps_set (i := 4) sc__law_expression.nd rfl (by first | exact Or.inl rfl | exact Or.inr rfl) (pe_op op_addU (pe_ix ix_seq (pv 0) (pe_op op_mod (pv 1) (pe_callB call_len (by rfl) T.b_len (by decide +kernel) (pa_cons (pv 0) pa_nil))) (fun _ _ => rfl)) (pe_op op_mulU pe_int (pv 1))))
    (pss_cons (ps_if (PW.pt (pw_or (pt_cmpR (op_eqU hr.units) (pv 2) pe_int (nomark _)) (pw_or1 (pt_cmpR (op_eqU hr.units) (pe_op op_mod (pv 4) pe_int) pe_int (nomark _))))) (pss_cons (ps_if (pt_cmpR (op_eqU hr.units) (pe_op op_mod (pe_op op_fdiv (pv 4) pe_int) pe_int) pe_int (nomark _)) (pss_one (ps_ret (pe_tup (pa_cons pe_str (pa_cons (pe_ix ix_seq (pe_lst (pa_cons (pe_op op_sub (pe_op op_mod (pe_op op_fdiv (pv 4) pe_int) pe_int) pe_int) (pa_cons (pe_op op_sub (pe_op op_pow pe_int pe_int) (pv 4)) (pa_cons (pe_op op_addU (pe_un un_neg (pe_op op_pow pe_int pe_int)) (pv 4)) pa_nil)))) (pe_op op_mod (pe_op op_fdiv (pv 4) pe_int) pe_int) (fun _ _ => rfl)) pa_nil))))) pss_nil)
    (pss_one (ps_ret (pe_tup (pa_cons pe_str (pa_cons (pe_ix ix_seq (pe_lst (pa_cons pe_str (pa_cons pe_str (pa_cons pe_str pa_nil)))) (pe_op op_mod (pe_op op_fdiv (pv 4) pe_int) pe_int) (fun _ _ => rfl)) pa_nil)))))) pss_nil)
    (pss_cons (ps_set (i := 5) sc__law_expression.nd rfl (by first | exact Or.inl rfl | exact Or.inr rfl) (pe_op op_mod (pe_op op_fdiv (pv 4) pe_int) pe_int))
    (pss_cons (ps_setLc (i := 6) (own := [("_law_k", 7)]) rfl sc__law_expression.nd rfl rfl (sw_true rfl rfl rfl (by decide +kernel)) (pi_range1 (by rfl) T.b_range (pa_cons pe_int pa_nil)) (blkOk_by (own := [("_law_k", 7)]) (N := ["_law_draws_here", "_law_at", "_law_deep", "_law_dimensions", "_law_draw", "_law_way", "_law_parts_here", "_law_k"]) (sc := defScope s__law_expression_) (by decide +kernel)) (fun _ _ _ _ _ => (pg_name (i := 7) sc__law_expression.nd rfl (by first | exact Or.inl rfl | exact Or.inr rfl))) (fun _ _ _ _ _ => pts_nil) (fun _ _ _ _ _ => (pe_cl G__law_expression hr (by rfl) pass0 (pa_cons (pv 0) (pa_cons (pe_op op_addU (pe_op op_addU (pe_op op_mulU pe_int (pv 1)) pe_int) (pv 7)) (pa_cons (pe_op op_sub (pv 2) pe_int) (pa_cons (pv 3) pa_nil)))))))
    (pss_cons (ps_if (pt_cmpR (op_eqU hr.units) (pv 5) pe_int (nomark _)) (pss_one (ps_ret (pe_tup (pa_cons pe_str (pa_cons (pe_ix ix_seq (pv 6) pe_int (fun _ _ => rfl)) (pa_cons (pe_ix ix_seq (pv 6) pe_int (fun _ _ => rfl)) (pa_cons (pe_ix ix_seq (pv 6) pe_int (fun _ _ => rfl)) pa_nil))))))) pss_nil)
    (pss_cons (ps_if (pt_cmpR (op_eqU hr.units) (pv 5) pe_int (nomark _)) (pss_one (ps_ret (pe_tup (pa_cons pe_str (pa_cons (pe_ix ix_seq (pv 6) pe_int (fun _ _ => rfl)) (pa_cons (pe_callTy call_tuple_of (by rfl) T.b_tuple (by decide +kernel) (pa_cons (pe_lc (own := [("_law_k", 7)]) rfl sc__law_expression.nd (pi_range1 (by rfl) T.b_range (pa_cons (pv 3) pa_nil)) (blkOk_by (own := [("_law_k", 7)]) (N := ["_law_draws_here", "_law_at", "_law_deep", "_law_dimensions", "_law_draw", "_law_way", "_law_parts_here", "_law_k"]) (sc := defScope s__law_expression_) (by decide +kernel)) (fun _ _ _ _ _ => (pg_name (i := 7) sc__law_expression.nd rfl (by first | exact Or.inl rfl | exact Or.inr rfl))) (fun _ _ _ _ _ => pts_nil) (fun _ _ _ _ _ => (pe_op op_sub (pe_op op_mod (pe_ix ix_seq (pv 0) (pe_op op_mod (pe_op op_addU (pe_op op_addU (pv 1) pe_int) (pv 7)) (pe_callB call_len (by rfl) T.b_len (by decide +kernel) (pa_cons (pv 0) pa_nil))) (fun _ _ => rfl)) pe_int) pe_int))) pa_nil)) pa_nil)))))) pss_nil)
    (pss_one (ps_ret (pe_tup (pa_cons (pe_ix ix_seq (pe_lst (pa_cons pe_str (pa_cons pe_str (pa_cons pe_str (pa_cons pe_str (pa_cons pe_str (pa_cons pe_str (pa_cons pe_str pa_nil)))))))) (pv 5) (fun _ _ => rfl)) (pa_cons (pe_ix ix_seq (pv 6) pe_int (fun _ _ => rfl)) (pa_cons (pe_ix ix_seq (pv 6) pe_int (fun _ _ => rfl)) pa_nil))))))))))))

abbrev s__law_parts_ : Stmt := top 33
theorem sc__law_parts : FnScope ["_law_expression_here"] ["_law_expression_here"] (defScope s__law_parts_) := ⟨rfl, rfl, rfl, by decide +kernel, rfl, by decide +kernel, by decide +kernel⟩
theorem ok__law_parts {sp : Sp} {k : Nat} (T : Tx K mg) (len : ∀ vs H Q E, sp vs H Q E → vs.length = 1)
    (pure : ∀ vs H Q E, sp vs H Q E → t__law_parts K { nx := fun _ H' => Q .non H', rt := Q } (L2.start ["_law_expression_here"] vs) H) : Cl P w K mg base CX0 (k + 1) "_law_parts" sp := by
  obtain ⟨fd, F⟩ := T.f__law_parts
  refine ⟨_, fd, ["_law_expression_here"], T.g__law_parts, F.kp, FunD.bindsN F fun _ _ _ _ _ _ us hl => match us, hl with | [_], _ => rfl, F.ok sc__law_parts len fun cdv A outer s H vs Q E hr h => ⟨t__law_parts K, PSs.nox ?_, pure vs H Q E h⟩⟩
  exact (pss_cons (ps_if (pt_cmpR op_inU (pe_ix ix_seq (pv 0) pe_int (fun _ _ => rfl)) (pe_tup (pa_cons pe_str (pa_cons pe_str pa_nil))) (by rfl)) (pss_one (ps_ret (pe_lst pa_nil))) pss_nil)
    (pss_cons (ps_if (pt_cmpR (op_eqU hr.units) (pe_ix ix_seq (pv 0) pe_int (fun _ _ => rfl)) pe_str (nomark _)) (pss_one (ps_ret (pe_lst (pa_cons (pe_ix ix_seq (pv 0) pe_int (fun _ _ => rfl)) pa_nil)))) pss_nil)
    (pss_one (ps_ret (pe_callTy call_list_of (by rfl) T.b_list (by decide +kernel) (pa_cons (pe_slice sl_U (pv 0) (po_some pe_int) po_none) pa_nil))))))

abbrev s__law_depth_ : Stmt := top 34
theorem sc__law_depth : FnScope ["_law_expression_here", "_law_part"] ["_law_expression_here"] (defScope s__law_depth_) := ⟨rfl, rfl, rfl, by decide +kernel, rfl, by decide +kernel, by decide +kernel⟩
theorem ok__law_depth {s__law_parts : Sp} {s__law_depth : Sp} {sp : Sp} {k : Nat} (T : Tx K mg) (G__law_parts : Cl P w K mg base CX0 k "_law_parts" s__law_parts) (G__law_depth : Cl P w K mg base CX0 k "_law_depth" s__law_depth) (len : ∀ vs H Q E, sp vs H Q E → vs.length = 1)
    (pure : ∀ vs H Q E, sp vs H Q E → t__law_depth K s__law_parts s__law_depth { nx := fun _ H' => Q .non H', rt := Q } (L2.start ["_law_expression_here", "_law_part"] vs) H) : Cl P w K mg base CX0 (k + 1) "_law_depth" sp := by
  obtain ⟨fd, F⟩ := T.f__law_depth
  refine ⟨_, fd, ["_law_expression_here"], T.g__law_depth, F.kp, FunD.bindsN F fun _ _ _ _ _ _ us hl => match us, hl with | [_], _ => rfl, F.ok sc__law_depth len fun cdv A outer s H vs Q E hr h => ⟨t__law_depth K s__law_parts s__law_depth, PSs.nox ?_, pure vs H Q E h⟩⟩
  exact (pss_one (ps_ret (pe_op op_addU pe_int (pe_callB (cr_max rfl) (by rfl) T.b_max (by decide +kernel) (pa_cons (pe_op op_addU (pe_lc (own := [("_law_part", 1)]) rfl sc__law_depth.nd (pi_list (pe_cl G__law_parts hr (by rfl) pass0 (pa_cons (pv 0) pa_nil))) (blkOk_by (own := [("_law_part", 1)]) (N := ["_law_expression_here", "_law_part"]) (sc := defScope s__law_depth_) (by decide +kernel)) (fun _ _ _ _ _ => (pg_name (i := 1) sc__law_depth.nd rfl (by first | exact Or.inl rfl | exact Or.inr rfl))) (fun _ _ _ _ _ => pts_nil) (fun _ _ _ _ _ => (pe_cl G__law_depth hr (by rfl) pass0 (pa_cons (pv 1) pa_nil)))) (pe_lst (pa_cons pe_int pa_nil))) pa_nil)))))

abbrev s__law_paths_ : Stmt := top 35
theorem sc__law_paths : FnScope ["_law_expression_here", "_law_found", "_law_part"] ["_law_expression_here"] (defScope s__law_paths_) := ⟨rfl, rfl, rfl, by decide +kernel, rfl, by decide +kernel, by decide +kernel⟩
theorem ok__law_paths {s__law_distinct : Sp} {s__law_parts : Sp} {s__law_paths : Sp} {sp : Sp} {k : Nat} (T : Tx K mg) (G__law_distinct : Cl P w K mg base CX0 k "_law_distinct" s__law_distinct) (G__law_parts : Cl P w K mg base CX0 k "_law_parts" s__law_parts) (G__law_paths : Cl P w K mg base CX0 k "_law_paths" s__law_paths) (len : ∀ vs H Q E, sp vs H Q E → vs.length = 1)
    (pure : ∀ vs H Q E, sp vs H Q E → t__law_paths K s__law_distinct s__law_parts s__law_paths { nx := fun _ H' => Q .non H', rt := Q } (L2.start ["_law_expression_here", "_law_found", "_law_part"] vs) H) : Cl P w K mg base CX0 (k + 1) "_law_paths" sp := by
  obtain ⟨fd, F⟩ := T.f__law_paths
  refine ⟨_, fd, ["_law_expression_here"], T.g__law_paths, F.kp, FunD.bindsN F fun _ _ _ _ _ _ us hl => match us, hl with | [_], _ => rfl, F.ok sc__law_paths len fun cdv A outer s H vs Q E hr h => ⟨t__law_paths K s__law_distinct s__law_parts s__law_paths, PSs.nox ?_, pure vs H Q E h⟩⟩
  exact (pss_cons (ps_if (pt_cmpR (op_eqU hr.units) (pe_ix ix_seq (pv 0) pe_int (fun _ _ => rfl)) pe_str (nomark _)) (pss_one (ps_ret (pe_lst (pa_cons (pe_ix ix_seq (pv 0) pe_int (fun _ _ => rfl)) pa_nil)))) pss_nil)
    (pss_cons (ps_set (i := 1) sc__law_paths.nd rfl (by first | exact Or.inl rfl | exact Or.inr rfl) (pe_lst pa_nil))
    (pss_cons (ps_for PassesOwn.never rfl (pi_list (pe_cl G__law_parts hr (by rfl) pass0 (pa_cons (pv 0) pa_nil))) (pg_name (i := 2) sc__law_paths.nd rfl (by first | exact Or.inl rfl | exact Or.inr rfl)) (pss_one (ps_set (i := 1) sc__law_paths.nd rfl (by first | exact Or.inl rfl | exact Or.inr rfl) (pe_op op_addU (pv 1) (pe_cl G__law_paths hr (by rfl) pass0 (pa_cons (pv 2) pa_nil))))))
    (pss_one (ps_ret (pe_cl G__law_distinct hr (by rfl) pass0 (pa_cons (pv 1) pa_nil)))))))

abbrev s__law_distinct_ : Stmt := top 36
theorem sc__law_distinct : FnScope ["_law_rows", "_law_found", "_law_row"] ["_law_rows"] (defScope s__law_distinct_) := ⟨rfl, rfl, rfl, by decide +kernel, rfl, by decide +kernel, by decide +kernel⟩
theorem ok__law_distinct {sp : Sp} {k : Nat} (T : Tx K mg) (len : ∀ vs H Q E, sp vs H Q E → vs.length = 1)
    (pure : ∀ vs H Q E, sp vs H Q E → t__law_distinct K { nx := fun _ H' => Q .non H', rt := Q } (L2.start ["_law_rows", "_law_found", "_law_row"] vs) H) : Cl P w K mg base CX0 (k + 1) "_law_distinct" sp := by
  obtain ⟨fd, F⟩ := T.f__law_distinct
  refine ⟨_, fd, ["_law_rows"], T.g__law_distinct, F.kp, FunD.bindsN F fun _ _ _ _ _ _ us hl => match us, hl with | [_], _ => rfl, F.ok sc__law_distinct len fun cdv A outer s H vs Q E hr h => ⟨t__law_distinct K, PSs.nox ?_, pure vs H Q E h⟩⟩
  exact (pss_cons (ps_set (i := 1) sc__law_distinct.nd rfl (by first | exact Or.inl rfl | exact Or.inr rfl) (pe_lst pa_nil))
    (pss_cons (ps_for PassesOwn.never rfl (pi_list (pe_callB cr_sortedS (by rfl) T.b_sorted (by decide +kernel) (pa_cons (pv 0) pa_nil))) (pg_name (i := 2) sc__law_distinct.nd rfl (by first | exact Or.inl rfl | exact Or.inr rfl)) (pss_one (ps_if (PW.pt (pw_or (pt_cmpR (op_eqU hr.units) (pv 1) (pe_lst pa_nil) (nomark _)) (pw_or1 (pt_cmpR (op_neU hr.units) (pe_ix ix_seq (pv 1) (pe_un un_neg pe_int) (fun _ _ => rfl)) (pv 2) (nomark _))))) (pss_one (ps_expr (pe_bm PySem.F.plainAttrs_list PySem.F.slot_list_append PySem.F.type_list_append mt_append (pv 1) (pa_cons (pv 2) pa_nil)))) pss_nil)))
    (pss_one (ps_ret (pv 1)))))

abbrev s_law_ : Stmt := top 37
theorem sc_law : FnScope ["_law_script", "_law_draws_here", "_law_expression_here", "_law_wrong", "_law_path", "_law_bad", "_law_goal", "_law_k", "_law_deep", "_law_told"] ["_law_script"] (defScope s_law_) := ⟨rfl, rfl, rfl, by decide +kernel, rfl, by decide +kernel, by decide +kernel⟩
theorem ok_law {s__law_is_texts : Sp} {s__law_paths : Sp} {s_paths_of : Sp} {s__law_is_bool : Sp} {s_is_expression : Sp} {s__law_is_number : Sp} {s_depth : Sp} {s__law_depth : Sp} {s__law_is_path_due : Sp} {s__law_wild_path : Sp} {s__law_expression : Sp} {s__law_stream : Sp} {sp : Sp} {k : Nat} {fd : FuncData} (T : Tx K mg) (F : FunD K "law" "law" (defArgs (top 37)) (defBody (top 37)) (defScope (top 37)) [] [] (He.ga K "law") fd) (G__law_is_texts : Cl P w K mg base CX0 k "_law_is_texts" s__law_is_texts) (G__law_paths : Cl P w K mg base CX0 k "_law_paths" s__law_paths) (G_paths_of : Cl P w K mg base CX0 k "paths_of" s_paths_of) (G__law_is_bool : Cl P w K mg base CX0 k "_law_is_bool" s__law_is_bool) (G_is_expression : Cl P w K mg base CX0 k "is_expression" s_is_expression) (G__law_is_number : Cl P w K mg base CX0 k "_law_is_number" s__law_is_number) (G_depth : Cl P w K mg base CX0 k "depth" s_depth) (G__law_depth : Cl P w K mg base CX0 k "_law_depth" s__law_depth) (G__law_is_path_due : Cl P w K mg base CX0 k "_law_is_path_due" s__law_is_path_due) (G__law_wild_path : Cl P w K mg base CX0 k "_law_wild_path" s__law_wild_path) (G__law_expression : Cl P w K mg base CX0 k "_law_expression" s__law_expression) (G__law_stream : Cl P w K mg base CX0 k "_law_stream" s__law_stream) (len : ∀ vs H Q E, sp vs H Q E → vs.length = 1)
    (pure : ∀ vs H Q E, sp vs H Q E → t_law K s__law_is_texts s__law_paths s_paths_of s__law_is_bool s_is_expression s__law_is_number s_depth s__law_depth s__law_is_path_due s__law_wild_path s__law_expression s__law_stream { nx := fun _ H' => Q .non H', rt := Q } (L2.start ["_law_script", "_law_draws_here", "_law_expression_here", "_law_wrong", "_law_path", "_law_bad", "_law_goal", "_law_k", "_law_deep", "_law_told"] vs) H) : FnOk P w K mg base CX0 (k + 1) (He.ga K "law") fd ["_law_script"] sp := by
  refine F.ok sc_law len fun cdv A outer s H vs Q E hr h => ⟨t_law K s__law_is_texts s__law_paths s_paths_of s__law_is_bool s_is_expression s__law_is_number s_depth s__law_depth s__law_is_path_due s__law_wild_path s__law_expression s__law_stream, PSs.nox ?_, pure vs H Q E h⟩
  exact (pss_cons (ps_set (i := 1) sc_law.nd rfl (by first | exact Or.inl rfl | exact Or.inr rfl) (pe_cl G__law_stream hr (by rfl) pass0 (pa_cons (pv 0) (pa_cons pe_int pa_nil))))
    (pss_cons (ps_set (i := 2) sc_law.nd rfl (by first | exact Or.inl rfl | exact Or.inr rfl) (pe_cl G__law_expression hr (by rfl) pass0 (pa_cons (pv 1) (pa_cons pe_int (pa_cons (pe_op op_mod (pe_ix ix_seq (pv 1) pe_int (fun _ _ => rfl)) pe_int) (pa_cons pe_int pa_nil))))))
    (pss_cons (ps_set (i := 3) sc_law.nd rfl (by first | exact Or.inl rfl | exact Or.inr rfl) (pe_cmpR (op_eqU hr.units) (pe_op op_mod (pe_ix ix_seq (pv 1) pe_int (fun _ _ => rfl)) pe_int) pe_int (nomark _)))
    (pss_cons (ps_if (pt_val (pv 3)) (pss_cons (ps_set (i := 4) sc_law.nd rfl (by first | exact Or.inl rfl | exact Or.inr rfl) (pe_cl G__law_wild_path hr (by rfl) pass0 (pa_cons (pv 1) (pa_cons pe_int pa_nil))))
    (pss_cons (ps_set (i := 5) sc_law.nd rfl (by first | exact Or.inl rfl | exact Or.inr rfl) (pe_ix ix_seq (pe_lst (pa_cons (pe_tup (pa_cons pe_str (pa_cons (pv 4) pa_nil))) (pa_cons (pe_tup (pa_cons pe_str (pa_cons (pe_op op_pow pe_int pe_int) pa_nil))) (pa_cons (pe_tup (pa_cons pe_str (pa_cons (pe_op op_sub (pe_un un_neg (pe_op op_pow pe_int pe_int)) (pe_ix ix_seq (pv 1) pe_int (fun _ _ => rfl))) pa_nil))) (pa_cons (pe_tup (pa_cons pe_str (pa_cons (pv 2) (pa_cons (pv 2) pa_nil)))) (pa_cons (pe_tup (pa_cons pe_str (pa_cons (pv 2) (pa_cons (pv 2) pa_nil)))) (pa_cons (pe_tup (pa_cons pe_str (pa_cons (pv 2) (pa_cons (pe_tup (pa_cons pe_int (pa_cons (pe_op op_pow pe_int pe_int) pa_nil))) pa_nil)))) (pa_cons (pe_tup (pa_cons pe_str (pa_cons pe_str pa_nil))) (pa_cons (pe_tup (pa_cons pe_str (pa_cons (pe_op op_sub (pe_op op_pow pe_int pe_int) pe_int) pa_nil))) pa_nil))))))))) (pe_op op_mod (pe_ix ix_seq (pv 1) pe_int (fun _ _ => rfl)) pe_int) (fun _ _ => rfl)))
    (pss_cons (ps_set (i := 3) sc_law.nd rfl (by first | exact Or.inl rfl | exact Or.inr rfl) (pe_or (pe_cmpR op_ninU (pe_op op_mod (pe_ix ix_seq (pv 1) pe_int (fun _ _ => rfl)) pe_int) (pe_tup (pa_cons pe_int (pa_cons pe_int pa_nil))) (by rfl)) (pe_one (pe_and (pe_cmpR (op_eqU hr.units) (pe_op op_mod (pe_ix ix_seq (pv 1) pe_int (fun _ _ => rfl)) pe_int) pe_int (nomark _)) (pe_one (pe_not (pe_cl G__law_is_path_due hr (by rfl) pass0 (pa_cons (pv 4) pa_nil))))))))
    (pss_one (ps_set (i := 2) sc_law.nd rfl (by first | exact Or.inl rfl | exact Or.inr rfl) (pe_ix ix_seq (pe_lst (pa_cons (pv 5) (pa_cons (pe_tup (pa_cons pe_str (pa_cons (pv 5) (pa_cons (pv 2) pa_nil)))) (pa_cons (pe_tup (pa_cons pe_str (pa_cons (pv 2) (pa_cons (pv 2) (pa_cons (pv 5) pa_nil))))) (pa_cons (pe_tup (pa_cons pe_str (pa_cons (pv 5) (pa_cons (pe_tup (pa_cons pe_int pa_nil)) pa_nil)))) (pa_cons (pe_tup (pa_cons pe_str (pa_cons (pv 2) (pa_cons (pv 5) pa_nil)))) pa_nil)))))) (pe_op op_mod (pe_ix ix_seq (pv 1) pe_int (fun _ _ => rfl)) pe_int) (fun _ _ => rfl))))))) pss_nil)
    (pss_cons (ps_set (i := 6) sc_law.nd rfl (by first | exact Or.inl rfl | exact Or.inr rfl) (pe_ix ix_seq (pe_lst (pa_cons pe_int (pa_cons pe_int (pa_cons pe_int (pa_cons pe_int (pa_cons pe_int (pa_cons pe_int pa_nil))))))) (pe_op op_mod (pe_ix ix_seq (pv 1) pe_int (fun _ _ => rfl)) pe_int) (fun _ _ => rfl)))
    (pss_cons (ps_for PassesOwn.never rfl (pi_range1 (by rfl) T.b_range (pa_cons pe_int pa_nil)) (pg_name (i := 7) sc_law.nd rfl (by first | exact Or.inl rfl | exact Or.inr rfl)) (pss_one (ps_if (pt_cmpR (op_ltU hr.units0) (pe_cl G__law_depth hr (by rfl) pass0 (pa_cons (pv 2) pa_nil)) (pv 6) (nomark _)) (pss_one (ps_set (i := 2) sc_law.nd rfl (by first | exact Or.inl rfl | exact Or.inr rfl) (pe_ifExp (pt_cmpR (op_eqU hr.units) (pe_op op_mod (pe_ix ix_seq (pv 1) (pe_op op_addU pe_int (pe_op op_mod (pv 7) pe_int)) (fun _ _ => rfl)) pe_int) pe_int (nomark _)) (pe_tup (pa_cons pe_str (pa_cons (pv 2) (pa_cons (pe_tup (pa_cons pe_int (pa_cons (pe_un un_neg pe_int) pa_nil))) pa_nil)))) (pe_tup (pa_cons pe_str (pa_cons (pe_tup (pa_cons pe_str (pa_cons (pv 7) pa_nil))) (pa_cons (pv 2) pa_nil))))))) pss_nil)))
    (pss_cons (ps_set (i := 8) sc_law.nd rfl (by first | exact Or.inl rfl | exact Or.inr rfl) (pe_cl G__law_depth hr (by rfl) pass0 (pa_cons (pv 2) pa_nil)))
    (pss_cons (ps_if (pt_not (pt_val (pe_cl G__law_is_number hr (by rfl) pass0 (pa_cons (pe_cl G_depth hr (by rfl) pass0 (pa_cons (pv 2) pa_nil)) (pa_cons (pv 8) pa_nil))))) (pss_one (ps_ret pe_bl)) pss_nil)
    (pss_cons (ps_if (pt_not (pt_val (pe_cl G__law_is_bool hr (by rfl) pass0 (pa_cons (pe_cl G_is_expression hr (by rfl) pass0 (pa_cons (pv 2) pa_nil)) (pa_cons (pe_and (pe_not (pv 3)) (pe_one (pe_cmpR op_le (pv 8) pe_int (nomark _)))) pa_nil))))) (pss_one (ps_ret pe_bl)) pss_nil)
    (pss_cons (ps_set (i := 9) sc_law.nd rfl (by first | exact Or.inl rfl | exact Or.inr rfl) (pe_cl G_paths_of hr (by rfl) pass0 (pa_cons (pv 2) pa_nil)))
    (pss_one (ps_ret (pe_cl G__law_is_texts hr (by rfl) pass0 (pa_cons (pv 9) (pa_cons (pe_cl G__law_paths hr (by rfl) pass0 (pa_cons (pv 2) pa_nil)) (pa_cons pe_str pa_nil))))))))))))))))

end
end T94

set_option maxHeartbeats 1000000
/-! what the defs reckon, in plain Lean; their promises -/
namespace T94
open PySem PySem.Spec PyProof.Rows L2 T9 TL
def letters : Str := "abcdefghijklmnopqrstuvwxyz0123456789"
def slash : Str := "/"
def nameOk (z : Str) : Bool := (decide ((1 : Int) ≤ z.length) && decide ((z.length : Int) ≤ 12)) && z.cps.toList.all fun c => decide (c ∈ letters.cps.toList)
def pathOk (z : Str) : Bool := decide (z = "") || (decide (((Txt.split z slash).length : Int) ≤ 6) && (Txt.split z slash).all nameOk)
theorem spl_le (S : List Nat) : ∀ (x : List Nat) (k : Nat) (acc : List Nat), ∀ p ∈ spl S k acc x, p.length ≤ acc.length + x.length
  | [], k, acc, p, h => by
    rw [spl_nil] at h
    rw [List.mem_singleton.mp h]
    exact Nat.le_add_right _ _
  | c :: r, 0, acc, p, h => by
    have h' : p ∈ (if pre S (c :: r) = true then acc :: spl S (S.length - 1) [] r else spl S 0 (acc ++ [c]) r) := h
    by_cases hp : pre S (c :: r) = true
    · rw [if_pos hp] at h'
      rcases List.mem_cons.mp h' with e | e
      · rw [e]
        exact Nat.le_add_right _ _
      · have := spl_le S r _ [] p e
        rw [List.length_nil] at this
        rw [List.length_cons]
        omega
    · rw [if_neg hp] at h'
      have := spl_le S r 0 _ p h'
      rw [List.length_append, List.length_singleton] at this
      rw [List.length_cons]
      omega
  | c :: r, k + 1, acc, p, h => by
    have := spl_le S r k acc p h
    rw [List.length_cons]
    omega
theorem spl_few (S : List Nat) : ∀ (x : List Nat) (k : Nat) (acc : List Nat), (spl S k acc x).length ≤ x.length + 1
  | [], k, acc => by
    rw [spl_nil]
    simp
  | c :: r, 0, acc => by
    show (if pre S (c :: r) = true then acc :: spl S (S.length - 1) [] r else spl S 0 (acc ++ [c]) r).length ≤ _
    by_cases hp : pre S (c :: r) = true
    · rw [if_pos hp, List.length_cons, List.length_cons]
      exact Nat.succ_le_succ (spl_few S r _ [])
    · rw [if_neg hp, List.length_cons]
      exact Nat.le_succ_of_le (spl_few S r _ _)
  | c :: r, k + 1, acc => by
    rw [List.length_cons]
    exact Nat.le_succ_of_le (spl_few S r k acc)
theorem split_tl (z : Str) : (Txt.split z slash).map tl = spl (tl slash) 0 [] (tl z) := split_spl z slash (by decide +kernel) (kind_ok (by decide +kernel))
theorem split_le (z : Str) : ∀ p ∈ Txt.split z slash, p.length ≤ z.length := fun p hp => by
  have h : tl p ∈ spl (tl slash) 0 [] (tl z) := by
    rw [← split_tl]
    exact List.mem_map.mpr ⟨p, hp, rfl⟩
  have := spl_le _ _ _ _ _ h
  rw [len_tl, len_tl]
  simpa using this
theorem split_few (z : Str) : (Txt.split z slash).length ≤ z.length + 1 := by
  have h := spl_few (tl slash) (tl z) 0 []
  rw [← split_tl, List.length_map, ← len_tl] at h
  exact h
inductive Exp where
  | path (p : Str) | num (n : Int) | two (k : Str) (a b : Exp) | three (k : Str) (a b c : Exp) | shift (a : Exp) (o : List Int)
def enc : Exp → PyData
  | .path p => .tuple [.str "path", .str p]
  | .num n => .tuple [.str "number", .int n]
  | .two k a b => .tuple [.str k, enc a, enc b]
  | .three k a b c => .tuple [.str k, enc a, enc b, enc c]
  | .shift a o => .tuple [.str "shift", enc a, .tuple (o.map .int)]
theorem imm_enc : ∀ e, imm (enc e) = true
  | .path p => rfl
  | .num n => rfl
  | .two k a b => by
    show (true && (imm (enc a) && (imm (enc b) && true))) = true
    rw [imm_enc a, imm_enc b]
    rfl
  | .three k a b c => by
    show (true && (imm (enc a) && (imm (enc b) && (imm (enc c) && true)))) = true
    rw [imm_enc a, imm_enc b, imm_enc c]
    rfl
  | .shift a o => by
    show (true && (imm (enc a) && (immAll (o.map .int) && true))) = true
    rw [imm_enc a, immAll_ints]
    rfl
/-- the kinds that mean something else -/
def Free (k : Str) : Prop := k ≠ "path" ∧ k ≠ "number" ∧ k ≠ "shift"
structure OkS (S : List Str) : Prop where
  few : S.length ≤ 20
  ok : ∀ p ∈ S, p.length ≤ 1000 ∧ PyData.strOk p = true
def Good (S : List Str) : Exp → Prop
  | .path p => p ∈ S
  | .num _ => True
  | .two k a b => Free k ∧ Good S a ∧ Good S b
  | .three k a b c => Free k ∧ Good S a ∧ Good S b ∧ Good S c
  | .shift a o => Good S a ∧ o.length ≤ 1000
def parts : Exp → List Exp
  | .path _ => []
  | .num _ => []
  | .two _ a b => [a, b]
  | .three _ a b c => [a, b, c]
  | .shift a _ => [a]
def dep : Exp → Nat
  | .path _ => 1
  | .num _ => 1
  | .two _ a b => 1 + max (dep a) (dep b)
  | .three _ a b c => 1 + max (dep a) (max (dep b) (dep c))
  | .shift a _ => 1 + dep a
theorem dep_pos (e : Exp) : 1 ≤ dep e := by cases e <;> simp only [dep] <;> omega
theorem good_parts {S : List Str} {e p : Exp} (h : Good S e) (hp : p ∈ parts e) : Good S p := by
  cases e <;> simp only [parts, List.mem_cons, List.not_mem_nil, or_false] at hp <;> simp only [Good] at h
  · rcases hp with rfl | rfl
    · exact h.2.1
    · exact h.2.2
  · rcases hp with rfl | rfl | rfl
    · exact h.2.1
    · exact h.2.2.1
    · exact h.2.2.2
  · subst hp
    exact h.1
theorem dep_parts {e p : Exp} (hp : p ∈ parts e) : dep p + 1 ≤ dep e := by
  cases e <;> simp only [parts, List.mem_cons, List.not_mem_nil, or_false] at hp <;> simp only [dep]
  · rcases hp with rfl | rfl <;> omega
  · rcases hp with rfl | rfl | rfl <;> omega
  · subst hp
    omega
theorem parts_few (e : Exp) : (parts e).length ≤ 3 := by cases e <;> simp [parts]
/-! ### promises -/
def R_is_name (ds : List PyData) (r : Res) : Prop := ∃ z : Str, z.length ≤ 95000 ∧ ds = [.str z] ∧ r = .d (.bool (nameOk z))
def R_is_path (ds : List PyData) (r : Res) : Prop := ∃ z : Str, z.length ≤ 90000 ∧ ds = [.str z] ∧ r = .d (.bool (pathOk z))
def R_parts (ds : List PyData) (r : Res) : Prop := ∃ S e, Good S e ∧ ds = [enc e] ∧ r = .n (.lst ((parts e).map enc))
def R_depth (n : Nat) (ds : List PyData) (r : Res) : Prop := ∃ S e, Good S e ∧ dep e ≤ n ∧ ds = [enc e] ∧ r = .d (.int (dep e))
theorem r_is_name {z : Str} (h : z.length ≤ 95000) : R_is_name [.str z] (.d (.bool (nameOk z))) := ⟨z, h, rfl, rfl⟩
theorem r_is_path {z : Str} (h : z.length ≤ 90000) : R_is_path [.str z] (.d (.bool (pathOk z))) := ⟨z, h, rfl, rfl⟩
theorem r_parts {S : List Str} {e : Exp} (h : Good S e) : R_parts [enc e] (.n (.lst ((parts e).map enc))) := ⟨S, e, h, rfl, rfl⟩
theorem r_depth {S : List Str} {n : Nat} {e : Exp} (h : Good S e) (hn : dep e ≤ n) : R_depth n [enc e] (.d (.int (dep e))) := ⟨S, e, h, hn, rfl, rfl⟩
theorem ad_allM {K : PySem.W.Frag} {α : Type} {xs : List α} {p : α → Bool} : AD K (rAll K) [.list (xs.map fun x => .bool (p x))] (.bool (xs.all p)) := by
  have z := ad_all (K := K) (bs := xs.map p)
  rwa [List.map_map, List.all_map] at z
end T94

set_option maxHeartbeats 1000000
/-! sorted texts; the draws; the law's own expressions -/
namespace T94
open PySem PySem.Spec PyProof.Rows L2 T9 TL
/-! ### the order of texts -/
def ltS (a b : Str) : Bool := ltCps a.cps.toList b.cps.toList
theorem ltc_irr : ∀ a : List Nat, ltCps a a = false
  | [] => rfl
  | x :: r => by simp [ltCps, ltc_irr r]
theorem ltc_trans : ∀ a b c : List Nat, ltCps a b = true → ltCps b c = true → ltCps a c = true
  | _, _, [], _, h => by
    rename_i b _
    cases b <;> simp [ltCps] at h
  | _, [], _ :: _, h, _ => by
    rename_i a _ _ _
    cases a <;> simp [ltCps] at h
  | [], _ :: _, _ :: _, _, _ => rfl
  | x :: r, y :: s, z :: t, h, g => by
    simp only [ltCps, Bool.or_eq_true, Bool.and_eq_true, decide_eq_true_eq, beq_iff_eq] at h g ⊢
    rcases h with h | ⟨rfl, h⟩
    · rcases g with g | ⟨rfl, g⟩
      · exact Or.inl (Nat.lt_trans h g)
      · exact Or.inl h
    · rcases g with g | ⟨rfl, g⟩
      · exact Or.inl g
      · exact Or.inr ⟨rfl, ltc_trans _ _ _ h g⟩
theorem ltc_tri : ∀ a b : List Nat, ltCps a b = false → a ≠ b → ltCps b a = true
  | [], [], _, h => absurd rfl h
  | [], _ :: _, h, _ => by simp [ltCps] at h
  | _ :: _, [], _, _ => rfl
  | x :: r, y :: s, h, g => by
    simp only [ltCps, Bool.or_eq_false_iff, Bool.and_eq_false_iff, decide_eq_false_iff_not, beq_eq_false_iff_ne, Bool.or_eq_true, Bool.and_eq_true, decide_eq_true_eq, beq_iff_eq] at h ⊢
    by_cases e : x = y
    · subst e
      refine Or.inr ⟨rfl, ltc_tri r s (h.2.resolve_left fun z => z rfl) fun e => g (by rw [e])⟩
    · exact Or.inl (by omega)
theorem ltS_irr (a : Str) : ltS a a = false := ltc_irr _
theorem ltS_trans {a b c : Str} (h : ltS a b = true) (g : ltS b c = true) : ltS a c = true := ltc_trans _ _ _ h g
theorem str_ext {a b : Str} (h : a.cps.toList = b.cps.toList) : a = b := by
  cases a
  cases b
  simp only at h
  rw [Array.toList_inj.mp h]
theorem ltS_tri {a b : Str} (h : ltS a b = false) (g : a ≠ b) : ltS b a = true := ltc_tri _ _ h fun e => g (str_ext e)
abbrev Asc (ys : List Str) : Prop := ys.Pairwise fun a b => ltS a b = true
theorem asc_unique : ∀ ys zs : List Str, Asc ys → Asc zs → (∀ x, x ∈ ys ↔ x ∈ zs) → ys = zs
  | [], [], _, _, _ => rfl
  | [], z :: _, _, _, h => absurd ((h z).mpr (List.mem_cons_self ..)) (List.not_mem_nil)
  | y :: _, [], _, _, h => absurd ((h y).mp (List.mem_cons_self ..)) (List.not_mem_nil)
  | y :: r, z :: t, h1, h2, h => by
    obtain ⟨a1, a2⟩ := List.pairwise_cons.mp h1
    obtain ⟨b1, b2⟩ := List.pairwise_cons.mp h2
    have e : y = z := by
      rcases List.mem_cons.mp ((h y).mp (List.mem_cons_self ..)) with e | e
      · exact e
      · rcases List.mem_cons.mp ((h z).mpr (List.mem_cons_self ..)) with e' | e'
        · exact e'.symm
        · have := ltS_trans (b1 _ e) (a1 _ e')
          rw [ltS_irr] at this
          cases this
    subst e
    refine congrArg _ (asc_unique r t a2 b2 fun x => ⟨fun hx => ?_, fun hx => ?_⟩)
    · rcases List.mem_cons.mp ((h x).mp (List.mem_cons_of_mem _ hx)) with e | e
      · subst e
        have := a1 _ hx
        rw [ltS_irr] at this
        cases this
      · exact e
    · rcases List.mem_cons.mp ((h x).mpr (List.mem_cons_of_mem _ hx)) with e | e
      · subst e
        have := b1 _ hx
        rw [ltS_irr] at this
        cases this
      · exact e
/-- the sorted texts of a list, each once -/
def Canon (ys ps : List Str) : Prop := Asc ys ∧ ∀ x, x ∈ ys ↔ x ∈ ps
theorem Canon.uniq {ys zs ps : List Str} (h : Canon ys ps) (g : Canon zs ps) : ys = zs := asc_unique ys zs h.1 g.1 fun x => (h.2 x).trans (g.2 x).symm
def ins (p : Str) : List Str → List Str
  | [] => [p]
  | y :: r => if p = y then y :: r else if ltS p y = true then p :: y :: r else y :: ins p r
theorem ins_mem {p x : Str} : ∀ {ys : List Str}, x ∈ ins p ys ↔ x = p ∨ x ∈ ys
  | [] => by simp [ins]
  | y :: r => by
    unfold ins
    by_cases h : p = y
    · subst h
      rw [if_pos rfl]
      simp
    · rw [if_neg h]
      by_cases h2 : ltS p y = true
      · rw [if_pos h2]
        simp
      · rw [if_neg h2, List.mem_cons, ins_mem (ys := r), List.mem_cons]
        exact ⟨fun z => by rcases z with z | z | z <;> simp [z], fun z => by rcases z with z | z | z <;> simp [z]⟩
theorem ins_asc {p : Str} : ∀ {ys : List Str}, Asc ys → Asc (ins p ys)
  | [], _ => List.pairwise_singleton _ _
  | y :: r, h => by
    obtain ⟨a1, a2⟩ := List.pairwise_cons.mp h
    unfold ins
    by_cases e : p = y
    · rw [if_pos e]
      exact h
    · rw [if_neg e]
      by_cases h2 : ltS p y = true
      · rw [if_pos h2]
        exact List.pairwise_cons.mpr ⟨fun z hz => by
          rcases List.mem_cons.mp hz with e | e
          · rw [e]
            exact h2
          · exact ltS_trans h2 (a1 _ e), h⟩
      · rw [if_neg h2]
        refine List.pairwise_cons.mpr ⟨fun z hz => ?_, ins_asc a2⟩
        rcases ins_mem.mp hz with e' | e'
        · rw [e']
          exact ltS_tri (by simpa using h2) e
        · exact a1 _ e'
theorem canon_ex : ∀ ps : List Str, ∃ ys, Canon ys ps
  | [] => ⟨[], List.Pairwise.nil, fun _ => Iff.rfl⟩
  | p :: r => by
    obtain ⟨ys, h1, h2⟩ := canon_ex r
    exact ⟨ins p ys, ins_asc h1, fun x => by rw [ins_mem, h2 x, List.mem_cons]⟩
theorem nodup_le : ∀ {ys S : List Str}, ys.Nodup → (∀ x ∈ ys, x ∈ S) → ys.length ≤ S.length
  | [], _, _, _ => Nat.zero_le _
  | y :: r, S, h, g => by
    obtain ⟨a1, a2⟩ := List.nodup_cons.mp h
    have hy := g y (List.mem_cons_self ..)
    have := nodup_le (S := S.erase y) a2 fun x hx => (List.mem_erase_of_ne fun e => a1 (by rw [← e]; exact hx)).mpr (g x (List.mem_cons_of_mem _ hx))
    rw [List.length_erase_of_mem hy] at this
    have : 0 < S.length := List.length_pos_of_mem hy
    rw [List.length_cons]
    omega
theorem Asc.nodup {ys : List Str} (h : Asc ys) : ys.Nodup := List.Pairwise.imp (fun {a b} g e => by
  subst e
  rw [ltS_irr] at g
  cases g) h
theorem sorted_pw : ∀ {ys : List Str}, sortedS ys = true → ys.Pairwise fun a b => ltS b a = false
  | [], _ => .nil
  | [x], _ => List.pairwise_singleton _ _
  | x :: y :: r, h => by
    have h' : (!ltCps y.cps.toList x.cps.toList && risingS y r) = true := h
    rw [Bool.and_eq_true, Bool.not_eq_true'] at h'
    have ih := sorted_pw (ys := y :: r) h'.2
    refine List.pairwise_cons.mpr ⟨fun z hz => ?_, ih⟩
    rcases List.mem_cons.mp hz with e | e
    · rw [e]
      exact h'.1
    · have h3 := (List.pairwise_cons.mp ih).1 z e
      cases hzx : ltS z x with
      | false => rfl
      | true =>
        by_cases e2 : y = z
        · subst e2
          rw [show ltS y x = false from h'.1] at hzx
          cases hzx
        · have h4 := ltS_tri h3 fun e => e2 e.symm
          have := ltS_trans h4 hzx
          rw [show ltS y x = false from h'.1] at this
          cases this
theorem canon_perm {ys ps : List Str} (hp : ys.Perm ps) (hs : sortedS ys = true) (hn : ps.Nodup) : Canon ys ps := by
  refine ⟨?_, fun x => hp.mem_iff⟩
  have h1 := sorted_pw hs
  have h2 : ys.Nodup := hp.nodup_iff.mpr hn
  exact List.Pairwise.imp (fun {a b} g => ltS_tri g.1 fun e => g.2 e.symm) (List.Pairwise.and h1 h2)
/-- the law's way to the same -/
structure Ded (acc zs : List Str) : Prop where
  asc : Asc acc
  mem : ∀ x, x ∈ acc ↔ x ∈ zs
  last : acc.getLast? = zs.getLast?
theorem Ded.add {acc zs : List Str} {r : Str} (h : Ded acc zs) (hs : ∀ z ∈ zs, ltS r z = false) (hl : acc = [] ∨ ∀ z, acc.getLast? = some z → z ≠ r) : Ded (acc ++ [r]) (zs ++ [r]) := by
  refine ⟨List.pairwise_append.mpr ⟨h.asc, List.pairwise_singleton _ _, fun a ha b hb => ?_⟩, fun x => by rw [List.mem_append, List.mem_append, h.mem x], by simp⟩
  rw [List.mem_singleton.mp hb]
  cases hg : acc.getLast? with
  | none =>
    rw [List.getLast?_eq_none_iff.mp hg] at ha
    exact absurd ha List.not_mem_nil
  | some z =>
    have hne : acc ≠ [] := fun e => by
      rw [e] at ha
      exact absurd ha List.not_mem_nil
    have hz := (hl.resolve_left hne) z hg
    have hzm : z ∈ acc := List.mem_of_getLast? hg
    have h1 : ltS z r = true := ltS_tri (hs z ((h.mem z).mp hzm)) fun e => hz e.symm
    by_cases e : a = z
    · rw [e]
      exact h1
    · have e1 : acc = acc.dropLast ++ [z] := by
        obtain ⟨ys, rfl⟩ := List.getLast?_eq_some_iff.mp hg
        simp
      have hd : a ∈ acc.dropLast := by
        rw [e1] at ha
        rcases List.mem_append.mp ha with h | h
        · exact h
        · exact absurd (List.mem_singleton.mp h) e
      have hasc := h.asc
      rw [e1] at hasc
      exact ltS_trans ((List.pairwise_append.mp hasc).2.2 a hd z (List.mem_singleton.mpr rfl)) h1
theorem Ded.skip {acc zs : List Str} {r : Str} (h : Ded acc zs) (hl : acc.getLast? = some r) : Ded acc (zs ++ [r]) :=
  ⟨h.asc, fun x => by
    rw [List.mem_append, List.mem_singleton, h.mem x]
    exact ⟨Or.inl, fun z => z.elim id fun e => by
      rw [e]
      exact (h.mem r).mp (List.mem_of_getLast? hl)⟩, by rw [hl]; simp⟩
/-! ### the draws -/
def dMix (c : Int) (k : Nat) : Int :=
  let m := (c * 48271 + ((k : Int) + 1) * 69621) % 2147483647
  let m := (m * m + m * 16807 + (k : Int) * 7919) % 2147483629
  (m * m + c + 13 * (k : Int)) % 2147483587
def dStep (c : Int) (s : List Int × Int) (k : Nat) : List Int × Int :=
  if (decide ((10 : Int) ^ 18 ≤ c) && decide (0 < s.2)) = true then (s.1 ++ [s.2 % 4096], s.2 / 4096) else (s.1 ++ [dMix c k / 7 % 4096], s.2)
def dSt (c : Int) (n : Nat) : List Int × Int := (List.range n).foldl (dStep c) ([], c)
theorem dSt_succ (c : Int) (n : Nat) : dSt c (n + 1) = dStep c (dSt c n) n := by
  unfold dSt
  rw [List.range_succ, List.foldl_append]
  rfl
def Lo (xs : List Int) : Prop := ∀ x ∈ xs, 0 ≤ x ∧ x < 4096
theorem Lo.app {xs ys : List Int} (h : Lo xs) (g : Lo ys) : Lo (xs ++ ys) := fun x hx => (List.mem_append.mp hx).elim (h x) (g x)
theorem Lo.one (x : Int) : Lo [x % 4096] := fun y hy => by
  rw [List.mem_singleton.mp hy]
  omega
theorem dSt_ok (c : Int) : ∀ n, (dSt c n).1.length = n ∧ Lo (dSt c n).1
  | 0 => ⟨rfl, fun x hx => absurd hx List.not_mem_nil⟩
  | n + 1 => by
    obtain ⟨h1, h2⟩ := dSt_ok c n
    rw [dSt_succ]
    unfold dStep
    split
    · exact ⟨by simp [h1], h2.app (Lo.one _)⟩
    · exact ⟨by simp [h1], h2.app (Lo.one _)⟩
def cell (sc : List Int) (k : Nat) : Int := if h : k < sc.length then sc[k] else 0
def sSt (sc : List Int) (n : Nat) : List Int := (List.range n).foldl (fun acc k => acc ++ (dSt (cell sc k + 7 * (k : Int)) 16).1) []
theorem sSt_succ (sc : List Int) (n : Nat) : sSt sc (n + 1) = sSt sc n ++ (dSt (cell sc n + 7 * (n : Int)) 16).1 := by
  unfold sSt
  rw [List.range_succ, List.foldl_append]
  rfl
theorem sSt_ok (sc : List Int) : ∀ n, (sSt sc n).length = 16 * n ∧ Lo (sSt sc n)
  | 0 => ⟨rfl, fun x hx => absurd hx List.not_mem_nil⟩
  | n + 1 => by
    obtain ⟨h1, h2⟩ := sSt_ok sc n
    obtain ⟨g1, g2⟩ := dSt_ok (cell sc n + 7 * (n : Int)) 16
    rw [sSt_succ]
    exact ⟨by rw [List.length_append, h1, g1]; omega, h2.app g2⟩
def draws (sc : List Int) : List Int := (sSt sc 4).take 48
structure Dr (D : List Int) : Prop where
  len : D.length = 48
  lo : Lo D
theorem draws_ok (sc : List Int) : Dr (draws sc) := by
  obtain ⟨h1, h2⟩ := sSt_ok sc 4
  exact ⟨by unfold draws; rw [List.length_take, h1]; rfl, fun x hx => h2 x (List.mem_of_mem_take hx)⟩
def at_ (D : List Int) (i : Int) : Int := (D[(i % 48).toNat]?).getD 0
theorem at_lo {D : List Int} (h : Dr D) (i : Int) : 0 ≤ at_ D i ∧ at_ D i < 4096 := by
  unfold at_
  cases e : D[(i % 48).toNat]? with
  | none => exact ⟨Int.le_refl _, (by decide)⟩
  | some x => exact h.lo x (List.mem_of_getElem? e)
theorem at_get {D : List Int} (h : Dr D) (i : Int) : atI (D.map PyData.int) (i % 48) = some (.int (at_ D i)) := by
  have h1 : (i % 48).toNat < D.length := by
    rw [h.len]
    omega
  unfold atI ixN
  rw [if_pos (by omega), if_pos (by rw [List.length_map, h.len]; omega)]
  show (D.map PyData.int)[(i % 48).toNat]? = _
  rw [List.getElem?_map]
  unfold at_
  rw [List.getElem?_eq_getElem h1]
  rfl
theorem at_get0 {D : List Int} (h : Dr D) {i : Int} (hi : i % 48 = i) : atI (D.map PyData.int) i = some (.int (at_ D i)) := by
  have z := at_get h i
  rwa [hi] at z
end T94

set_option maxHeartbeats 1000000
/-! what the law reckons -/
namespace T94
open PySem PySem.Spec PyProof.Rows L2 T9 TL
/-! ### texts -/
theorem strOk_iff {x : Str} : PyData.strOk x = true ↔ ∀ c ∈ tl x, c < 0x110000 := by
  unfold PyData.strOk tl
  rw [Array.all_eq_true']
  exact ⟨fun h c hc => of_decide_eq_true (h c (Array.mem_toList_iff.mp hc)), fun h c hc => decide_eq_true (h c (Array.mem_toList_iff.mpr hc))⟩
theorem len_app (x y : Str) : (x ++ y).length = x.length + y.length := by rw [len_tl, tl_append, List.length_append, ← len_tl, ← len_tl]
theorem ok_app {x y : Str} (h : PyData.strOk x = true) (g : PyData.strOk y = true) : PyData.strOk (x ++ y) = true := strOk_iff.mpr fun c hc => by
  rw [tl_append] at hc
  exact (List.mem_append.mp hc).elim (strOk_iff.mp h c) (strOk_iff.mp g c)
theorem ok_cut {x : Str} (h : PyData.strOk x = true) (lo hi : Option Int) : PyData.strOk (cutS x lo hi) = true := strOk_iff.mpr fun c hc => by
  have hc' : c ∈ (x.cps.toList.drop (HT.sIx x.length 0 lo)).take (HT.sIx x.length x.length hi - HT.sIx x.length 0 lo) := hc
  exact strOk_iff.mp h c (List.mem_of_mem_drop (List.mem_of_mem_take hc'))
theorem joinL_le {S : List Nat} {B : Nat} : ∀ {ps : List (List Nat)}, (∀ p ∈ ps, p.length ≤ B) → (joinL S ps).length ≤ ps.length * (B + S.length)
  | [], _ => Nat.zero_le _
  | [p], h => by
    have := h p (List.mem_cons_self ..)
    show p.length ≤ 1 * (B + S.length)
    omega
  | p :: q :: r, h => by
    have h1 := h p (List.mem_cons_self ..)
    have h2 := joinL_le (S := S) (B := B) (ps := q :: r) fun z hz => h z (List.mem_cons_of_mem _ hz)
    show (p ++ (S ++ joinL S (q :: r))).length ≤ (r.length + 1 + 1) * (B + S.length)
    rw [List.length_append, List.length_append, Nat.succ_mul]
    rw [List.length_cons] at h2
    omega
theorem joinL_mem {S : List Nat} {c : Nat} : ∀ {ps : List (List Nat)}, c ∈ joinL S ps → c ∈ S ∨ ∃ p ∈ ps, c ∈ p
  | [], h => absurd h List.not_mem_nil
  | [p], h => Or.inr ⟨p, List.mem_cons_self .., h⟩
  | p :: q :: r, h => by
    rcases List.mem_append.mp h with h | h
    · exact Or.inr ⟨p, List.mem_cons_self .., h⟩
    · rcases List.mem_append.mp h with h | h
      · exact Or.inl h
      · rcases joinL_mem h with h | ⟨z, hz, h⟩
        · exact Or.inl h
        · exact Or.inr ⟨z, List.mem_cons_of_mem _ hz, h⟩
theorem join_le {x : Str} {ys : List Str} {B : Nat} (h : ∀ y ∈ ys, y.length ≤ B) : (Txt.join x ys).length ≤ ys.length * (B + x.length) := by
  rw [join_eq, len_tl, tl_join, len_tl x]
  have z := joinL_le (S := tl x) (B := B) (ps := ys.map tl) fun p hp => by
    obtain ⟨y, hy, rfl⟩ := List.mem_map.mp hp
    rw [← len_tl]
    exact h y hy
  rwa [List.length_map] at z
theorem ok_join {x : Str} {ys : List Str} (h : PyData.strOk x = true) (g : ∀ y ∈ ys, PyData.strOk y = true) : PyData.strOk (Txt.join x ys) = true := strOk_iff.mpr fun c hc => by
  rw [join_eq, tl_join] at hc
  rcases joinL_mem hc with hc | ⟨p, hp, hc⟩
  · exact strOk_iff.mp h c hc
  · obtain ⟨y, hy, rfl⟩ := List.mem_map.mp hp
    exact strOk_iff.mp (g y hy) c hc
/-! ### names, paths -/
def sg : Str := " !\"#$&'()*+,-./0123456789:;<=>?@ABCDEFGHIJKLMNOPQRSTUVWXYZ[\\]^_`abcdefghijklmnopqrstuvwxyz{|}~"
def nthC (z : Str) (i : Int) : Nat := z.cps.toList.getD i.toNat 97
theorem nthC_get {z : Str} {i : Int} (h0 : 0 ≤ i) (h1 : i < z.cps.toList.length) : atI z.cps.toList i = some (nthC z i) := by
  have h2 : i.toNat < z.cps.toList.length := by omega
  unfold atI ixN nthC
  rw [if_pos h0, if_pos h1]
  show z.cps.toList[i.toNat]? = _
  rw [List.getD_eq_getElem?_getD, List.getElem?_eq_getElem h2]
  rfl
theorem nthC_ok {z : Str} (h : PyData.strOk z = true) (i : Int) : PyData.strOk ⟨#[nthC z i]⟩ = true := strOk_iff.mpr fun c hc => by
  have hc' : c ∈ [nthC z i] := hc
  rw [List.mem_singleton.mp hc']
  unfold nthC
  rw [List.getD_eq_getElem?_getD]
  cases e : z.cps.toList[i.toNat]? with
  | none => show (97 : Nat) < 1114112; decide
  | some c => exact strOk_iff.mp h c (List.mem_of_getElem? e)
theorem ok_letters : PyData.strOk letters = true := by decide +kernel
theorem ok_sg : PyData.strOk sg = true := by decide +kernel
theorem len_letters : letters.cps.toList.length = 36 := by decide +kernel
theorem len_sg : sg.cps.toList.length = 94 := by decide +kernel
def lname (D : List Int) (a : Int) : Str := Txt.join "" ((List.range (1 + at_ D a % 12).toNat).map fun k => ⟨#[nthC letters (at_ D (a + 1 + (k : Nat)) % 36)]⟩)
def wnames (D : List Int) (a : Int) : List Str := (List.range (at_ D a % 8).toNat).map fun k => lname D (a + 1 + 3 * (k : Nat))
def wpath (D : List Int) (a : Int) : Str := Txt.join "/" (wnames D a)
def wplace (D : List Int) (a : Int) : Int := at_ D (a + 3) % ((wpath D a).length + 1)
def wsign (D : List Int) (a : Int) : Str := ⟨#[nthC sg (at_ D (a + 4) % 94)]⟩
def wild (D : List Int) (a : Int) : Str :=
  if at_ D (a + 2) % 8 = 0 then cutS (wpath D a) none (some (wplace D a)) ++ wsign D a ++ cutS (wpath D a) (some (wplace D a)) none
  else if at_ D (a + 2) % 8 = 1 then cutS (wpath D a) none (some (wplace D a)) ++ wsign D a ++ cutS (wpath D a) (some (wplace D a + 1)) none
  else if at_ D (a + 2) % 8 = 2 then cutS (wpath D a) none (some (wplace D a)) ++ "/" ++ cutS (wpath D a) (some (wplace D a)) none
  else if at_ D (a + 2) % 8 = 3 then cutS (wpath D a) none (some (wplace D a)) ++ cutS (wpath D a) (some (wplace D a + 1)) none
  else wpath D a
theorem lname_ok (D : List Int) (a : Int) : (lname D a).length ≤ 12 ∧ PyData.strOk (lname D a) = true := by
  refine ⟨?_, ok_join (by decide +kernel) fun y hy => ?_⟩
  · have z := join_le (x := "") (B := 1) (ys := (List.range (1 + at_ D a % 12).toNat).map fun k => (⟨#[nthC letters (at_ D (a + 1 + (k : Nat)) % 36)]⟩ : Str)) fun y hy => by
      obtain ⟨k, _, rfl⟩ := List.mem_map.mp hy
      exact Nat.le_refl _
    rw [List.length_map, List.length_range, show (("" : Str).length) = 0 from rfl] at z
    unfold lname
    omega
  · obtain ⟨k, _, rfl⟩ := List.mem_map.mp hy
    exact nthC_ok ok_letters _
theorem wpath_ok (D : List Int) (a : Int) : (wpath D a).length ≤ 91 ∧ PyData.strOk (wpath D a) = true := by
  refine ⟨?_, ok_join (by decide +kernel) fun y hy => ?_⟩
  · have z := join_le (x := "/") (B := 12) (ys := wnames D a) fun y hy => by
      obtain ⟨k, _, rfl⟩ := List.mem_map.mp hy
      exact (lname_ok D _).1
    have l : (wnames D a).length = (at_ D a % 8).toNat := by unfold wnames; rw [List.length_map, List.length_range]
    rw [l, show (("/" : Str).length) = 1 from rfl] at z
    unfold wpath
    omega
  · obtain ⟨k, _, rfl⟩ := List.mem_map.mp hy
    exact (lname_ok D _).2
theorem wild_ok (D : List Int) (a : Int) : (wild D a).length ≤ 200 ∧ PyData.strOk (wild D a) = true := by
  obtain ⟨h1, h2⟩ := wpath_ok D a
  have c (lo hi) : (cutS (wpath D a) lo hi).length ≤ 91 := Nat.le_trans (cutS_length _ _ _) h1
  have o (lo hi) := ok_cut h2 lo hi
  have s1 : (wsign D a).length = 1 := rfl
  have s2 : PyData.strOk (wsign D a) = true := nthC_ok ok_sg _
  have s3 : ("/" : Str).length = 1 := rfl
  have s4 : PyData.strOk "/" = true := by decide +kernel
  unfold wild
  split
  · refine ⟨?_, ok_app (ok_app (o _ _) s2) (o _ _)⟩
    rw [len_app, len_app, s1]
    have := c none (some (wplace D a))
    have := c (some (wplace D a)) none
    omega
  · split
    · refine ⟨?_, ok_app (ok_app (o _ _) s2) (o _ _)⟩
      rw [len_app, len_app, s1]
      have := c none (some (wplace D a))
      have := c (some (wplace D a + 1)) none
      omega
    · split
      · refine ⟨?_, ok_app (ok_app (o _ _) s4) (o _ _)⟩
        rw [len_app, len_app, s3]
        have := c none (some (wplace D a))
        have := c (some (wplace D a)) none
        omega
      · split
        · refine ⟨?_, ok_app (o _ _) (o _ _)⟩
          rw [len_app]
          have := c none (some (wplace D a))
          have := c (some (wplace D a + 1)) none
          omega
        · exact ⟨by omega, h2⟩
/-! ### expressions -/
def nth {α : Type} (xs : List α) (i : Int) (d : α) : α := xs.getD i.toNat d
theorem nth_get {α : Type} {f : α → PyData} {xs : List α} {i : Int} {d : α} (h0 : 0 ≤ i) (h1 : i < xs.length) : atI (xs.map f) i = some (f (nth xs i d)) := by
  have h2 : i.toNat < xs.length := by omega
  unfold atI ixN nth
  rw [if_pos h0, if_pos (by rw [List.length_map]; exact h1)]
  show (xs.map f)[i.toNat]? = _
  rw [List.getElem?_map, List.getD_eq_getElem?_getD, List.getElem?_eq_getElem h2]
  rfl
theorem nth_mem {α : Type} {xs : List α} {i : Int} {d : α} (h0 : 0 ≤ i) (h1 : i < xs.length) : nth xs i d ∈ xs := by
  have h2 : i.toNat < xs.length := by omega
  unfold nth
  rw [List.getD_eq_getElem?_getD, List.getElem?_eq_getElem h2]
  exact List.getElem_mem h2
def numOk (n : Int) : Bool := decide (-1000000000000000000000000000000 < n) && decide (n < 1000000000000000000000000000000)
def pairs : List Str := ["add", "sub", "mul", "min", "max", "less"]
def kindOk (k : Str) : Bool := decide (k ∈ pairs) || decide (k ∈ (["pick", "shift"] : List Str))
def valid : Exp → Bool
  | .path p => pathOk p
  | .num n => numOk n
  | .two k a b => kindOk k && (valid a && (valid b && true))
  | .three k a b c => kindOk k && (valid a && (valid b && (valid c && true)))
  | .shift a o => o.all numOk && (valid a && true)
def draw (D : List Int) (a : Int) : Int := at_ D a + 31 * a
def leaf (w : Int) : Exp :=
  if w / 5 % 3 = 0 then .num (nth [w / 15 % 9 - 4, 100000000000000000000000000000 - w, -100000000000000000000 + w] (w / 135 % 3) 0) else .path (nth ["a", "b", "b/c"] (w / 15 % 3) "a")
def kinds : List Str := ["add", "sub", "mul", "min", "max", "less", "add"]
def offs (D : List Int) (a : Int) : List Int := (List.range 2).map fun k => at_ D (a + 5 + (k : Nat)) % 5 - 2
def expr (D : List Int) : Nat → Int → Exp
  | 0, a => leaf (draw D a)
  | d + 1, a => if draw D a % 5 = 0 then leaf (draw D a) else
    if draw D a / 5 % 9 = 7 then .three "pick" (expr D d (3 * a + 1 + 0)) (expr D d (3 * a + 1 + 1)) (expr D d (3 * a + 1 + 2))
    else if draw D a / 5 % 9 = 8 then .shift (expr D d (3 * a + 1 + 0)) (offs D a)
    else .two (nth kinds (draw D a / 5 % 9) "add") (expr D d (3 * a + 1 + 0)) (expr D d (3 * a + 1 + 1))
def bnd : Nat → Int | 3 => 1 | 2 => 6 | 1 => 21 | _ => 66
theorem kinds_all {P : Str → Prop} (h : P "add" ∧ P "sub" ∧ P "mul" ∧ P "min" ∧ P "max" ∧ P "less") {k : Str} (hk : k ∈ kinds) : P k := by
  simp only [kinds, List.mem_cons, List.not_mem_nil, or_false] at hk
  obtain ⟨h1, h2, h3, h4, h5, h6⟩ := h
  rcases hk with rfl | rfl | rfl | rfl | rfl | rfl | rfl <;> assumption
theorem kinds_ok {k : Str} (hk : k ∈ kinds) : kindOk k = true ∧ Free k := kinds_all (P := fun k => kindOk k = true ∧ Free k) (by unfold Free; decide +kernel) hk
theorem offs_ok {D : List Int} (h : Dr D) (a : Int) : (offs D a).all numOk = true := by
  rw [List.all_eq_true]
  intro x hx
  obtain ⟨k, _, rfl⟩ := List.mem_map.mp hx
  unfold numOk
  rw [decide_eq_true (by omega), decide_eq_true (by omega)]
  rfl
theorem leaf_ok {D : List Int} (h : Dr D) {a : Int} (h0 : 0 ≤ a) (h1 : a ≤ 66) : valid (leaf (draw D a)) = true := by
  have hw : 0 ≤ draw D a ∧ draw D a ≤ 10000 := by
    have := at_lo h a
    unfold draw
    omega
  generalize draw D a = w at hw
  unfold leaf
  split
  · have hm := nth_mem (xs := [w / 15 % 9 - 4, 100000000000000000000000000000 - w, -100000000000000000000 + w]) (i := w / 135 % 3) (d := 0) (by omega) (by show w / 135 % 3 < ((3 : Nat) : Int); omega)
    generalize nth [w / 15 % 9 - 4, 100000000000000000000000000000 - w, -100000000000000000000 + w] (w / 135 % 3) 0 = x at hm
    show numOk x = true
    simp only [List.mem_cons, List.not_mem_nil, or_false] at hm
    unfold numOk
    rw [decide_eq_true (by omega), decide_eq_true (by omega)]
    rfl
  · have hm := nth_mem (xs := (["a", "b", "b/c"] : List Str)) (i := w / 15 % 3) (d := "a") (by omega) (by show w / 15 % 3 < ((3 : Nat) : Int); omega)
    generalize nth (["a", "b", "b/c"] : List Str) (w / 15 % 3) "a" = x at hm
    show pathOk x = true
    simp only [List.mem_cons, List.not_mem_nil, or_false] at hm
    rcases hm with rfl | rfl | rfl <;> decide +kernel
theorem valid_expr {D : List Int} (h : Dr D) : ∀ (d : Nat) (a : Int), d ≤ 3 → 0 ≤ a → a ≤ bnd d → valid (expr D d a) = true
  | 0, a, _, h0, h1 => leaf_ok h h0 h1
  | d + 1, a, hd, h0, h1 => by
    have hb : ∀ k : Int, 0 ≤ k → k ≤ 2 → 3 * a + 1 + k ≤ bnd d := fun k hk hk2 => by
      match d, hd with
      | 0, _ => simp only [bnd] at h1 ⊢; omega
      | 1, _ => simp only [bnd] at h1 ⊢; omega
      | 2, _ => simp only [bnd] at h1 ⊢; omega
    have ih : ∀ k : Int, 0 ≤ k → k ≤ 2 → valid (expr D d (3 * a + 1 + k)) = true := fun k hk hk2 => valid_expr h d _ (by omega) (by omega) (hb k hk hk2)
    have h66 : a ≤ 66 := by
      match d, hd with
      | 0, _ => simp only [bnd] at h1; omega
      | 1, _ => simp only [bnd] at h1; omega
      | 2, _ => simp only [bnd] at h1; omega
    unfold expr
    split
    · exact leaf_ok h h0 h66
    · rename_i hw
      split
      · simp only [valid]
        rw [ih 0 (by omega) (by omega), ih 1 (by omega) (by omega), ih 2 (by omega) (by omega)]
        decide +kernel
      · split
        · simp only [valid]
          rw [ih 0 (by omega) (by omega), offs_ok h]
          rfl
        · simp only [valid]
          rw [ih 0 (by omega) (by omega), ih 1 (by omega) (by omega), (kinds_ok (nth_mem (by omega) (by show draw D a / 5 % 9 < ((7 : Nat) : Int); omega))).1]
          rfl
theorem leaf_good {S : List Str} (hS : ∀ p ∈ (["a", "b", "b/c"] : List Str), p ∈ S) (w : Int) : Good S (leaf w) ∧ dep (leaf w) = 1 := by
  unfold leaf
  split
  · exact ⟨trivial, rfl⟩
  · exact ⟨hS _ (nth_mem (by omega) (by show w / 15 % 3 < ((3 : Nat) : Int); omega)), rfl⟩
theorem expr_good {D : List Int} (h : Dr D) {S : List Str} (hS : ∀ p ∈ (["a", "b", "b/c"] : List Str), p ∈ S) : ∀ (d : Nat) (a : Int), Good S (expr D d a) ∧ dep (expr D d a) ≤ d + 1
  | 0, a => ⟨(leaf_good hS _).1, by unfold expr; rw [(leaf_good hS _).2]; exact Nat.le_refl _⟩
  | d + 1, a => by
    have ih := expr_good h hS d
    unfold expr
    split
    · exact ⟨(leaf_good hS _).1, by rw [(leaf_good hS _).2]; omega⟩
    · split
      · refine ⟨⟨by unfold Free; decide +kernel, (ih _).1, (ih _).1, (ih _).1⟩, ?_⟩
        have := (ih (3 * a + 1 + 0)).2
        have := (ih (3 * a + 1 + 1)).2
        have := (ih (3 * a + 1 + 2)).2
        simp only [dep]
        omega
      · split
        · refine ⟨⟨(ih _).1, by unfold offs; simp⟩, ?_⟩
          have := (ih (3 * a + 1 + 0)).2
          simp only [dep]
          omega
        · refine ⟨⟨(kinds_ok (nth_mem (by omega) (by show draw D a / 5 % 9 < ((7 : Nat) : Int); omega))).2, (ih _).1, (ih _).1⟩, ?_⟩
          have := (ih (3 * a + 1 + 0)).2
          have := (ih (3 * a + 1 + 1)).2
          simp only [dep]
          omega
/-! ### the law's case -/
def bads (D : List Int) (e : Exp) : List Exp := [.path (wild D 20), .num 1000000000000000000000000000000, .num (-1000000000000000000000000000000 - at_ D 3), .two "Add" e e, .two "div" e e, .shift e [1, 1000000000000000000000000000000], .path "A", .num (1000000000000000000000000000000 - 1)]
def bad (D : List Int) (e : Exp) : Exp := nth (bads D e) (at_ D 4 % 8) e
def wraps (b e : Exp) : List Exp := [b, .two "add" b e, .three "pick" e e b, .shift b [0], .two "less" e b]
def wrap (D : List Int) (b e : Exp) : Exp := nth (wraps b e) (at_ D 5 % 5) e
def e0 (D : List Int) : Exp := expr D (at_ D 0 % 4).toNat 1
def wr0 (D : List Int) : Bool := decide (at_ D 2 % 2 = 0)
def wr1 (D : List Int) : Bool := (!decide (at_ D 4 % 8 ∈ ([0, 7] : List Int))) || (decide (at_ D 4 % 8 = 0) && !pathOk (wild D 20))
def wr (D : List Int) : Bool := if wr0 D = true then wr1 D else false
def e1 (D : List Int) : Exp := if wr0 D = true then wrap D (bad D (e0 D)) (e0 D) else e0 D
def goal (D : List Int) : Int := nth [0, 0, 11, 12, 13, 30] (at_ D 6 % 6) 0
def grow (D : List Int) (e : Exp) (k : Nat) : Exp :=
  if (dep e : Int) < goal D then (if at_ D (7 + (k : Int) % 12) % 2 = 0 then .shift e [1, -1] else .two "sub" (.num k) e) else e
def gSt (D : List Int) (n : Nat) : Exp := (List.range n).foldl (grow D) (e1 D)
theorem gSt_succ (D : List Int) (n : Nat) : gSt D (n + 1) = grow D (gSt D n) n := by
  unfold gSt
  rw [List.range_succ, List.foldl_append]
  rfl
def SD (D : List Int) : List Str := ["a", "b", "b/c", "A", wild D 20]
theorem SD_ok (D : List Int) : OkS (SD D) := ⟨by show 5 ≤ 20; decide, fun p hp => by
  simp only [SD, List.mem_cons, List.not_mem_nil, or_false] at hp
  rcases hp with rfl | rfl | rfl | rfl | rfl
  · decide +kernel
  · decide +kernel
  · decide +kernel
  · decide +kernel
  · exact ⟨Nat.le_trans (wild_ok D 20).1 (by decide), (wild_ok D 20).2⟩⟩
theorem SD_in (D : List Int) : ∀ p ∈ (["a", "b", "b/c"] : List Str), p ∈ SD D := fun p hp => by
  simp only [List.mem_cons, List.not_mem_nil, or_false] at hp
  simp only [SD, List.mem_cons]
  rcases hp with rfl | rfl | rfl <;> simp
theorem eight {i : Int} (h0 : 0 ≤ i) (h1 : i < 8) : i = 0 ∨ i = 1 ∨ i = 2 ∨ i = 3 ∨ i = 4 ∨ i = 5 ∨ i = 6 ∨ i = 7 := by omega
theorem e0_ok {D : List Int} (h : Dr D) : Good (SD D) (e0 D) ∧ dep (e0 D) ≤ 4 ∧ valid (e0 D) = true := by
  have hd : (at_ D 0 % 4).toNat ≤ 3 := by omega
  refine ⟨(expr_good h (SD_in D) _ _).1, ?_, valid_expr h _ _ hd (by decide) ?_⟩
  · have := (expr_good h (SD_in D) (at_ D 0 % 4).toNat 1).2
    unfold e0
    omega
  · generalize (at_ D 0 % 4).toNat = d at hd
    match d, hd with
    | 0, _ => simp only [bnd]; omega
    | 1, _ => simp only [bnd]; omega
    | 2, _ => simp only [bnd]; omega
    | 3, _ => simp only [bnd]; omega
theorem bad_ok {D : List Int} (h : Dr D) : Good (SD D) (bad D (e0 D)) ∧ dep (bad D (e0 D)) ≤ 5 ∧ valid (bad D (e0 D)) = !wr1 D := by
  obtain ⟨g, hd, hv⟩ := e0_ok h
  have h3 := at_lo h 3
  unfold bad wr1
  have hi := eight (i := at_ D 4 % 8) (by omega) (by omega)
  generalize at_ D 4 % 8 = i at hi
  rcases hi with rfl | rfl | rfl | rfl | rfl | rfl | rfl | rfl
  · refine ⟨by show wild D 20 ∈ SD D; simp [SD], by show 1 ≤ 5; decide, ?_⟩
    show pathOk (wild D 20) = !(false || (true && !pathOk (wild D 20)))
    cases pathOk (wild D 20) <;> rfl
  · exact ⟨trivial, by show 1 ≤ 5; decide, by show numOk 1000000000000000000000000000000 = false; decide +kernel⟩
  · refine ⟨trivial, by show 1 ≤ 5; decide, ?_⟩
    show numOk (-1000000000000000000000000000000 - at_ D 3) = false
    unfold numOk
    rw [decide_eq_false (by omega)]
    rfl
  · refine ⟨⟨by unfold Free; decide +kernel, g, g⟩, by show 1 + max (dep (e0 D)) (dep (e0 D)) ≤ 5; omega, ?_⟩
    show (kindOk "Add" && _) = false
    rw [show kindOk "Add" = false by decide +kernel]
    rfl
  · refine ⟨⟨by unfold Free; decide +kernel, g, g⟩, by show 1 + max (dep (e0 D)) (dep (e0 D)) ≤ 5; omega, ?_⟩
    show (kindOk "div" && _) = false
    rw [show kindOk "div" = false by decide +kernel]
    rfl
  · refine ⟨⟨g, by decide⟩, by show 1 + dep (e0 D) ≤ 5; omega, ?_⟩
    show (([1, 1000000000000000000000000000000] : List Int).all numOk && _) = false
    rw [show ([1, 1000000000000000000000000000000] : List Int).all numOk = false by decide +kernel]
    rfl
  · refine ⟨by show ("A" : Str) ∈ SD D; simp [SD], by show 1 ≤ 5; decide, ?_⟩
    show pathOk "A" = false
    decide +kernel
  · exact ⟨trivial, by show 1 ≤ 5; decide, by show numOk (1000000000000000000000000000000 - 1) = true; decide +kernel⟩
theorem e1_ok {D : List Int} (h : Dr D) : Good (SD D) (e1 D) ∧ dep (e1 D) ≤ 6 ∧ valid (e1 D) = !wr D := by
  obtain ⟨g, hd, hv⟩ := e0_ok h
  obtain ⟨bg, bd, bv⟩ := bad_ok h
  unfold e1 wr
  cases hw : wr0 D with
  | false => exact ⟨g, Nat.le_trans hd (by decide), hv⟩
  | true =>
    rw [if_pos rfl, if_pos rfl, ← bv]
    generalize bad D (e0 D) = b at bg bd bv
    generalize e0 D = e at g hd hv
    unfold wrap
    have hi : at_ D 5 % 5 = 0 ∨ at_ D 5 % 5 = 1 ∨ at_ D 5 % 5 = 2 ∨ at_ D 5 % 5 = 3 ∨ at_ D 5 % 5 = 4 := by omega
    generalize at_ D 5 % 5 = i at hi
    rcases hi with rfl | rfl | rfl | rfl | rfl
    · exact ⟨bg, Nat.le_succ_of_le bd, rfl⟩
    · refine ⟨⟨by unfold Free; decide +kernel, bg, g⟩, by show 1 + max (dep b) (dep e) ≤ 6; omega, ?_⟩
      show (kindOk "add" && (valid b && (valid e && true))) = valid b
      rw [hv, show kindOk "add" = true by decide +kernel]
      simp
    · refine ⟨⟨by unfold Free; decide +kernel, g, g, bg⟩, by show 1 + max (dep e) (max (dep e) (dep b)) ≤ 6; omega, ?_⟩
      show (kindOk "pick" && (valid e && (valid e && (valid b && true)))) = valid b
      rw [hv, show kindOk "pick" = true by decide +kernel]
      simp
    · refine ⟨⟨bg, by decide⟩, by show 1 + dep b ≤ 6; omega, ?_⟩
      show (([0] : List Int).all numOk && (valid b && true)) = valid b
      rw [show ([0] : List Int).all numOk = true by decide +kernel]
      simp
    · refine ⟨⟨by unfold Free; decide +kernel, g, bg⟩, by show 1 + max (dep e) (dep b) ≤ 6; omega, ?_⟩
      show (kindOk "less" && (valid e && (valid b && true))) = valid b
      rw [hv, show kindOk "less" = true by decide +kernel]
      simp
theorem gSt_ok {D : List Int} (h : Dr D) : ∀ n : Nat, n ≤ 30 → Good (SD D) (gSt D n) ∧ dep (gSt D n) ≤ 6 + n ∧ valid (gSt D n) = !wr D
  | 0, _ => e1_ok h
  | n + 1, hn => by
    obtain ⟨g, hd, hv⟩ := gSt_ok h n (by omega)
    rw [gSt_succ]
    generalize gSt D n = e at g hd hv
    unfold grow
    split
    · split
      · refine ⟨⟨g, by decide⟩, by show 1 + dep e ≤ 6 + (n + 1); omega, ?_⟩
        show (([1, -1] : List Int).all numOk && (valid e && true)) = _
        rw [show ([1, -1] : List Int).all numOk = true by decide +kernel, hv]
        simp
      · refine ⟨⟨by unfold Free; decide +kernel, trivial, g⟩, by show 1 + max 1 (dep e) ≤ 6 + (n + 1); omega, ?_⟩
        show (kindOk "sub" && (numOk n && (valid e && true))) = _
        rw [show kindOk "sub" = true by decide +kernel, hv, show numOk n = true by unfold numOk; rw [decide_eq_true (by omega), decide_eq_true (by omega)]; rfl]
        simp
    · exact ⟨g, by omega, hv⟩
/-! ### the paths in it -/
def paths : Exp → List Str
  | .path p => [p]
  | .num _ => []
  | .two _ a b => paths a ++ paths b
  | .three _ a b c => paths a ++ (paths b ++ paths c)
  | .shift a _ => paths a
theorem paths_in {S : List Str} : ∀ {e : Exp}, Good S e → ∀ x ∈ paths e, x ∈ S
  | .path p, h, x, hx => by
    rw [List.mem_singleton.mp hx]
    exact h
  | .num _, _, x, hx => absurd hx List.not_mem_nil
  | .two _ a b, h, x, hx => (List.mem_append.mp hx).elim (paths_in h.2.1 x) (paths_in h.2.2 x)
  | .three _ a b c, h, x, hx => (List.mem_append.mp hx).elim (paths_in h.2.1 x) fun hx => (List.mem_append.mp hx).elim (paths_in h.2.2.1 x) (paths_in h.2.2.2 x)
  | .shift a _, h, x, hx => paths_in h.1 x hx
def noPath : Exp → Bool | .path _ => false | _ => true
theorem paths_parts {e : Exp} (h : noPath e = true) (x : Str) : x ∈ paths e ↔ ∃ p ∈ parts e, x ∈ paths p := by
  cases e <;> simp_all [paths, parts, noPath]
theorem canon_few {S : List Str} (hS : OkS S) {ys : List Str} {e : Exp} (g : Good S e) (h : Canon ys (paths e)) : ys.length ≤ 20 :=
  Nat.le_trans (nodup_le h.1.nodup fun x hx => paths_in g x ((h.2 x).mp hx)) hS.few
def collK (ks : List Str) : Exp → List Str
  | .path p => addK ks p
  | .num _ => ks
  | .two _ a b => collK (collK ks a) b
  | .three _ a b c => collK (collK (collK ks a) b) c
  | .shift a _ => collK ks a
structure Ks (S ks : List Str) : Prop where
  nd : ks.Nodup
  sub : ∀ x ∈ ks, x ∈ S
theorem addK_ok {S ks : List Str} (h : Ks S ks) {p : Str} (hp : p ∈ S) : Ks S (addK ks p) ∧ ∀ x, x ∈ addK ks p ↔ x ∈ ks ∨ x = p := by
  unfold addK
  by_cases hm : p ∈ ks
  · rw [if_pos hm]
    exact ⟨h, fun x => ⟨Or.inl, fun z => z.elim id fun e => e ▸ hm⟩⟩
  · rw [if_neg hm]
    refine ⟨⟨List.nodup_append.mpr ⟨h.nd, List.pairwise_singleton _ _, fun a ha b hb e => hm ?_⟩, fun x hx => (List.mem_append.mp hx).elim (h.sub x) fun z => by rw [List.mem_singleton.mp z]; exact hp⟩, fun x => by rw [List.mem_append, List.mem_singleton]⟩
    rw [← List.mem_singleton.mp hb, ← e]
    exact ha
theorem collK_ok {S : List Str} : ∀ {e : Exp} {ks : List Str}, Good S e → Ks S ks → Ks S (collK ks e) ∧ ∀ x, x ∈ collK ks e ↔ x ∈ ks ∨ x ∈ paths e
  | .path p, ks, g, h => by
    obtain ⟨h1, h2⟩ := addK_ok h (show p ∈ S from g)
    exact ⟨h1, fun x => by rw [show paths (.path p) = [p] from rfl, List.mem_singleton]; exact h2 x⟩
  | .num _, ks, g, h => ⟨h, fun x => by simp [collK, paths]⟩
  | .two _ a b, ks, g, h => by
    obtain ⟨h1, h2⟩ := collK_ok g.2.1 h
    obtain ⟨h3, h4⟩ := collK_ok g.2.2 h1
    exact ⟨h3, fun x => by
      show x ∈ collK (collK ks a) b ↔ _
      rw [h4 x, h2 x, show paths (.two _ a b) = paths a ++ paths b from rfl, List.mem_append, or_assoc]⟩
  | .three _ a b c, ks, g, h => by
    obtain ⟨h1, h2⟩ := collK_ok g.2.1 h
    obtain ⟨h3, h4⟩ := collK_ok g.2.2.1 h1
    obtain ⟨h5, h6⟩ := collK_ok g.2.2.2 h3
    exact ⟨h5, fun x => by
      show x ∈ collK (collK (collK ks a) b) c ↔ _
      rw [h6 x, h4 x, h2 x, show paths (.three _ a b c) = paths a ++ (paths b ++ paths c) from rfl, List.mem_append, List.mem_append, or_assoc, or_assoc]⟩
  | .shift a _, ks, g, h => show Ks S (collK ks a) ∧ ∀ x, x ∈ collK ks a ↔ x ∈ ks ∨ x ∈ paths a from collK_ok g.1 h
theorem collK_parts {e : Exp} (h : noPath e = true) (ks : List Str) : collK ks e = (parts e).foldl collK ks := by cases e <;> first | rfl | cases h
theorem Ks.few {S ks : List Str} (hS : OkS S) (h : Ks S ks) : ks.length ≤ 20 := Nat.le_trans (nodup_le h.nd h.sub) hS.few
end T94

set_option maxHeartbeats 1000000
/-! the promises -/
namespace T94
open PySem PySem.Spec PyProof.Rows L2 T9 TL
abbrev lints (D : List Int) : PyData := .list (D.map .int)
abbrev txts (D : List Str) : PyData := .list (D.map .str)
abbrev RR := List PyData → Res → Prop
def R_is_integer : RR := fun ds r => ∃ i : Int, ds = [.int i] ∧ r = .d (.bool (numOk i))
def R_has_valid_names (n : Nat) : RR := fun ds r => ∃ S e, OkS S ∧ Good S e ∧ dep e ≤ n ∧ ds = [enc e] ∧ r = .d (.bool (valid e))
def R_is_expression : RR := fun ds r => ∃ S e, OkS S ∧ Good S e ∧ dep e ≤ 40 ∧ ds = [enc e] ∧ r = .d (.bool (valid e && decide ((dep e : Int) ≤ 12)))
def R_paths (n : Nat) : RR := fun ds r => ∃ S e ys, OkS S ∧ Good S e ∧ dep e ≤ n ∧ Canon ys (paths e) ∧ ds = [enc e] ∧ r = .n (.lst (ys.map .str))
def R_cell : RR := fun ds r => ∃ (sc : List Int) (k : Nat), ds = [lints sc, .int k] ∧ r = .d (.int (cell sc k))
def R_draws : RR := fun ds r => ∃ c : Int, ds = [.int c, .int 16] ∧ r = .n (.lst ((dSt c 16).1.map .int))
def R_is_int : RR := fun ds r => ∃ i : Int, ds = [.int i] ∧ r = .d (.bool true)
def R_is_bool : RR := fun ds r => ∃ a b : Bool, ds = [.bool a, .bool b] ∧ r = .d (.bool (decide (a = b)))
def R_is_text : RR := fun ds r => ∃ x y : Str, ds = [.str x, .str y] ∧ r = .d (.bool (decide (x = y)))
def R_is_number : RR := fun ds r => ∃ i j : Int, ds = [.int i, .int j] ∧ r = .d (.bool (decide (i = j)))
def R_is_texts : RR := fun ds r => ∃ ys : List Str, ys.length ≤ 1000 ∧ ds = [txts ys, txts ys, .str "list"] ∧ r = .d (.bool true)
def R_stream : RR := fun ds r => ∃ sc : List Int, ds = [lints sc, .int 48] ∧ r = .n (.lst ((draws sc).map .int))
def R_signs : RR := fun ds r => ds = [] ∧ r = .d (.str sg)
def R_letters : RR := fun ds r => ds = [] ∧ r = .d (.str letters)
def R_name : RR := fun ds r => ∃ (D : List Int) (a : Int), Dr D ∧ ds = [lints D, .int a] ∧ r = .d (.str (lname D a))
def R_wild : RR := fun ds r => ∃ (D : List Int) (a : Int), Dr D ∧ ds = [lints D, .int a] ∧ r = .d (.str (wild D a))
def R_expr (n : Nat) : RR := fun ds r => ∃ (D : List Int) (a : Int) (d : Nat), Dr D ∧ d < n ∧ ds = [lints D, .int a, .int d, .int 2] ∧ r = .d (enc (expr D d a))
def R_distinct : RR := fun ds r => ∃ ys rows, rows.length < 64 ∧ (∀ x ∈ rows, PyData.strOk x = true) ∧ Canon ys rows ∧ ds = [txts rows] ∧ r = .n (.lst (ys.map .str))
def R_law : RR := fun ds r => ∃ sc : List Int, ds = [lints sc] ∧ r = .d (.bool true)
def spColl (K : PySem.W.Frag) (n : Nat) : Sp := fun vs H Q _ => ∃ S e ks v a, OkS S ∧ Good S e ∧ dep e ≤ n ∧ Ks S ks ∧ vs = [v, V.ref a] ∧ Dp K H v (enc e) ∧ H a = some (.dK (kvT ks)) ∧
  ∀ H', (∀ b o, b ≠ a → H b = some o → H' b = some o) → H' a = some (.dK (kvT (collK ks e))) → Q .non H'
/-! ### rules for the draws -/
section
variable {K : PySem.W.Frag} {D : List Int}
theorem ad_lenD (h : Dr D) : AD K (rLen K) [lints D] (.int 48) := by
  have z : AD K (rLen K) [lints D] (.int ((D.map PyData.int).length : Int)) := ad_lenL
  rwa [List.length_map, h.len] at z
theorem ad_lenM {α : Type} {f : α → PyData} {xs : List α} : AD K (rLen K) [.list (xs.map f)] (.int (xs.length : Int)) := by
  have z : AD K (rLen K) [.list (xs.map f)] (.int ((xs.map f).length : Int)) := ad_lenL
  rwa [List.length_map] at z
theorem rd_D (h : Dr D) {i : Int} : RD K (rIx K) (lints D) (.int (i % 48)) (.int (at_ D i)) := rd_ixL (at_get h i)
theorem rd_D0 (h : Dr D) {i : Int} (hi : i % 48 = i) : RD K (rIx K) (lints D) (.int i) (.int (at_ D i)) := rd_ixL (at_get0 h hi)
theorem rd_M {α : Type} {f : α → PyData} {xs : List α} {i : Int} (d : α) (h0 : 0 ≤ i) (h1 : i < xs.length) : RD K (rIx K) (.list (xs.map f)) (.int i) (f (nth xs i d)) := rd_ixL (nth_get h0 h1)
theorem rd_C {z : Str} {i : Int} (h0 : 0 ≤ i) (h1 : i < z.cps.toList.length) (hz : z.length ≤ 100000) : RD K (rIx K) (.str z) (.int i) (.str ⟨#[nthC z i]⟩) := rd_ixS hz (nthC_get h0 h1)
end
end T94

set_option maxHeartbeats 2000000
/-! what the bodies do -/
namespace T94
open PySem PySem.Spec PyProof.Rows L2 T9
local macro_rules | `(tactic| walk_at "side") => `(tactic| first | assumption | omega | decide | rfl)
local macro_rules | `(tactic| walk_at "rd") => `(tactic| first
  | exact rd_D (by assumption) | exact rd_D0 (by assumption) rfl
  | exact rd_addI | exact rd_subI | exact rd_eqS | exact rd_eqI | exact rd_neS | exact rd_neI | exact rd_ltI | exact rd_leI | exact rd_gtI | exact rd_geI | exact rd_ltS
  | exact rd_inC | exact rd_ninC | exact rd_inT | exact rd_ninT | exact rd_ninTI
  | exact rd_ixT rfl | exact rd_ixL rfl | exact rd_ixL (by assumption) | exact rd_ixT (by assumption)
  | exact rd_mod (by walk_at "side") | exact rd_div ⟨by walk_at "side", by walk_at "side"⟩
  | exact rd_mulI (Or.inl ⟨by decide, by decide⟩) | exact rd_mulI (Or.inr ⟨by decide, by decide⟩) | exact rd_mulI (Or.inl ⟨by omega, by omega⟩)
  | exact rd_pow ⟨by decide, by decide, by decide⟩
  | exact rd_addS (by walk_at "side"))
local macro_rules | `(tactic| walk_at "ad") => `(tactic| first
  | exact ad_lenD (by assumption) | exact ad_lenM | exact ad_lenL | exact ad_lenT | exact ad_lenS (by walk_at "side") | exact ad_int | exact ad_intB | exact ad_tupleL | assumption)
local macro_rules | `(tactic| walk_at "ev") => `(tactic| first
  | exact ec_int | exact ec_str | exact ec_bl | exact ec_non
  | exact ec_var rfl | exact ec_varL rfl | exact es_var rfl | exact el_var rfl
  | assumption
  | exact ea_nil | (apply ea_cons; walk_at "ev"; walk_at "ev")
  | (apply ec_op; walk_at "ev"; walk_at "ev"; walk_at "rd")
  | (apply ec_un; walk_at "ev"; exact ud_neg)
  | (apply ec_cb; walk_at "ev"; walk_at "ad")
  | (apply ec_chain; walk_at "ev"; walk_at "ev"; walk_at "rd"; walk_at "ev"; walk_at "rd")
  | exact ecl_of (el_of (by assumption)) | exact el_of (by assumption)
  | (apply ec_call; walk_at "ev"; walk_at "call")
  | (apply ec_tup; walk_at "ev"; (simp; done))
  | (apply et_test; walk_at "ev") | (apply et_B; walk_at "ev") | (apply et_not; walk_at "ev")
  | (apply et_and; walk_at "ev"; (intro _; walk_at "ev")) | (apply et_or; walk_at "ev"; (intro _; walk_at "ev"))
  | (apply ec_and; walk_at "ev"; (intro _; walk_at "ev")) | (apply ec_or; walk_at "ev"; (intro _; walk_at "ev")) | (apply ec_not; walk_at "ev")
  | exact eo_none | (apply eo_some; walk_at "ev"))
local macro_rules | `(tactic| walk_at "call") => `(tactic| first
  | assumption | exact r_is_name (by walk_at "side") | exact r_is_path (by walk_at "side")
  | exact ⟨rfl, rfl⟩ | exact ⟨_, rfl, rfl⟩ | exact ⟨_, _, rfl, rfl⟩ | exact ⟨_, _, (by assumption), rfl, rfl⟩)
section
variable {K : PySem.W.Frag}
abbrev Po0 (r : Res) : Po := { nx := fun _ => r = .d .none, rt := fun s => IsRes s r }
theorem p_is_name : ∀ ds r, R_is_name ds r → StF K (t_is_name K) (startF 2 ds) (Po0 r) := by
  rintro ds r ⟨z, hz, rfl, rfl⟩
  refine sf_ret (es_of (d := .bool (nameOk z)) (ec_and ?_ fun _ => ?_) rfl) rfl
  · walk_at "ev"
  · have hc : EvN K [some (.im (.str z)), none] (tLc (iStr (tVar 0)) (gName 1) tYes (tOp (rInU K) (tVar 1) (tC (.str letters))) [1]) (.lst (z.cps.toList.map fun c => .bool (decide (c ∈ letters.cps.toList)))) := by
      refine en_lcM (f := fun c => .str ⟨#[c]⟩) (xs := z.cps.toList) _ (ew_of (ei_str (ec_var rfl))) (by rw [Array.length_toList]; exact Nat.lt_of_le_of_lt hz (by decide)) fun c _ => ⟨_, putc_name (by decide) (lt_rfl rfl) rfl, ?_, rfl⟩
      walk_at "ev"
    exact ec_cb (ea_cons (ecl_of (el_of hc)) ea_nil) ad_allM
theorem p_is_path : ∀ ds r, R_is_path ds r → StF K (t_is_path K (spF K R_is_name)) (startF 3 ds) (Po0 r) := by
  rintro ds r ⟨z, hz, rfl, rfl⟩
  refine sq_ret (b := decide (z = "")) (by walk_at "ev") (fun e => sf_ret (es_of (d := .bool true) ec_bl rfl) ?_) fun e => ?_
  · show (PyData.bool true) = .bool (pathOk z)
    unfold pathOk
    rw [e]
    rfl
  · refine sq_asgN (en_split (ec_var rfl) ec_str rfl (Nat.le_trans hz (by decide))) fun a => ?_
    refine sf_ret (es_of (d := .bool (decide (((Txt.split z slash).length : Int) ≤ 6) && (Txt.split z slash).all nameOk)) (ec_and (by walk_at "ev") fun _ => ?_) rfl) ?_
    · refine ec_cb (ea_cons (ecl_of (el_of (en_lcM (f := PyData.str) (xs := Txt.split z slash) (fun p => .bool (nameOk p)) (ew_list (ec_varL rfl)) ?_ fun p hp => ⟨_, putc_name (by decide) (lt_rfl rfl) rfl, ?_, rfl⟩))) ea_nil) ad_allM
      · exact Nat.lt_of_le_of_lt (split_few z) (by omega)
      · have := split_le z p hp
        exact ec_call (ea_cons (ec_var rfl) ea_nil) (r_is_name (by omega))
    · show (PyData.bool _) = .bool (pathOk z)
      unfold pathOk
      rw [e, Bool.false_or]
theorem p_is_integer : ∀ ds r, R_is_integer ds r → StF K (t_is_integer K) (startF 1 ds) (Po0 r) := by
  rintro ds r ⟨i, rfl, rfl⟩
  exact sf_ret (es_of (by walk_at "ev") rfl) rfl
theorem p_law_letters : ∀ ds r, R_letters ds r → StF K (t__law_letters K) (startF 0 ds) (Po0 r) := by
  rintro ds r ⟨rfl, rfl⟩
  exact sf_ret (es_of ec_str rfl) rfl
theorem p_law_signs : ∀ ds r, R_signs ds r → StF K (t__law_signs K) (startF 0 ds) (Po0 r) := by
  rintro ds r ⟨rfl, rfl⟩
  exact sf_ret (es_of ec_str rfl) rfl
theorem p_law_is_int : ∀ ds r, R_is_int ds r → StF K (t__law_is_int K) (startF 1 ds) (Po0 r) := by
  rintro ds r ⟨i, rfl, rfl⟩
  exact sf_ret (es_of (d := .bool (true && !false)) (ec_and (ec_isi (ec_var rfl) rfl) fun _ => ec_not (ec_isi (ec_var rfl) rfl)) rfl) rfl
theorem p_law_is_text : ∀ ds r, R_is_text ds r → StF K (t__law_is_text K) (startF 2 ds) (Po0 r) := by
  rintro ds r ⟨x, y, rfl, rfl⟩
  exact sf_ret (es_of (d := .bool (true && decide (x = y))) (ec_and (ec_isi (ec_var rfl) rfl) fun _ => by walk_at "ev") rfl) rfl
theorem p_law_is_number : ∀ ds r, R_is_number ds r → StF K (t__law_is_number K (spF K R_is_int)) (startF 2 ds) (Po0 r) := by
  rintro ds r ⟨x, y, rfl, rfl⟩
  exact sf_ret (es_of (d := .bool (true && decide (x = y))) (ec_and (ec_call (ea_cons (ec_var rfl) ea_nil) ⟨_, rfl, rfl⟩) fun _ => by walk_at "ev") rfl) rfl
theorem p_law_is_bool : ∀ ds r, R_is_bool ds r → StF K (t__law_is_bool K) (startF 2 ds) (Po0 r) := by
  rintro ds r ⟨x, y, rfl, rfl⟩
  refine sq_ret (b := y) (by walk_at "ev") (fun e => sf_ret (es_of (ec_isB (ec_var rfl)) rfl) ?_) fun e => sf_ret (es_of (ec_isB (ec_var rfl)) rfl) ?_
  · rw [e]; rfl
  · rw [e]; rfl
theorem p_law_cell : ∀ ds r, R_cell ds r → StF K (t__law_cell K) (startF 2 ds) (Po0 r) := by
  rintro ds r ⟨sc, k, rfl, rfl⟩
  refine sq_ret (b := decide ((k : Int) < (sc.length : Int))) (by walk_at "ev") (fun e => ?_) fun e => ?_
  · have h : k < sc.length := by have := of_decide_eq_true e; omega
    refine sf_ret (es_of (d := .int (cell sc k)) (ec_op (ec_var rfl) (ec_var rfl) (rd_ixL ?_)) rfl) rfl
    have z := nth_get (f := PyData.int) (xs := sc) (i := k) (d := 0) (by omega) (by omega)
    rw [z]
    unfold nth cell
    rw [dif_pos h, List.getD_eq_getElem?_getD, Int.toNat_natCast, List.getElem?_eq_getElem h]
    rfl
  · have h : ¬ k < sc.length := by have := of_decide_eq_false e; omega
    refine sf_ret (es_of (d := .int 0) ec_int rfl) ?_
    show PyData.int 0 = .int (cell sc k)
    unfold cell
    rw [dif_neg h]
theorem p_law_is_name_due : ∀ ds r, R_is_name ds r → StF K (t__law_is_name_due K (spF K R_letters)) (startF 2 ds) (Po0 r) := by
  rintro ds r ⟨z, hz, rfl, rfl⟩
  refine sq_ret (b := decide ((z.length : Int) < 1) || decide ((12 : Int) < z.length)) (by walk_at "ev") (fun e => sf_ret (es_of (d := .bool false) ec_bl rfl) ?_) fun e => ?_
  · show PyData.bool false = .bool (nameOk z)
    unfold nameOk
    rw [Bool.or_eq_true, decide_eq_true_eq, decide_eq_true_eq] at e
    rcases e with e | e
    · rw [decide_eq_false (show ¬ (1 : Int) ≤ z.length by omega)]; rfl
    · rw [decide_eq_false (show ¬ (z.length : Int) ≤ 12 by omega), Bool.and_false]; rfl
  · have hc : EvN K [some (.im (.str z)), none] (tLc (iStr (tVar 0)) (gName 1) (tTest (tOp (rNinU K) (tVar 1) (tCall (spF K R_letters) [] E0 tNil))) (tVar 1) [1]) (.lst ((z.cps.toList.filter fun c => !decide (c ∈ letters.cps.toList)).map fun c => .str ⟨#[c]⟩)) := by
      refine en_lcT (f := fun c => .str ⟨#[c]⟩) (xs := z.cps.toList) _ _ (ew_of (ei_str (ec_var rfl))) (by rw [Array.length_toList]; exact Nat.lt_of_le_of_lt hz (by decide)) fun c _ => ⟨_, putc_name (by decide) (lt_rfl rfl) rfl, ?_, fun _ => ⟨ec_var rfl, rfl⟩⟩
      exact et_test (ec_op (ec_var rfl) (ec_call ea_nil ⟨rfl, rfl⟩) rd_ninC)
    refine sf_ret (es_of (ec_op (ec_cb (ea_cons (ecl_of (el_of hc)) ea_nil) ad_lenM) ec_int rd_eqI) rfl) ?_
    show PyData.bool _ = .bool (nameOk z)
    unfold nameOk
    rw [Bool.or_eq_false_iff, decide_eq_false_iff_not, decide_eq_false_iff_not] at e
    rw [decide_eq_true (show (1 : Int) ≤ z.length by omega), decide_eq_true (show (z.length : Int) ≤ 12 by omega)]
    generalize z.cps.toList = l
    congr 1
    rw [Bool.eq_iff_iff]
    simp
theorem p_law_is_path_due : ∀ ds r, R_is_path ds r → StF K (t__law_is_path_due K (spF K R_is_name)) (startF 3 ds) (Po0 r) := by
  rintro ds r ⟨z, hz, rfl, rfl⟩
  refine sq_ret (b := decide (z = "")) (by walk_at "ev") (fun e => sf_ret (es_of (d := .bool true) ec_bl rfl) ?_) fun e => ?_
  · show (PyData.bool true) = .bool (pathOk z)
    unfold pathOk
    rw [e]
    rfl
  · refine sq_asgN (en_split (ec_var rfl) ec_str rfl (Nat.le_trans hz (by decide))) fun a => ?_
    refine sf_ret (es_of (d := .bool (decide (((Txt.split z slash).length : Int) ≤ 6) && decide ((((Txt.split z slash).filter fun p => !nameOk p).length : Int) = 0))) (ec_and (by walk_at "ev") fun _ => ?_) rfl) ?_
    · refine ec_op (ec_cb (ea_cons (ecl_of (el_of (en_lcT (f := PyData.str) (xs := Txt.split z slash) (fun p => !nameOk p) (fun p => .str p) (ew_list (ec_varL rfl)) ?_ fun p hp => ⟨_, putc_name (by decide) (lt_rfl rfl) rfl, ?_, fun _ => ⟨ec_var rfl, rfl⟩⟩))) ea_nil) ad_lenM) ec_int rd_eqI
      · exact Nat.lt_of_le_of_lt (split_few z) (by omega)
      · have := split_le z p hp
        exact et_not (et_B (ec_call (ea_cons (ec_var rfl) ea_nil) (r_is_name (by omega))))
    · show (PyData.bool _) = .bool (pathOk z)
      unfold pathOk
      rw [e, Bool.false_or]
      congr 2
      rw [Bool.eq_iff_iff, decide_eq_true_eq, List.all_eq_true]
      have hh : ((Txt.split z slash).filter fun p => !nameOk p).length = 0 ↔ ∀ c ∈ Txt.split z slash, nameOk c = true := by
        rw [List.length_eq_zero_iff, List.filter_eq_nil_iff]
        simp
      constructor
      · intro h
        exact hh.mp (by omega)
      · intro h
        have := hh.mpr h
        omega
end
end T94

set_option maxHeartbeats 2000000
namespace T94
open PySem PySem.Spec PyProof.Rows L2 T9
local macro_rules | `(tactic| walk_at "side") => `(tactic| first | assumption | omega | decide | rfl)
local macro_rules | `(tactic| walk_at "rd") => `(tactic| first
  | exact rd_D (by assumption) | exact rd_D0 (by assumption) rfl
  | exact rd_addI | exact rd_subI | exact rd_eqS | exact rd_eqI | exact rd_neS | exact rd_neI | exact rd_ltI | exact rd_leI | exact rd_gtI | exact rd_geI | exact rd_ltS
  | exact rd_inC | exact rd_ninC | exact rd_inT | exact rd_ninT | exact rd_ninTI
  | exact rd_ixT rfl | exact rd_ixL rfl | exact rd_ixL (by assumption) | exact rd_ixT (by assumption)
  | exact rd_mod (by walk_at "side") | exact rd_div ⟨by walk_at "side", by walk_at "side"⟩
  | exact rd_mulI (Or.inl ⟨by decide, by decide⟩) | exact rd_mulI (Or.inr ⟨by decide, by decide⟩) | exact rd_mulI (Or.inl ⟨by omega, by omega⟩)
  | exact rd_pow ⟨by decide, by decide, by decide⟩
  | exact rd_addS (by walk_at "side"))
local macro_rules | `(tactic| walk_at "ad") => `(tactic| first
  | exact ad_lenD (by assumption) | exact ad_lenM | exact ad_lenL | exact ad_lenT | exact ad_lenS (by walk_at "side") | exact ad_int | exact ad_intB | exact ad_tupleL | assumption)
local macro_rules | `(tactic| walk_at "ev") => `(tactic| first
  | exact ec_int | exact ec_str | exact ec_bl | exact ec_non
  | exact ec_var rfl | exact ec_varL rfl | exact es_var rfl | exact el_var rfl
  | assumption
  | exact ea_nil | (apply ea_cons; walk_at "ev"; walk_at "ev")
  | (apply ec_op; walk_at "ev"; walk_at "ev"; walk_at "rd")
  | (apply ec_un; walk_at "ev"; exact ud_neg)
  | (apply ec_cb; walk_at "ev"; walk_at "ad")
  | (apply ec_chain; walk_at "ev"; walk_at "ev"; walk_at "rd"; walk_at "ev"; walk_at "rd")
  | exact ecl_of (el_of (by assumption)) | exact el_of (by assumption)
  | (apply ec_call; walk_at "ev"; walk_at "call")
  | (apply ec_tup; walk_at "ev"; (simp; done))
  | (apply et_test; walk_at "ev") | (apply et_B; walk_at "ev") | (apply et_not; walk_at "ev")
  | (apply et_and; walk_at "ev"; (intro _; walk_at "ev")) | (apply et_or; walk_at "ev"; (intro _; walk_at "ev"))
  | (apply ec_and; walk_at "ev"; (intro _; walk_at "ev")) | (apply ec_or; walk_at "ev"; (intro _; walk_at "ev")) | (apply ec_not; walk_at "ev")
  | exact eo_none | (apply eo_some; walk_at "ev"))
local macro_rules | `(tactic| walk_at "call") => `(tactic| first
  | assumption | exact r_is_name (by walk_at "side") | exact r_is_path (by walk_at "side")
  | exact ⟨rfl, rfl⟩ | exact ⟨_, rfl, rfl⟩ | exact ⟨_, _, rfl, rfl⟩ | exact ⟨_, _, (by assumption), rfl, rfl⟩)
section
variable {K : PySem.W.Frag}
theorem p_law_draws : ∀ ds r, R_draws ds r → StF K (t__law_draws K) (startF 6 ds) (Po0 r) := by
  rintro ds r ⟨c, rfl, rfl⟩
  refine sq_asgN (o := .lst []) (en_lstD ea_nil (by decide) rfl) fun a => sq_asg (es_var rfl) ?_
  refine sf_seq (M := fun f => Le f [some (.im (.int c)), some (.im (.int 16)), some (.ob a (.lst ((dSt c 16).1.map .int))), some (.im (.int (dSt c 16).2)), none, none])
    (sf_for (fun i f => Le f [some (.im (.int c)), some (.im (.int 16)), some (.ob a (.lst ((dSt c i).1.map .int))), some (.im (.int (dSt c i).2)), none, none])
      (ei_rng (n := 16) (ea_cons (ec_var rfl) ea_nil) rfl (by decide) (by decide)) (Le.refl _) (fun i d f hd hf => ?_) fun f hf => ?_) fun f hf => sf_le (sf_retv (i := 2) (s := .ob a (.lst ((dSt c 16).1.map .int))) rfl rfl) hf
  · obtain ⟨hi, rfl⟩ := range_at hd
    refine ⟨_, put_le hf (lt_rfl rfl) rfl, sf_le ?_ (hf.set 4 _)⟩
    have hl : ((dSt c i).1.map PyData.int).length < 100000 := by
      rw [List.length_map, (dSt_ok c i).1]
      omega
    refine sf_if (by walk_at "ev") (fun e => ?_) fun e => ?_
    · have e1 : dSt c (i + 1) = ((dSt c i).1 ++ [(dSt c i).2 % 4096], (dSt c i).2 / 4096) := by
        rw [dSt_succ]
        exact if_pos e
      refine sq_app rfl (d := .int ((dSt c i).2 % 4096)) (by walk_at "ev") rfl hl (sf_asg (d := .int ((dSt c i).2 / 4096)) (es_of (by walk_at "ev") rfl) (lt_rfl rfl) ?_)
      show Le _ [some (.im (.int c)), some (.im (.int 16)), some (.ob a (.lst ((dSt c (i + 1)).1.map .int))), some (.im (.int (dSt c (i + 1)).2)), none, none]
      rw [e1, List.map_append]
      exact .cons (.cons (.cons (.cons (.drop (.cons .nil)))))
    · have e1 : dSt c (i + 1) = ((dSt c i).1 ++ [dMix c i / 7 % 4096], (dSt c i).2) := by
        rw [dSt_succ]
        exact if_neg (by rw [show (decide ((10 : Int) ^ 18 ≤ c) && decide (0 < (dSt c i).2)) = false from e]; exact Bool.false_ne_true)
      refine sq_asg (es_of (by walk_at "ev") rfl) (sq_asg (es_of (by walk_at "ev") rfl) (sq_asg (es_of (by walk_at "ev") rfl) (sf_app rfl (d := .int (dMix c i / 7 % 4096)) (by walk_at "ev") rfl hl ?_)))
      show Le _ [some (.im (.int c)), some (.im (.int 16)), some (.ob a (.lst ((dSt c (i + 1)).1.map .int))), some (.im (.int (dSt c (i + 1)).2)), none, none]
      rw [e1, List.map_append]
      exact .cons (.cons (.cons (.cons (.drop (.drop .nil)))))
  · rw [List.length_map, List.length_range] at hf
    exact hf
theorem p_law_stream : ∀ ds r, R_stream ds r → StF K (t__law_stream K (spF K R_draws) (spF K R_cell)) (startF 4 ds) (Po0 r) := by
  rintro ds r ⟨sc, rfl, rfl⟩
  refine sq_asgN (o := .lst []) (en_lstD ea_nil (by decide) rfl) fun a => ?_
  refine sf_seq (M := fun f => ∃ a, Le f [some (.im (lints sc)), some (.im (.int 48)), some (.ob a (.lst ((sSt sc 4).map .int))), none])
    (sf_for (fun i f => ∃ a, Le f [some (.im (lints sc)), some (.im (.int 48)), some (.ob a (.lst ((sSt sc i).map .int))), none])
      (ei_rng (n := 4) (ea_cons (d := .int (1 + 48 / 16)) (by walk_at "ev") ea_nil) rfl (by decide) (by decide)) ⟨a, Le.refl _⟩ (fun i d f hd hf => ?_) fun f hf => ?_) fun f hf => ?_
  · obtain ⟨hi, rfl⟩ := range_at hd
    obtain ⟨a, hf⟩ := hf
    refine ⟨_, put_le hf (lt_rfl rfl) rfl, sf_le ?_ (hf.set 3 _)⟩
    have hs := (sSt_ok sc i).1
    have hd := (dSt_ok (cell sc i + 7 * (i : Int)) 16).1
    refine sf_asgN (o := .lst ((sSt sc i).map .int ++ (dSt (cell sc i + 7 * (i : Int)) 16).1.map .int)) (en_addL (el_var rfl) (el_of (en_call (R := R_draws) (ea_cons (ec_op (ec_call (R := R_cell) (ea_cons (ec_var rfl) (ea_cons (ec_var rfl) ea_nil)) ⟨sc, i, rfl, rfl⟩) (ec_op ec_int (ec_var rfl) (rd_mulI (Or.inl ⟨by decide, by decide⟩))) rd_addI) (ea_cons ec_int ea_nil)) ⟨_, rfl, rfl⟩ (immAll_ints _))) ?_ ?_) (lt_rfl rfl) fun a' => ⟨a', ?_⟩
    · rw [← List.map_append]
      exact immAll_ints _
    · rw [List.length_map, List.length_map, hs, hd]
      omega
    · rw [sSt_succ, List.map_append]
      exact .cons (.cons (.cons (.drop .nil)))
  · rw [List.length_map, List.length_range] at hf
    exact hf
  · obtain ⟨a, hf⟩ := hf
    refine sf_le (sf_retN (o := .lst ((draws sc).map .int)) (en_lst (en_slL (ec_varL rfl) eo_none (eo_some (ec_var rfl)) (immAll_ints _)) ?_) fun _ => rfl) hf
    have hs := (sSt_ok sc 4).1
    unfold T9.cutD draws
    rw [List.length_map, hs]
    show (List.take 48 (List.drop 0 _)) = _
    rw [List.drop_zero, List.map_take]
theorem p_law_name : ∀ ds r, R_name ds r → StF K (t__law_name K (spF K R_letters)) (startF 4 ds) (Po0 r) := by
  rintro ds r ⟨D, a, hD, rfl, rfl⟩
  refine sq_asg (d := .str letters) (es_of (ec_call ea_nil ⟨rfl, rfl⟩) rfl) ?_
  have hn := at_lo hD a
  refine sf_ret (es_of (d := .str (lname D a)) (ec_join (x := "") (ys := (List.range (1 + at_ D a % 12).toNat).map fun k => ⟨#[nthC letters (at_ D (a + 1 + (k : Nat)) % 36)]⟩) ec_str ?_ ?_) rfl) rfl
  · rw [List.map_map]
    refine ecl_of (el_of (en_lcM (f := fun (k : Nat) => PyData.int k) (xs := List.range (1 + at_ D a % 12).toNat) (fun k => .str ⟨#[nthC letters (at_ D (a + 1 + (k : Nat)) % 36)]⟩) (ew_of (ei_rng (ea_cons (d := .int (1 + at_ D a % 12)) (by walk_at "ev") ea_nil) rfl (by omega) (by omega))) (by rw [List.length_range]; omega) fun k _ => ⟨_, putc_name (by decide) (lt_rfl rfl) rfl, ?_, rfl⟩))
    have hk := at_lo hD (a + 1 + (k : Nat))
    refine ec_op (ec_var rfl) (b := .int (at_ D (a + 1 + (k : Nat)) % 36)) (by walk_at "ev") (rd_C (by omega) (by rw [len_letters]; omega) (by decide +kernel))
  · have z := sum_le (B := 1) (ys := (List.range (1 + at_ D a % 12).toNat).map fun k => (⟨#[nthC letters (at_ D (a + 1 + (k : Nat)) % 36)]⟩ : Str)) fun y hy => by
      obtain ⟨k, _, rfl⟩ := List.mem_map.mp hy
      exact Nat.le_refl _
    rw [show (("" : Str).length) = 0 from rfl, Nat.mul_zero, Nat.add_zero]
    refine Nat.le_trans z ?_
    rw [List.length_map, List.length_range]
    omega
theorem ad_lenSg : AD K (rLen K) [.str sg] (.int 94) := by
  have z : AD K (rLen K) [.str sg] (.int (sg.length : Int)) := ad_lenS (by decide +kernel)
  rwa [show (sg.length : Int) = 94 by decide +kernel] at z
theorem p_law_wild : ∀ ds r, R_wild ds r → StF K (t__law_wild_path K (spF K R_signs) (spF K R_name)) (startF 9 ds) (Po0 r) := by
  rintro ds r ⟨D, a, hD, rfl, rfl⟩
  have hn := at_lo hD a
  have h2 := at_lo hD (a + 2)
  have h3 := at_lo hD (a + 3)
  have h4 := at_lo hD (a + 4)
  have hw := (wpath_ok D a).1
  refine sq_asgN (o := .lst ((wnames D a).map .str)) ?_ fun b => ?_
  · unfold wnames
    rw [List.map_map]
    refine en_lcM (f := fun (k : Nat) => PyData.int k) (xs := List.range (at_ D a % 8).toNat) (fun k => .str (lname D (a + 1 + 3 * (k : Nat)))) (ew_of (ei_rng (ea_cons (d := .int (at_ D a % 8)) (by walk_at "ev") ea_nil) rfl (by omega) (by omega))) (by rw [List.length_range]; omega) fun k _ => ⟨_, putc_name (by decide) (lt_rfl rfl) rfl, ?_, rfl⟩
    exact ec_call (R := R_name) (ea_cons (ec_var rfl) (ea_cons (d := .int (a + 1 + 3 * (k : Nat))) (by walk_at "ev") ea_nil)) ⟨_, _, hD, rfl, rfl⟩
  have hl : (wnames D a).length ≤ 7 := by
    unfold wnames
    rw [List.length_map, List.length_range]
    omega
  refine sq_asg (d := .str (wpath D a)) (es_of (ec_join ec_str (ec_varL rfl) ?_) rfl) ?_
  · have z := sum_le (B := 12) (ys := wnames D a) fun y hy => by
      obtain ⟨k, _, rfl⟩ := List.mem_map.mp hy
      exact (lname_ok D _).1
    rw [show (("/" : Str).length) = 1 from rfl]
    omega
  refine sq_asg (d := .str sg) (es_of (ec_call ea_nil ⟨rfl, rfl⟩) rfl) ?_
  refine sq_asg (d := .int (at_ D (a + 2) % 8)) (es_of (by walk_at "ev") rfl) ?_
  refine sq_asg (d := .int (wplace D a)) (es_of (ec_op (b := .int ((wpath D a).length + 1)) (by walk_at "ev") (ec_op (ec_cb (ea_cons (ec_var rfl) ea_nil) (ad_lenS (by omega))) ec_int rd_addI) (rd_mod (by omega))) rfl) ?_
  refine sq_asg (d := .str (wsign D a)) (es_of (ec_op (ec_var rfl) (b := .int (at_ D (a + 4) % 94)) (ec_op (by walk_at "ev") (ec_cb (ea_cons (ec_var rfl) ea_nil) ad_lenSg) (rd_mod (by decide))) (rd_C (by omega) (by rw [len_sg]; omega) (by decide +kernel))) rfl) ?_
  have c (lo hi) : (cutS (wpath D a) lo hi).length ≤ 91 := Nat.le_trans (cutS_length _ _ _) hw
  have s1 : (wsign D a).length = 1 := rfl
  have s3 : ("/" : Str).length = 1 := rfl
  have c1 := c none (some (wplace D a))
  have c2 := c (some (wplace D a)) none
  have c3 := c (some (wplace D a + 1)) none
  refine sq_ret (by walk_at "ev") (fun e => sf_ret (es_of (d := .str (wild D a)) ?_ rfl) rfl) fun e0 => ?_
  · have e := of_decide_eq_true e
    unfold wild
    rw [if_pos e]
    exact ec_op (ec_op (ec_slS (ec_var rfl) eo_none (eo_some (ec_var rfl)) (by omega)) (ec_var rfl) (rd_addS (by omega))) (ec_slS (ec_var rfl) (eo_some (ec_var rfl)) eo_none (by omega)) (rd_addS (by rw [len_app]; omega))
  have e0 := of_decide_eq_false e0
  refine sq_ret (by walk_at "ev") (fun e => sf_ret (es_of (d := .str (wild D a)) ?_ rfl) rfl) fun e1 => ?_
  · have e := of_decide_eq_true e
    unfold wild
    rw [if_neg e0, if_pos e]
    exact ec_op (ec_op (ec_slS (ec_var rfl) eo_none (eo_some (ec_var rfl)) (by omega)) (ec_var rfl) (rd_addS (by omega))) (ec_slS (ec_var rfl) (eo_some (by walk_at "ev")) eo_none (by omega)) (rd_addS (by rw [len_app]; omega))
  have e1 := of_decide_eq_false e1
  refine sq_ret (by walk_at "ev") (fun e => sf_ret (es_of (d := .str (wild D a)) ?_ rfl) rfl) fun e2 => ?_
  · have e := of_decide_eq_true e
    unfold wild
    rw [if_neg e0, if_neg e1, if_pos e]
    exact ec_op (ec_op (ec_slS (ec_var rfl) eo_none (eo_some (ec_var rfl)) (by omega)) ec_str (rd_addS (by omega))) (ec_slS (ec_var rfl) (eo_some (ec_var rfl)) eo_none (by omega)) (rd_addS (by rw [len_app]; omega))
  have e2 := of_decide_eq_false e2
  refine sq_ret (by walk_at "ev") (fun e => sf_ret (es_of (d := .str (wild D a)) ?_ rfl) rfl) fun e3 => ?_
  · have e := of_decide_eq_true e
    unfold wild
    rw [if_neg e0, if_neg e1, if_neg e2, if_pos e]
    exact ec_op (ec_slS (ec_var rfl) eo_none (eo_some (ec_var rfl)) (by omega)) (ec_slS (ec_var rfl) (eo_some (by walk_at "ev")) eo_none (by omega)) (rd_addS (by omega))
  have e3 := of_decide_eq_false e3
  refine sf_ret (es_of (d := .str (wild D a)) ?_ rfl) rfl
  unfold wild
  rw [if_neg e0, if_neg e1, if_neg e2, if_neg e3]
  exact ec_var rfl
end
end T94

set_option maxHeartbeats 2000000
namespace T94
open PySem PySem.Spec PyProof.Rows L2 T9
local macro_rules | `(tactic| walk_at "side") => `(tactic| first | assumption | omega | decide | rfl)
local macro_rules | `(tactic| walk_at "rd") => `(tactic| first
  | exact rd_D (by assumption) | exact rd_D0 (by assumption) rfl
  | exact rd_addI | exact rd_subI | exact rd_eqS | exact rd_eqI | exact rd_neS | exact rd_neI | exact rd_ltI | exact rd_leI | exact rd_gtI | exact rd_geI | exact rd_ltS
  | exact rd_inC | exact rd_ninC | exact rd_inT | exact rd_ninT | exact rd_ninTI
  | exact rd_ixT rfl | exact rd_ixL rfl | exact rd_ixL (by assumption) | exact rd_ixT (by assumption)
  | exact rd_mod (by walk_at "side") | exact rd_div ⟨by walk_at "side", by walk_at "side"⟩
  | exact rd_mulI (Or.inl ⟨by decide, by decide⟩) | exact rd_mulI (Or.inr ⟨by decide, by decide⟩) | exact rd_mulI (Or.inl ⟨by omega, by omega⟩)
  | exact rd_pow ⟨by decide, by decide, by decide⟩
  | exact rd_addS (by walk_at "side"))
local macro_rules | `(tactic| walk_at "ad") => `(tactic| first
  | exact ad_lenD (by assumption) | exact ad_lenM | exact ad_lenL | exact ad_lenT | exact ad_lenS (by walk_at "side") | exact ad_int | exact ad_intB | exact ad_tupleL | assumption)
local macro_rules | `(tactic| walk_at "ev") => `(tactic| first
  | exact ec_int | exact ec_str | exact ec_bl | exact ec_non
  | exact ec_var rfl | exact ec_varL rfl | exact es_var rfl | exact el_var rfl
  | assumption
  | exact ea_nil | (apply ea_cons; walk_at "ev"; walk_at "ev")
  | (apply ec_op; walk_at "ev"; walk_at "ev"; walk_at "rd")
  | (apply ec_un; walk_at "ev"; exact ud_neg)
  | (apply ec_cb; walk_at "ev"; walk_at "ad")
  | (apply ec_chain; walk_at "ev"; walk_at "ev"; walk_at "rd"; walk_at "ev"; walk_at "rd")
  | exact ecl_of (el_of (by assumption)) | exact el_of (by assumption)
  | (apply ec_call; walk_at "ev"; walk_at "call")
  | (apply ec_tup; walk_at "ev"; (simp; done))
  | (apply et_test; walk_at "ev") | (apply et_B; walk_at "ev") | (apply et_not; walk_at "ev")
  | (apply et_and; walk_at "ev"; (intro _; walk_at "ev")) | (apply et_or; walk_at "ev"; (intro _; walk_at "ev"))
  | (apply ec_and; walk_at "ev"; (intro _; walk_at "ev")) | (apply ec_or; walk_at "ev"; (intro _; walk_at "ev")) | (apply ec_not; walk_at "ev")
  | exact eo_none | (apply eo_some; walk_at "ev"))
local macro_rules | `(tactic| walk_at "call") => `(tactic| first
  | assumption | exact r_is_name (by walk_at "side") | exact r_is_path (by walk_at "side")
  | exact ⟨rfl, rfl⟩ | exact ⟨_, rfl, rfl⟩ | exact ⟨_, _, rfl, rfl⟩ | exact ⟨_, _, (by assumption), rfl, rfl⟩)
section
variable {K : PySem.W.Frag}
theorem p_law_expression (n : Nat) : ∀ ds r, R_expr (n + 1) ds r → StF K (t__law_expression K (spF K (R_expr n))) (startF 8 ds) (Po0 r) := by
  rintro ds r ⟨D, a, d, hD, hd, rfl, rfl⟩
  refine sq_asg (d := .int (draw D a)) (es_of (by walk_at "ev") rfl) ?_
  have leafE : ∀ fs : Fm, fs[4]? = some (some (.im (.int (draw D a)))) → StF K (tSeq (tIfS (tTest (tOp (rEqU K) (tOp rModU (tOp rDivU (tVar 4) (tC (.int 5))) (tC (.int 3))) (tC (.int 0)))) (tRet (tTup (tCons (tC (.str "number")) (tCons (tOp (rIx K) (tLst (tCons (tOp rSubU (tOp rModU (tOp rDivU (tVar 4) (tC (.int 15))) (tC (.int 9))) (tC (.int 4))) (tCons (tOp rSubU (tOp rPowU (tC (.int 10)) (tC (.int 29))) (tVar 4)) (tCons (tOp (rAddU K) (tUn rNegU (tOp rPowU (tC (.int 10)) (tC (.int 20)))) (tVar 4)) tNil)))) (tOp rModU (tOp rDivU (tVar 4) (tC (.int 135))) (tC (.int 3)))) tNil)))) tNext)
  (tRet (tTup (tCons (tC (.str "path")) (tCons (tOp (rIx K) (tLst (tCons (tC (.str "a")) (tCons (tC (.str "b")) (tCons (tC (.str "b/c")) tNil)))) (tOp rModU (tOp rDivU (tVar 4) (tC (.int 15))) (tC (.int 3)))) tNil))))) fs { nx := fun _ => False, rt := fun s => IsRes s (.d (enc (leaf (draw D a)))) } := fun fs hv => by
    have v4 : EvC K fs (tVar 4) (.int (draw D a)) := ec_var hv
    generalize draw D a = w at v4
    refine sq_ret (b := decide (w / 5 % 3 = 0)) (by walk_at "ev") (fun e => ?_) fun e => ?_
    · have e := of_decide_eq_true e
      refine sf_ret (es_of (d := .tuple [.str "number", .int (nth [w / 15 % 9 - 4, 100000000000000000000000000000 - w, -100000000000000000000 + w] (w / 135 % 3) 0)]) (ec_tup (ea_cons ec_str (ea_cons (ec_op (b := .int (w / 135 % 3)) (ec_lst (as := [w / 15 % 9 - 4, 100000000000000000000000000000 - w, -100000000000000000000 + w].map .int) ?_ (by simp)) (by walk_at "ev") (rd_M 0 (by omega) (by show w / 135 % 3 < ((3 : Nat) : Int); omega))) ea_nil)) (by simp)) rfl) ?_
      · exact ea_cons (by walk_at "ev") (ea_cons (ec_op (ec_op ec_int ec_int (rd_pow ⟨by decide, by decide, by decide⟩)) v4 rd_subI) (ea_cons (ec_op (ec_un (ec_op ec_int ec_int (rd_pow ⟨by decide, by decide, by decide⟩)) ud_neg) v4 rd_addI) ea_nil))
      · show PyData.tuple _ = enc (leaf w)
        unfold leaf
        rw [if_pos e]
        rfl
    · have e := of_decide_eq_false e
      refine sf_ret (es_of (d := .tuple [.str "path", .str (nth ["a", "b", "b/c"] (w / 15 % 3) "a")]) (ec_tup (ea_cons ec_str (ea_cons (ec_op (b := .int (w / 15 % 3)) (ec_lst (as := (["a", "b", "b/c"] : List Str).map .str) ?_ (by simp)) (by walk_at "ev") (rd_M (xs := (["a", "b", "b/c"] : List Str)) (i := w / 15 % 3) "a" (by omega) (by show w / 15 % 3 < ((3 : Nat) : Int); omega))) ea_nil)) (by simp)) rfl) ?_
      · exact ea_cons ec_str (ea_cons ec_str (ea_cons ec_str ea_nil))
      · show PyData.tuple _ = enc (leaf w)
        unfold leaf
        rw [if_neg e]
        rfl
  refine sq_ret (b := decide ((d : Int) = 0) || decide (draw D a % 5 = 0)) (by walk_at "ev") (fun e => ?_) fun e => ?_
  · have el : expr D d a = leaf (draw D a) := by
      rw [Bool.or_eq_true, decide_eq_true_eq, decide_eq_true_eq] at e
      match d with
      | 0 => rfl
      | d + 1 =>
        unfold expr
        rw [if_pos (e.resolve_left (by omega))]
    rw [el]
    exact leafE _ rfl
  · rw [Bool.or_eq_false_iff, decide_eq_false_iff_not, decide_eq_false_iff_not] at e
    obtain ⟨ed, ew⟩ := e
    obtain ⟨d, rfl⟩ : ∃ d', d = d' + 1 := ⟨d - 1, by omega⟩
    refine sq_asg (d := .int (draw D a / 5 % 9)) (es_of (by walk_at "ev") rfl) ?_
    refine sq_asgN (o := .lst [enc (expr D d (3 * a + 1 + 0)), enc (expr D d (3 * a + 1 + 1)), enc (expr D d (3 * a + 1 + 2))]) (en_lst (en_lcM (f := fun (k : Nat) => PyData.int k) (xs := List.range 3) (fun k => enc (expr D d (3 * a + 1 + (k : Nat)))) (ew_of (ei_rng (ea_cons ec_int ea_nil) rfl (by decide) (by decide))) (by decide) fun k _ => ⟨_, putc_name (by decide) (lt_rfl rfl) rfl, ?_, imm_enc _⟩) rfl) fun b => ?_
    · refine ec_call (R := R_expr n) (as := [lints D, .int (3 * a + 1 + (k : Nat)), .int (d : Nat), .int 2]) (ea_cons (ec_var rfl) (ea_cons (by walk_at "ev") (ea_cons (ec_eq (ec_op (ec_var rfl) ec_int rd_subI) ?_) (ea_cons (ec_var rfl) ea_nil)))) ⟨D, _, d, hD, by omega, rfl, rfl⟩
      exact congrArg PyData.int (by omega)
    refine sq_ret (b := decide (draw D a / 5 % 9 = 7)) (by walk_at "ev") (fun e => ?_) fun e7 => ?_
    · have e := of_decide_eq_true e
      refine sf_ret (es_of (d := .tuple [.str "pick", enc (expr D d (3 * a + 1 + 0)), enc (expr D d (3 * a + 1 + 1)), enc (expr D d (3 * a + 1 + 2))]) (ec_tup (ea_cons ec_str (ea_cons (ec_op (ec_varL rfl) ec_int (rd_ixL rfl)) (ea_cons (ec_op (ec_varL rfl) ec_int (rd_ixL rfl)) (ea_cons (ec_op (ec_varL rfl) ec_int (rd_ixL rfl)) ea_nil)))) (by simp)) (imm_enc (.three _ _ _ _))) ?_
      show PyData.tuple _ = enc (expr D (d + 1) a)
      rw [show expr D (d + 1) a = _ by unfold expr; rw [if_neg ew, if_pos e]]
      rfl
    have e7 := of_decide_eq_false e7
    refine sq_ret (b := decide (draw D a / 5 % 9 = 8)) (by walk_at "ev") (fun e => ?_) fun e8 => ?_
    · have e := of_decide_eq_true e
      refine sf_ret (es_of (d := .tuple [.str "shift", enc (expr D d (3 * a + 1 + 0)), .tuple ((offs D a).map .int)]) (ec_tup (ea_cons ec_str (ea_cons (ec_op (ec_varL rfl) ec_int (rd_ixL rfl)) (ea_cons ?_ ea_nil))) (by simp)) (imm_enc (.shift _ _))) ?_
      · unfold offs
        rw [List.map_map]
        refine ec_cb (ea_cons (ecl_of (el_of (en_lcM (f := fun (k : Nat) => PyData.int k) (xs := List.range 2) (fun k => .int (at_ D (a + 5 + (k : Nat)) % 5 - 2)) (ew_of (ei_rng (ea_cons (ec_var rfl) ea_nil) rfl (by decide) (by decide))) (by decide) fun k _ => ⟨_, putc_name (by decide) (lt_rfl rfl) rfl, ?_, rfl⟩))) ea_nil) ad_tupleL
        walk_at "ev"
      · show PyData.tuple _ = enc (expr D (d + 1) a)
        rw [show expr D (d + 1) a = _ by unfold expr; rw [if_neg ew, if_neg e7, if_pos e]]
        rfl
    have e8 := of_decide_eq_false e8
    refine sf_ret (es_of (d := .tuple [.str (nth kinds (draw D a / 5 % 9) "add"), enc (expr D d (3 * a + 1 + 0)), enc (expr D d (3 * a + 1 + 1))]) (ec_tup (ea_cons (ec_op (ec_lst (as := kinds.map .str) ?_ (by simp [kinds])) (ec_var rfl) (rd_M (xs := kinds) (i := draw D a / 5 % 9) "add" (by omega) (by show draw D a / 5 % 9 < ((7 : Nat) : Int); omega))) (ea_cons (ec_op (ec_varL rfl) ec_int (rd_ixL rfl)) (ea_cons (ec_op (ec_varL rfl) ec_int (rd_ixL rfl)) ea_nil))) (by simp)) (imm_enc (.two _ _ _))) ?_
    · exact ea_cons ec_str (ea_cons ec_str (ea_cons ec_str (ea_cons ec_str (ea_cons ec_str (ea_cons ec_str (ea_cons ec_str ea_nil))))))
    · show PyData.tuple _ = enc (expr D (d + 1) a)
      rw [show expr D (d + 1) a = _ by unfold expr; rw [if_neg ew, if_neg e7, if_neg e8]]
      rfl
theorem p_parts_of : ∀ ds r, R_parts ds r → StF K (t_parts_of K) (startF 2 ds) (Po0 r) := by
  rintro ds r ⟨S, e, h, rfl, rfl⟩
  cases e with
  | path p => exact sq_asg (d := .str "path") (es_of (ec_op (ec_var rfl) ec_int (rd_ixT rfl)) rfl) (sq_retT (et_eq (by walk_at "ev") (by decide +kernel)) (sf_retN (o := .lst []) (en_lstD ea_nil (by simp) rfl) fun _ => rfl))
  | num i => exact sq_asg (d := .str "number") (es_of (ec_op (ec_var rfl) ec_int (rd_ixT rfl)) rfl) (sq_retT (et_eq (by walk_at "ev") (by decide +kernel)) (sf_retN (o := .lst []) (en_lstD ea_nil (by simp) rfl) fun _ => rfl))
  | shift a o =>
    exact sq_asg (d := .str "shift") (es_of (ec_op (ec_var rfl) ec_int (rd_ixT rfl)) rfl) (sq_retF (et_eq (by walk_at "ev") (by decide +kernel)) (sq_retT (et_eq (by walk_at "ev") (by decide +kernel))
      (sf_retN (o := .lst [enc a]) (en_lstD (ea_cons (ec_op (ec_var rfl) ec_int (rd_ixT rfl)) ea_nil) (by simp) (immAll_mapM (xs := [a]) fun x _ => imm_enc x)) fun _ => rfl)))
  | two k a b =>
    obtain ⟨⟨h1, h2, h3⟩, _, _⟩ := h
    refine sq_asg (d := .str k) (es_of (ec_op (ec_var rfl) ec_int (rd_ixT rfl)) rfl) (sq_retF (et_eq (by walk_at "ev") (by rw [decide_eq_false h1, decide_eq_false h2]; rfl)) (sq_retF (et_eq (by walk_at "ev") (decide_eq_false h3)) ?_))
    exact sf_retN (o := .lst [enc a, enc b]) (en_cb (ea_cons (ec_slT (ds := [.str k, enc a, enc b]) (ec_var rfl) (eo_some ec_int) eo_none) ea_nil) al_listT (immAll_mapM (xs := [a, b]) fun x _ => imm_enc x)) fun _ => rfl
  | three k a b c =>
    obtain ⟨⟨h1, h2, h3⟩, _, _⟩ := h
    refine sq_asg (d := .str k) (es_of (ec_op (ec_var rfl) ec_int (rd_ixT rfl)) rfl) (sq_retF (et_eq (by walk_at "ev") (by rw [decide_eq_false h1, decide_eq_false h2]; rfl)) (sq_retF (et_eq (by walk_at "ev") (decide_eq_false h3)) ?_))
    exact sf_retN (o := .lst [enc a, enc b, enc c]) (en_cb (ea_cons (ec_slT (ds := [.str k, enc a, enc b, enc c]) (ec_var rfl) (eo_some ec_int) eo_none) ea_nil) al_listT (immAll_mapM (xs := [a, b, c]) fun x _ => imm_enc x)) fun _ => rfl
theorem p_law_parts : ∀ ds r, R_parts ds r → StF K (t__law_parts K) (startF 1 ds) (Po0 r) := by
  rintro ds r ⟨S, e, h, rfl, rfl⟩
  have tt : ∀ {fs : Fm}, EvC K fs (tTup (tCons (tC (.str "path")) (tCons (tC (.str "number")) tNil))) (.tuple ((["path", "number"] : List Str).map .str)) := fun {fs} => ec_tup (as := [.str "path", .str "number"]) (ea_cons ec_str (ea_cons ec_str ea_nil)) (by simp)
  cases e with
  | path p => exact sq_retT (et_eq (et_test (ec_op (a := .str "path") (ec_op (ec_var rfl) ec_int (rd_ixT rfl)) tt rd_inT)) (by decide +kernel)) (sf_retN (o := .lst []) (en_lstD ea_nil (by simp) rfl) fun _ => rfl)
  | num i => exact sq_retT (et_eq (et_test (ec_op (a := .str "number") (ec_op (ec_var rfl) ec_int (rd_ixT rfl)) tt rd_inT)) (by decide +kernel)) (sf_retN (o := .lst []) (en_lstD ea_nil (by simp) rfl) fun _ => rfl)
  | shift a o =>
    exact sq_retF (et_eq (et_test (ec_op (a := .str "shift") (ec_op (ec_var rfl) ec_int (rd_ixT rfl)) tt rd_inT)) (by decide +kernel)) (sq_retT (et_eq (et_test (ec_op (a := .str "shift") (ec_op (ec_var rfl) ec_int (rd_ixT rfl)) ec_str rd_eqS)) (by decide +kernel))
      (sf_retN (o := .lst [enc a]) (en_lstD (ea_cons (ec_op (ec_var rfl) ec_int (rd_ixT rfl)) ea_nil) (by simp) (immAll_mapM (xs := [a]) fun x _ => imm_enc x)) fun _ => rfl))
  | two k a b =>
    obtain ⟨⟨h1, h2, h3⟩, _, _⟩ := h
    refine sq_retF (et_eq (et_test (ec_op (a := .str k) (ec_op (ec_var rfl) ec_int (rd_ixT rfl)) tt rd_inT)) (decide_eq_false (by simp [h1, h2]))) (sq_retF (et_eq (et_test (ec_op (a := .str k) (ec_op (ec_var rfl) ec_int (rd_ixT rfl)) ec_str rd_eqS)) (decide_eq_false h3)) ?_)
    exact sf_retN (o := .lst [enc a, enc b]) (en_cb (ea_cons (ec_slT (ds := [.str k, enc a, enc b]) (ec_var rfl) (eo_some ec_int) eo_none) ea_nil) al_listT (immAll_mapM (xs := [a, b]) fun x _ => imm_enc x)) fun _ => rfl
  | three k a b c =>
    obtain ⟨⟨h1, h2, h3⟩, _, _⟩ := h
    refine sq_retF (et_eq (et_test (ec_op (a := .str k) (ec_op (ec_var rfl) ec_int (rd_ixT rfl)) tt rd_inT)) (decide_eq_false (by simp [h1, h2]))) (sq_retF (et_eq (et_test (ec_op (a := .str k) (ec_op (ec_var rfl) ec_int (rd_ixT rfl)) ec_str rd_eqS)) (decide_eq_false h3)) ?_)
    exact sf_retN (o := .lst [enc a, enc b, enc c]) (en_cb (ea_cons (ec_slT (ds := [.str k, enc a, enc b, enc c]) (ec_var rfl) (eo_some ec_int) eo_none) ea_nil) al_listT (immAll_mapM (xs := [a, b, c]) fun x _ => imm_enc x)) fun _ => rfl
theorem dep_max (e : Exp) : (((parts e).map fun p => (dep p : Int)) = [] → (dep e : Int) - 1 = 0) ∧ (((parts e).map fun p => (dep p : Int)) ≠ [] → (dep e : Int) - 1 ∈ ((parts e).map fun p => (dep p : Int)) ∧ ∀ y ∈ ((parts e).map fun p => (dep p : Int)), y ≤ (dep e : Int) - 1) := by
  cases e with
  | path p => simp [parts, dep]
  | num i => simp [parts, dep]
  | two k a b =>
    simp only [parts, dep, List.map_cons, List.map_nil, List.mem_cons, List.not_mem_nil, or_false, ne_eq, reduceCtorEq, false_implies, not_false_eq_true, true_implies, true_and]
    refine ⟨by omega, fun y hy => by omega⟩
  | three k a b c =>
    simp only [parts, dep, List.map_cons, List.map_nil, List.mem_cons, List.not_mem_nil, or_false, ne_eq, reduceCtorEq, false_implies, not_false_eq_true, true_implies, true_and]
    refine ⟨by omega, fun y hy => by omega⟩
  | shift a o =>
    simp only [parts, dep, List.map_cons, List.map_nil, List.mem_cons, List.not_mem_nil, or_false, ne_eq, reduceCtorEq, false_implies, not_false_eq_true, true_implies, true_and]
    refine ⟨by omega, fun y hy => by omega⟩
theorem imm_parts (e : Exp) : immAll ((parts e).map enc) = true := immAll_mapM fun x _ => imm_enc x
theorem lc_dep {n : Nat} {S : List Str} {e : Exp} (h : Good S e) (hn : dep e ≤ n + 1) {sp : Sp} (hsp : sp = spF K (R_depth n)) : EvN K [some (.im (enc e)), none] (tLc (iList K (tCall (spF K R_parts) [] E0 (tCons (tVar 0) tNil))) (gName 1) tYes (tCall sp [] E0 (tCons (tVar 1) tNil)) [1]) (.lst (((parts e).map fun p => (dep p : Int)).map .int)) := by
  subst hsp
  rw [List.map_map]
  refine en_lcM (f := enc) (xs := parts e) (fun p => .int (dep p)) (ew_of (ei_N (en_call (R := R_parts) (ea_cons (ec_var rfl) ea_nil) (r_parts h) (imm_parts e)) (imm_parts e))) (Nat.lt_of_le_of_lt (parts_few e) (by decide)) fun p hp => ⟨_, putc_name (by decide) (lt_rfl rfl) (imm_enc _), ?_, rfl⟩
  have := dep_parts hp
  exact ec_call (R := R_depth n) (ea_cons (ec_var rfl) ea_nil) (r_depth (good_parts h hp) (by omega))
theorem p_depth (n : Nat) : ∀ ds r, R_depth (n + 1) ds r → StF K (t_depth K (spF K R_parts) (spF K (R_depth n))) (startF 2 ds) (Po0 r) := by
  rintro ds r ⟨S, e, h, hn, rfl, rfl⟩
  refine sf_ret (es_of (d := .int (1 + ((dep e : Int) - 1))) (ec_op ec_int (ec_maxD (ea_cons (ecl_of (el_of (lc_dep h hn rfl))) ea_nil) (ea_cons ec_int ea_nil) (dep_max e).1 (dep_max e).2) rd_addI) rfl) ?_
  exact congrArg PyData.int (by omega)
theorem p_law_depth (n : Nat) : ∀ ds r, R_depth (n + 1) ds r → StF K (t__law_depth K (spF K R_parts) (spF K (R_depth n))) (startF 2 ds) (Po0 r) := by
  rintro ds r ⟨S, e, h, hn, rfl, rfl⟩
  have hl := parts_few e
  have hz : EvN K [some (.im (enc e)), none] (tOp (rAddU K) (tLc (iList K (tCall (spF K R_parts) [] E0 (tCons (tVar 0) tNil))) (gName 1) tYes (tCall (spF K (R_depth n)) [] E0 (tCons (tVar 1) tNil)) [1]) (tLst (tCons (tC (.int 0)) tNil))) (.lst ((((parts e).map fun p => (dep p : Int)) ++ [0]).map .int)) := by
    rw [List.map_append]
    refine en_addL (el_of (lc_dep h hn rfl)) (el_of (en_lstD (as := [.int 0]) (ea_cons ec_int ea_nil) (by simp) rfl)) ?_ ?_
    · rw [← List.map_append]
      exact immAll_ints _
    · simp
      omega
  refine sf_ret (es_of (d := .int (1 + ((dep e : Int) - 1))) (ec_op ec_int (ec_cb (ea_cons (ecl_of (el_of hz)) ea_nil) (ad_max (m := (dep e : Int) - 1) (by simp) ?_ ?_)) rd_addI) rfl) (congrArg PyData.int (by omega))
  · by_cases e0 : ((parts e).map fun p => (dep p : Int)) = []
    · rw [(dep_max e).1 e0]
      simp
    · exact List.mem_append_left _ ((dep_max e).2 e0).1
  · intro y hy
    rcases List.mem_append.mp hy with hy | hy
    · exact ((dep_max e).2 fun e0 => by rw [e0] at hy; exact absurd hy List.not_mem_nil).2 y hy
    · rw [List.mem_singleton.mp hy]
      have := dep_pos e
      omega
end
end T94

set_option maxHeartbeats 2000000
namespace T94
open PySem PySem.Spec PyProof.Rows L2 T9
local macro_rules | `(tactic| walk_at "side") => `(tactic| first | assumption | omega | decide | rfl)
local macro_rules | `(tactic| walk_at "rd") => `(tactic| first
  | exact rd_D (by assumption) | exact rd_D0 (by assumption) rfl
  | exact rd_addI | exact rd_subI | exact rd_eqS | exact rd_eqI | exact rd_neS | exact rd_neI | exact rd_ltI | exact rd_leI | exact rd_gtI | exact rd_geI | exact rd_ltS
  | exact rd_inC | exact rd_ninC | exact rd_inT | exact rd_ninT | exact rd_ninTI
  | exact rd_ixT rfl | exact rd_ixL rfl | exact rd_ixL (by assumption) | exact rd_ixT (by assumption)
  | exact rd_mod (by walk_at "side") | exact rd_div ⟨by walk_at "side", by walk_at "side"⟩
  | exact rd_mulI (Or.inl ⟨by decide, by decide⟩) | exact rd_mulI (Or.inr ⟨by decide, by decide⟩) | exact rd_mulI (Or.inl ⟨by omega, by omega⟩)
  | exact rd_pow ⟨by decide, by decide, by decide⟩
  | exact rd_addS (by walk_at "side"))
local macro_rules | `(tactic| walk_at "ad") => `(tactic| first
  | exact ad_lenD (by assumption) | exact ad_lenM | exact ad_lenL | exact ad_lenT | exact ad_lenS (by walk_at "side") | exact ad_int | exact ad_intB | exact ad_tupleL | assumption)
local macro_rules | `(tactic| walk_at "ev") => `(tactic| first
  | exact ec_int | exact ec_str | exact ec_bl | exact ec_non
  | exact ec_var rfl | exact ec_varL rfl | exact es_var rfl | exact el_var rfl
  | assumption
  | exact ea_nil | (apply ea_cons; walk_at "ev"; walk_at "ev")
  | (apply ec_op; walk_at "ev"; walk_at "ev"; walk_at "rd")
  | (apply ec_un; walk_at "ev"; exact ud_neg)
  | (apply ec_cb; walk_at "ev"; walk_at "ad")
  | (apply ec_chain; walk_at "ev"; walk_at "ev"; walk_at "rd"; walk_at "ev"; walk_at "rd")
  | exact ecl_of (el_of (by assumption)) | exact el_of (by assumption)
  | (apply ec_call; walk_at "ev"; walk_at "call")
  | (apply ec_tup; walk_at "ev"; (simp; done))
  | (apply et_test; walk_at "ev") | (apply et_B; walk_at "ev") | (apply et_not; walk_at "ev")
  | (apply et_and; walk_at "ev"; (intro _; walk_at "ev")) | (apply et_or; walk_at "ev"; (intro _; walk_at "ev"))
  | (apply ec_and; walk_at "ev"; (intro _; walk_at "ev")) | (apply ec_or; walk_at "ev"; (intro _; walk_at "ev")) | (apply ec_not; walk_at "ev")
  | exact eo_none | (apply eo_some; walk_at "ev"))
local macro_rules | `(tactic| walk_at "call") => `(tactic| first
  | assumption | exact r_is_name (by walk_at "side") | exact r_is_path (by walk_at "side")
  | exact ⟨rfl, rfl⟩ | exact ⟨_, rfl, rfl⟩ | exact ⟨_, _, rfl, rfl⟩ | exact ⟨_, _, (by assumption), rfl, rfl⟩)
section
variable {K : PySem.W.Frag} {mg : Str → Option Value}
theorem r_coll (n : Nat) (vs : List V) (H : Hp) (Q : VK) (E : XK) (h : spColl K (n + 1) vs H Q E) : t_collect_paths K (spF K R_parts) (spColl K n) { nx := fun _ H' => Q .non H', rt := Q } (L2.start ["expression", "found", "part"] vs) H := by
  obtain ⟨S, e, ks, v, a, hS, hg, hn, hk, rfl, hv, ha, q⟩ := h
  obtain ⟨B, hB, F⟩ := fr_flag (n := 1) (imm_enc e) hv ha
  have st : StF K (t_collect_paths K (spF K R_parts) (spColl K n)) [some (.im (enc e)), some (.ob a (.dk (kvD ks))), none] { nx := fun g => g[1]? = some (some (.ob a (.dk (kvD (collK ks e))))), rt := fun _ => False } := by
    let k1 : List Str := match e with | .path p => addK ks p | _ => ks
    have hk1 : Ks S k1 := by
      cases e with
      | path p => exact (addK_ok hk (show p ∈ S from hg)).1
      | num _ => exact hk
      | two _ _ _ => exact hk
      | three _ _ _ _ => exact hk
      | shift _ _ => exact hk
    have hall : (parts e).foldl collK k1 = collK ks e := by cases e <;> rfl
    refine sf_seq1 (fs' := [some (.im (enc e)), some (.ob a (.dk (kvD k1))), none]) ?_ ?_
    · have hl : ks.length < 10000 := Nat.lt_of_le_of_lt (hk.few hS) (by decide)
      cases e with
      | path p => exact sf_if (b := true) (et_eq (et_test (ec_op (a := .str "path") (ec_op (ec_var rfl) ec_int (rd_ixT rfl)) ec_str rd_eqS)) (by decide +kernel)) (fun _ => sf_dput (p := p) rfl (ec_op (ec_var rfl) ec_int (rd_ixT rfl)) hl rfl) fun e => nomatch e
      | num i => exact sf_if (b := false) (et_eq (et_test (ec_op (a := .str "number") (ec_op (ec_var rfl) ec_int (rd_ixT rfl)) ec_str rd_eqS)) (by decide +kernel)) (fun e => nomatch e) fun _ => sf_next rfl
      | two k x y => exact sf_if (b := false) (et_eq (et_test (ec_op (a := .str k) (ec_op (ec_var rfl) ec_int (rd_ixT rfl)) ec_str rd_eqS)) (decide_eq_false hg.1.1)) (fun e => nomatch e) fun _ => sf_next rfl
      | three k x y z => exact sf_if (b := false) (et_eq (et_test (ec_op (a := .str k) (ec_op (ec_var rfl) ec_int (rd_ixT rfl)) ec_str rd_eqS)) (decide_eq_false hg.1.1)) (fun e => nomatch e) fun _ => sf_next rfl
      | shift x o => exact sf_if (b := false) (et_eq (et_test (ec_op (a := .str "shift") (ec_op (ec_var rfl) ec_int (rd_ixT rfl)) ec_str rd_eqS)) (by decide +kernel)) (fun e => nomatch e) fun _ => sf_next rfl
    · have hks : ∀ i, Ks S (((parts e).take i).foldl collK k1) := fun i => by
        have : ∀ (l : List Exp) (k0 : List Str), (∀ p ∈ l, Good S p) → Ks S k0 → Ks S (l.foldl collK k0) := by
          intro l
          induction l with
          | nil => exact fun k0 _ h => h
          | cons p l ih => exact fun k0 hl h => ih _ (fun q hq => hl q (List.mem_cons_of_mem _ hq)) (collK_ok (hl p (List.mem_cons_self ..)) h).1
        exact this _ _ (fun p hp => good_parts hg (List.mem_of_mem_take hp)) hk1
      refine sf_for (fun i f => Le f [some (.im (enc e)), some (.ob a (.dk (kvD (((parts e).take i).foldl collK k1)))), none])
        (ei_N (en_call (R := R_parts) (ea_cons (ec_var rfl) ea_nil) (r_parts hg) (imm_parts e)) (imm_parts e)) (Le.refl _) (fun i d f hd hf => ?_) fun f hf => ?_
      · rw [List.getElem?_map] at hd
        obtain ⟨p, hp, rfl⟩ := Option.map_eq_some_iff.mp hd
        have hpm : p ∈ parts e := List.mem_of_getElem? hp
        refine ⟨_, put_le hf (lt_rfl rfl) (imm_enc p), sf_le ?_ (hf.set 2 _)⟩
        refine sf_flag (i := 1) (a := a) (d := enc p) (ks2 := collK (((parts e).take i).foldl collK k1) p) rfl (ec_var rfl) (fun v H Q hv ha q => ?_) ?_
        · have := dep_parts hpm
          exact ⟨S, p, _, v, a, hS, good_parts hg hpm, by omega, hks i, rfl, hv, ha, q⟩
        · show Le _ [some (.im (enc e)), some (.ob a (.dk (kvD (((parts e).take (i + 1)).foldl collK k1)))), none]
          rw [List.take_add_one, hp, List.foldl_append]
          exact .cons (.cons (.drop .nil))
      · rw [List.length_map, List.take_length, hall] at hf
        exact hf.2 1 _ rfl
  refine st B B H _ { nx := fun _ H' => Q .non H', rt := Q } F (fun g σ H' hg F' => ?_) (fun s v H' e _ _ => e.elim) (fun _ _ _ e => e.elim) fun _ _ _ e => e.elim
  obtain ⟨g1, g2, ws, g3, g4⟩ := F'.own hg
  rw [kv_of g4] at g3
  exact q H' (fun b o hb ho => F'.exH b o (hB b o hb ho)) g3
theorem p_paths_of : ∀ ds r, R_paths 40 ds r → StF K (t_paths_of K (spColl K 40)) (startF 2 ds) (Po0 r) := by
  rintro ds r ⟨S, e, ys, hS, hg, hn, hc, rfl, rfl⟩
  have k0 : Ks S [] := ⟨List.nodup_nil, fun x hx => absurd hx List.not_mem_nil⟩
  obtain ⟨k1, k2⟩ := collK_ok hg k0
  refine sq_asgN (o := .dk (kvD [])) en_dnew fun a => sf_seq1 (sf_flag (i := 1) (a := a) (d := enc e) (ks := []) (ks2 := collK [] e) rfl (ec_var rfl) (fun v H Q hv ha q => ⟨S, e, [], v, a, hS, hg, hn, k0, rfl, hv, ha, q⟩) rfl) (sf_retN (en_sortedDk (ks := collK [] e) (ys := ys) rfl (Nat.lt_of_le_of_lt (k1.few hS) (by decide)) fun zs hp hs => ?_) fun _ => rfl)
  have z := canon_perm hp hs k1.nd
  exact asc_unique zs ys z.1 hc.1 fun x => by rw [z.2 x, k2 x, hc.2 x]; simp
theorem shaped_strs {xs : List Str} (h : ∀ x ∈ xs, PyData.strOk x = true) : SeqAt.shaped (.list (xs.map .str)) = true := by
  have h1 : PyData.canLayAll0 (xs.map .str) = true := by
    induction xs with
    | nil => rfl
    | cons x r ih =>
      show (PyData.strOk x && PyData.canLayAll0 (r.map .str)) = true
      rw [h x (List.mem_cons_self ..), ih fun y hy => h y (List.mem_cons_of_mem _ hy)]
      rfl
  have h2 : PyData.depthAll (xs.map .str) = 0 := by
    clear h h1
    induction xs with
    | nil => rfl
    | cons x r ih =>
      show max 0 (PyData.depthAll (r.map .str)) = 0
      rw [ih]
      rfl
  unfold SeqAt.shaped
  rw [show (PyData.list (xs.map .str)).canLay0 = true from h1, show (PyData.list (xs.map .str)).depth = 1 by show PyData.depthAll (xs.map .str) + 1 = 1; rw [h2]]
  rfl
theorem srt_perm (xs : List Str) : (srt xs).Perm xs := List.mergeSort_perm xs leS
theorem leS_iff {a b : Str} : leS a b = true ↔ ltS b a = false := by
  unfold leS ltS
  cases ltCps b.cps.toList a.cps.toList <;> simp
theorem srt_pw (xs : List Str) : (srt xs).Pairwise fun a b => ltS b a = false := by
  refine List.Pairwise.imp (fun {a b} h => leS_iff.mp h) (List.pairwise_mergeSort (le := leS) (fun a b c h1 h2 => ?_) (fun a b => ?_) xs)
  · rw [leS_iff] at h1 h2 ⊢
    cases h : ltS c a with
    | false => rfl
    | true =>
      by_cases e : a = b
      · rw [← e, h] at h2
        cases h2
      · have := ltS_trans h (ltS_tri h1 fun e' => e e'.symm)
        rw [h2] at this
        cases this
  · cases h : ltS b a with
    | false => rw [leS_iff.mpr h]; rfl
    | true =>
      have : ltS a b = false := by
        cases h' : ltS a b with
        | false => rfl
        | true =>
          have := ltS_trans h h'
          rw [ltS_irr] at this
          cases this
      rw [leS_iff.mpr this, Bool.or_true]
theorem srt_uniq {xs ys : List Str} (hp : ys.Perm xs) (hs : sortedS ys = true) : ys = srt xs := by
  refine List.Perm.eq_of_pairwise (le := fun a b => ltS b a = false) (fun a b _ _ h1 h2 => ?_) (sorted_pw hs) (srt_pw xs) (hp.trans (srt_perm xs).symm)
  by_cases e : a = b
  · exact e
  · have := ltS_tri h1 fun e' => e e'.symm
    rw [h2] at this
    cases this
theorem p_law_distinct : ∀ ds r, R_distinct ds r → StF K (t__law_distinct K) (startF 3 ds) (Po0 r) := by
  rintro ds r ⟨ys, rows, hl, hok, hc, rfl, rfl⟩
  refine sq_asgN (o := .lst []) (en_lstD ea_nil (by decide) rfl) fun a => ?_
  refine sf_seq (M := fun f => ∃ acc, Ded acc (srt rows) ∧ Le f [some (.im (txts rows)), some (.ob a (.lst (acc.map .str))), none])
    (sf_for (fun i f => ∃ acc, Ded acc ((srt rows).take i) ∧ Le f [some (.im (txts rows)), some (.ob a (.lst (acc.map .str))), none])
      (ei_N (en_cb (ea_cons (ec_var rfl) ea_nil) (al_sortedS hl fun ys => srt_uniq) (immAll_strs _)) (immAll_strs _)) ⟨[], ⟨List.Pairwise.nil, fun _ => Iff.rfl, rfl⟩, Le.refl _⟩ (fun i d f hd hf => ?_) fun f hf => ?_) fun f hf => ?_
  · rw [List.getElem?_map] at hd
    obtain ⟨row, hr, rfl⟩ := Option.map_eq_some_iff.mp hd
    obtain ⟨acc, hD, hf⟩ := hf
    refine ⟨_, put_le hf (lt_rfl rfl) rfl, sf_le ?_ (hf.set 2 _)⟩
    have et : (srt rows).take (i + 1) = (srt rows).take i ++ [row] := by rw [List.take_add_one, hr]; rfl
    have hlt : ∀ z ∈ (srt rows).take i, ltS row z = false := fun z hz => by
      have hpw := srt_pw rows
      rw [← List.take_append_drop i (srt rows)] at hpw
      refine (List.pairwise_append.mp hpw).2.2 z hz row ?_
      rw [List.mem_iff_getElem?]
      exact ⟨0, by rw [List.getElem?_drop, Nat.add_zero, hr]⟩
    have hacc : ∀ x ∈ acc, PyData.strOk x = true := fun x hx => hok x ((srt_perm rows).mem_iff.mp (List.mem_of_mem_take ((hD.mem x).mp hx)))
    have hlen : (acc.map PyData.str).length < 100000 := by
      have h1 := nodup_le hD.asc.nodup fun x hx => (hD.mem x).mp hx
      have h2 : ((srt rows).take i).length ≤ rows.length := by
        rw [List.length_take, (srt_perm rows).length_eq]
        omega
      rw [List.length_map]
      omega
    have addE : (acc = [] ∨ ∀ z, acc.getLast? = some z → z ≠ row) → StF K (tDrop (tBM K "list" rAppend (tVar 1) (tCons (tVar 2) tNil))) ([some (.im (txts rows)), some (.ob a (.lst (acc.map .str))), none].set 2 (some (.im (.str row)))) { nx := fun f => ∃ acc, Ded acc ((srt rows).take (i + 1)) ∧ Le f [some (.im (txts rows)), some (.ob a (.lst (acc.map .str))), none], ct := fun f => ∃ acc, Ded acc ((srt rows).take (i + 1)) ∧ Le f [some (.im (txts rows)), some (.ob a (.lst (acc.map .str))), none], bk := fun f => ∃ acc, Ded acc (srt rows) ∧ Le f [some (.im (txts rows)), some (.ob a (.lst (acc.map .str))), none], rt := fun s => IsRes s (.n (.lst (ys.map .str))) } := fun ho => by
      refine sf_app (i := 1) (a := a) (ds := acc.map .str) rfl (ec_var rfl) rfl hlen ⟨acc ++ [row], ?_, ?_⟩
      · rw [et]
        exact hD.add hlt ho
      · rw [List.map_append]
        exact .cons (.cons (.drop .nil))
    have e1 : EvC K ([some (.im (txts rows)), some (.ob a (.lst (acc.map .str))), none].set 2 (some (.im (.str row)))) (tOp (rEqU K) (tVar 1) (tLst tNil)) (.bool (PyData.eqv (.list (acc.map .str)) (.list []))) := ec_op (ec_varL rfl) (ec_lst ea_nil (by simp)) (rd_eqD (shaped_strs hacc) (by decide +kernel))
    cases hg : acc.getLast? with
    | none =>
      have e0 := List.getLast?_eq_none_iff.mp hg
      subst e0
      exact sf_if (b := true) (et_eq (et_or (a := true) (b := true) (et_test e1) fun e => nomatch e) rfl) (fun _ => addE (Or.inl rfl)) fun e => nomatch e
    | some z =>
      obtain ⟨l, rfl⟩ := List.getLast?_eq_some_iff.mp hg
      have hix : atI ((l ++ [z]).map PyData.str) (-1) = some (.str z) := by
        unfold atI ixN
        rw [if_neg (by decide), List.length_map, List.length_append, List.length_singleton]
        first
        | (rw [if_pos (by omega)]
           show ((l ++ [z]).map PyData.str)[_]? = _
           rw [List.getElem?_map, show (-1 + ((l.length + 1 : Nat) : Int)).toNat = l.length by omega, List.getElem?_append_right (Nat.le_refl _), Nat.sub_self]
           rfl)
      have e2 : EvC K ([some (.im (txts rows)), some (.ob a (.lst ((l ++ [z]).map .str))), none].set 2 (some (.im (.str row)))) (tOp (rNeU K) (tOp (rIx K) (tVar 1) (tUn rNegU (tC (.int 1)))) (tVar 2)) (.bool (!decide (z = row))) := ec_op (ec_op (ec_varL rfl) (ec_un ec_int ud_neg) (rd_ixL hix)) (ec_var rfl) rd_neS
      have e3 : PyData.eqv (.list ((l ++ [z]).map .str)) (.list []) = false := by
        cases l with
        | nil => rfl
        | cons x t => rfl
      rw [e3] at e1
      refine sf_if (b := false || !decide (z = row)) (et_or (et_test e1) fun _ => et_test e2) (fun e => addE (Or.inr fun z' hz' => ?_)) fun e => sf_next ⟨l ++ [z], ?_, .cons (.cons (.drop .nil))⟩
      · rw [hg] at hz'
        cases hz'
        intro ez
        rw [decide_eq_true ez] at e
        cases e
      · rw [et]
        refine hD.skip ?_
        rw [hg]
        rw [Bool.false_or, Bool.not_eq_false'] at e
        rw [of_decide_eq_true e]
  · obtain ⟨acc, hD, hf⟩ := hf
    rw [List.length_map, List.take_length] at hD
    exact ⟨acc, hD, hf⟩
  · obtain ⟨acc, hD, hf⟩ := hf
    have e : acc = ys := asc_unique acc ys hD.asc hc.1 fun x => by rw [hD.mem x, (srt_perm rows).mem_iff, hc.2 x]
    subst e
    exact sf_le (sf_retv (i := 1) (s := .ob a (.lst (acc.map .str))) rfl rfl) hf
theorem p_law_paths (n : Nat) : ∀ ds r, R_paths (n + 1) ds r → StF K (t__law_paths K (spF K R_distinct) (spF K R_parts) (spF K (R_paths n))) (startF 3 ds) (Po0 r) := by
  rintro ds r ⟨S, e, ys, hS, hg, hn, hc, rfl, rfl⟩
  have main : noPath e = true → StF K (tSeq (tAsg (tLst tNil) (gName 1))
  (tSeq (tFor (iList K (tCall (spF K R_parts) [] E0 (tCons (tVar 0) tNil))) (gName 2) (tAsg (tOp (rAddU K) (tVar 1) (tCall (spF K (R_paths n)) [] E0 (tCons (tVar 2) tNil))) (gName 1)))
  (tRet (tCall (spF K R_distinct) [] E0 (tCons (tVar 1) tNil))))) [some (.im (enc e)), none, none] (Po0 (.n (.lst (ys.map .str)))) := fun he => by
    refine sq_asgN (o := .lst []) (en_lstD ea_nil (by decide) rfl) fun a => ?_
    refine sf_seq (M := fun f => ∃ (a : Addr) (fd : List Str), Le f [some (.im (enc e)), some (.ob a (.lst (fd.map .str))), none] ∧ fd.length ≤ 20 * (parts e).length ∧ ∀ x, x ∈ fd ↔ ∃ p ∈ parts e, x ∈ paths p)
      (sf_for (fun i f => ∃ (a : Addr) (fd : List Str), Le f [some (.im (enc e)), some (.ob a (.lst (fd.map .str))), none] ∧ fd.length ≤ 20 * i ∧ ∀ x, x ∈ fd ↔ ∃ p ∈ (parts e).take i, x ∈ paths p)
        (ei_N (en_call (R := R_parts) (ea_cons (ec_var rfl) ea_nil) (r_parts hg) (imm_parts e)) (imm_parts e)) ⟨a, [], Le.refl _, Nat.zero_le _, fun x => by simp⟩ (fun i d f hd hf => ?_) fun f hf => ?_) fun f hf => ?_
    · have hi : i < (parts e).length := by
        have := (List.getElem?_eq_some_iff.mp hd).1
        rwa [List.length_map] at this
      rw [List.getElem?_map] at hd
      obtain ⟨p, hp, rfl⟩ := Option.map_eq_some_iff.mp hd
      obtain ⟨a, fd, hf, hl, hm⟩ := hf
      have hpm : p ∈ parts e := List.mem_of_getElem? hp
      have hdp := dep_parts hpm
      have hpf := parts_few e
      refine ⟨_, put_le hf (lt_rfl rfl) (imm_enc p), sf_le ?_ (hf.set 2 _)⟩
      obtain ⟨cp, hcp⟩ := canon_ex (paths p)
      have hcl := canon_few hS (good_parts hg hpm) hcp
      refine sf_asgN (o := .lst (fd.map .str ++ cp.map .str)) (en_addL (el_var rfl) (el_of (en_call (R := R_paths n) (ea_cons (ec_var rfl) ea_nil) ⟨S, p, cp, hS, good_parts hg hpm, by omega, hcp, rfl, rfl⟩ (immAll_strs _))) ?_ ?_) (lt_rfl rfl) fun b => ⟨b, fd ++ cp, ?_, ?_, fun x => ?_⟩
      · rw [← List.map_append]
        exact immAll_strs _
      · rw [List.length_map, List.length_map]
        omega
      · rw [List.map_append]
        exact .cons (.cons (.drop .nil))
      · rw [List.length_append]
        omega
      · rw [List.mem_append, hm x, hcp.2 x, List.take_add_one, hp]
        constructor
        · rintro (⟨q, hq, hx⟩ | hx)
          · exact ⟨q, List.mem_append_left _ hq, hx⟩
          · exact ⟨p, List.mem_append_right _ (List.mem_singleton.mpr rfl), hx⟩
        · rintro ⟨q, hq, hx⟩
          rcases List.mem_append.mp hq with hq | hq
          · exact Or.inl ⟨q, hq, hx⟩
          · have : q = p := List.mem_singleton.mp hq
            subst this
            exact Or.inr hx
    · obtain ⟨a, fd, hf, hl, hm⟩ := hf
      rw [List.length_map] at hl
      rw [List.length_map, List.take_length] at hm
      exact ⟨a, fd, hf, hl, hm⟩
    · obtain ⟨a, fd, hf, hl, hm⟩ := hf
      have hpf := parts_few e
      have hmem : ∀ x, x ∈ fd ↔ x ∈ paths e := fun x => by rw [hm x, paths_parts he]
      exact sf_le (sf_retN (o := .lst (ys.map .str)) (en_call (R := R_distinct) (ea_cons (ec_varL rfl) ea_nil) ⟨ys, fd, by omega, fun x hx => (hS.ok x (paths_in hg x ((hmem x).mp hx))).2, ⟨hc.1, fun x => by rw [hc.2 x, hmem x]⟩, rfl, rfl⟩ (immAll_strs _)) fun _ => rfl) hf
  cases e with
  | path p =>
    have ey : ys = [p] := asc_unique ys [p] hc.1 (List.pairwise_singleton _ _) fun x => hc.2 x
    subst ey
    exact sq_retT (et_eq (et_test (ec_op (a := .str "path") (ec_op (ec_var rfl) ec_int (rd_ixT rfl)) ec_str rd_eqS)) (by decide +kernel)) (sf_retN (o := .lst [.str p]) (en_lstD (ea_cons (ec_op (ec_var rfl) ec_int (rd_ixT rfl)) ea_nil) (by simp) rfl) fun _ => rfl)
  | num i => exact sq_retF (et_eq (et_test (ec_op (a := .str "number") (ec_op (ec_var rfl) ec_int (rd_ixT rfl)) ec_str rd_eqS)) (by decide +kernel)) (main rfl)
  | shift x o => exact sq_retF (et_eq (et_test (ec_op (a := .str "shift") (ec_op (ec_var rfl) ec_int (rd_ixT rfl)) ec_str rd_eqS)) (by decide +kernel)) (main rfl)
  | two k x y => exact sq_retF (et_eq (et_test (ec_op (a := .str k) (ec_op (ec_var rfl) ec_int (rd_ixT rfl)) ec_str rd_eqS)) (decide_eq_false hg.1.1)) (main rfl)
  | three k x y z => exact sq_retF (et_eq (et_test (ec_op (a := .str k) (ec_op (ec_var rfl) ec_int (rd_ixT rfl)) ec_str rd_eqS)) (decide_eq_false hg.1.1)) (main rfl)
theorem p_law_is_texts : ∀ ds r, R_is_texts ds r → StF K (t__law_is_texts K (spF K R_is_text)) (startF 4 ds) (Po0 r) := by
  rintro ds r ⟨ys, hl, rfl, rfl⟩
  refine sq_retF (et_eq (et_or (et_and (a := true) (et_eq (et_test (ec_op (ec_var rfl) ec_str rd_eqS)) (by decide +kernel)) fun _ => et_not (et_B (ec_isi (b := true) (ec_var rfl) rfl))) fun _ => et_and (a := false) (b := true) (et_eq (et_test (ec_op (ec_var rfl) ec_str rd_eqS)) (by decide +kernel)) fun e => nomatch e) rfl) ?_
  refine sq_retF (et_eq (et_test (ec_op (ec_cb (ea_cons (ec_var rfl) ea_nil) ad_lenM) (ec_cb (ea_cons (ec_var rfl) ea_nil) ad_lenM) rd_neI)) (by rw [decide_eq_true rfl]; rfl)) ?_
  refine sf_seq (M := fun f => Le f [some (.im (txts ys)), some (.im (txts ys)), some (.im (.str "list")), none])
    (sf_for (fun i f => Le f [some (.im (txts ys)), some (.im (txts ys)), some (.im (.str "list")), none]) (ei_rng (n := ys.length) (ea_cons (ec_cb (ea_cons (ec_var rfl) ea_nil) ad_lenM) ea_nil) (by omega) (by omega) (by omega)) (Le.refl _) (fun i d f hd hf => ?_) fun f hf => hf) fun f hf => sf_le (sf_ret (es_of (d := .bool true) ec_bl rfl) rfl) hf
  obtain ⟨hi, rfl⟩ := range_at hd
  refine ⟨_, put_le hf (lt_rfl rfl) rfl, sf_le ?_ (hf.set 3 _)⟩
  have hx {fs : Fm} {j : Nat} (h0 : fs[j]? = some (some (.im (txts ys)))) (h3 : fs[3]? = some (some (.im (.int (i : Nat))))) : EvC K fs (tOp (rIx K) (tVar j) (tVar 3)) (.str (nth ys i "")) := ec_op (ec_var h0) (ec_var h3) (rd_M (f := PyData.str) "" (by omega) (by omega))
  refine sf_if (b := false) (et_eq (et_not (et_B (ec_call (R := R_is_text) (ea_cons (hx rfl rfl) (ea_cons (hx rfl rfl) ea_nil)) ⟨_, _, rfl, rfl⟩))) (by rw [decide_eq_true rfl]; rfl)) (fun e => nomatch e) fun _ => sf_next (.cons (.cons (.cons (.drop .nil))))
end
end T94

set_option maxHeartbeats 2000000
namespace T94
open PySem PySem.Spec PyProof.Rows L2 T9
local macro_rules | `(tactic| walk_at "side") => `(tactic| first | assumption | omega | decide | rfl)
local macro_rules | `(tactic| walk_at "rd") => `(tactic| first
  | exact rd_D (by assumption) | exact rd_D0 (by assumption) rfl
  | exact rd_addI | exact rd_subI | exact rd_eqS | exact rd_eqI | exact rd_neS | exact rd_neI | exact rd_ltI | exact rd_leI | exact rd_gtI | exact rd_geI | exact rd_ltS
  | exact rd_inC | exact rd_ninC | exact rd_inT | exact rd_ninT | exact rd_ninTI
  | exact rd_ixT rfl | exact rd_ixL rfl | exact rd_ixL (by assumption) | exact rd_ixT (by assumption)
  | exact rd_mod (by walk_at "side") | exact rd_div ⟨by walk_at "side", by walk_at "side"⟩
  | exact rd_mulI (Or.inl ⟨by decide, by decide⟩) | exact rd_mulI (Or.inr ⟨by decide, by decide⟩) | exact rd_mulI (Or.inl ⟨by omega, by omega⟩)
  | exact rd_pow ⟨by decide, by decide, by decide⟩
  | exact rd_addS (by walk_at "side"))
local macro_rules | `(tactic| walk_at "ad") => `(tactic| first
  | exact ad_lenD (by assumption) | exact ad_lenM | exact ad_lenL | exact ad_lenT | exact ad_lenS (by walk_at "side") | exact ad_int | exact ad_intB | exact ad_tupleL | assumption)
local macro_rules | `(tactic| walk_at "ev") => `(tactic| first
  | exact ec_int | exact ec_str | exact ec_bl | exact ec_non
  | exact ec_var rfl | exact ec_varL rfl | exact es_var rfl | exact el_var rfl
  | assumption
  | exact ea_nil | (apply ea_cons; walk_at "ev"; walk_at "ev")
  | (apply ec_op; walk_at "ev"; walk_at "ev"; walk_at "rd")
  | (apply ec_un; walk_at "ev"; exact ud_neg)
  | (apply ec_cb; walk_at "ev"; walk_at "ad")
  | (apply ec_chain; walk_at "ev"; walk_at "ev"; walk_at "rd"; walk_at "ev"; walk_at "rd")
  | exact ecl_of (el_of (by assumption)) | exact el_of (by assumption)
  | (apply ec_call; walk_at "ev"; walk_at "call")
  | (apply ec_tup; walk_at "ev"; (simp; done))
  | (apply et_test; walk_at "ev") | (apply et_B; walk_at "ev") | (apply et_not; walk_at "ev")
  | (apply et_and; walk_at "ev"; (intro _; walk_at "ev")) | (apply et_or; walk_at "ev"; (intro _; walk_at "ev"))
  | (apply ec_and; walk_at "ev"; (intro _; walk_at "ev")) | (apply ec_or; walk_at "ev"; (intro _; walk_at "ev")) | (apply ec_not; walk_at "ev")
  | exact eo_none | (apply eo_some; walk_at "ev"))
local macro_rules | `(tactic| walk_at "call") => `(tactic| first
  | assumption | exact r_is_name (by walk_at "side") | exact r_is_path (by walk_at "side")
  | exact ⟨rfl, rfl⟩ | exact ⟨_, rfl, rfl⟩ | exact ⟨_, _, rfl, rfl⟩ | exact ⟨_, _, (by assumption), rfl, rfl⟩)
section
variable {K : PySem.W.Frag} {mg : Str → Option Value}
theorem v_tail (n : Nat) (T : Tx K mg) {S : List Str} {e : Exp} {k : Str} (hS : OkS S) (hg : Good S e) (hn : dep e ≤ n + 1) (hv : valid e = (kindOk k && (parts e).all valid)) :
    StF K (tSeq (tIfS (tAnd (tTest (tOp (rNinU K) (tVar 1) (tC (.ref (He.ga K "PAIRS"))))) (tTest (tOp (rNinU K) (tVar 1) (tTup (tCons (tC (.str "pick")) (tCons (tC (.str "shift")) tNil)))))) (tRet (tC (.bl false))) tNext)
  (tRet (tCB (rAll K) (tCons (tLc (iList K (tCall (spF K R_parts) [] E0 (tCons (tVar 0) tNil))) (gName 2) tYes (tCall (spF K (R_has_valid_names n)) [] E0 (tCons (tVar 2) tNil)) [2]) tNil)))) [some (.im (enc e)), some (.im (.str k)), none, none] (Po0 (.d (.bool (valid e)))) := by
  have hP : ∀ {fs : Fm}, EvC K fs (tC (.ref (He.ga K "PAIRS"))) (.tuple (pairs.map .str)) := fun {fs} => ec_K fun H => dp_strsT (zs := pairs) T.k_PAIRS H
  have hQ : ∀ {fs : Fm}, EvC K fs (tTup (tCons (tC (.str "pick")) (tCons (tC (.str "shift")) tNil))) (.tuple ((["pick", "shift"] : List Str).map .str)) := fun {fs} => ec_tup (as := [.str "pick", .str "shift"]) (ea_cons ec_str (ea_cons ec_str ea_nil)) (by simp)
  refine sq_ret (b := !decide (k ∈ pairs) && !decide (k ∈ (["pick", "shift"] : List Str))) (et_and (et_test (ec_op (ec_var rfl) hP rd_ninT)) fun _ => et_test (ec_op (ec_var rfl) hQ rd_ninT)) (fun e => sf_ret (es_of (d := .bool false) ec_bl rfl) ?_) fun e => ?_
  · show PyData.bool false = .bool (valid _)
    rw [hv]
    have : kindOk k = false := by
      unfold kindOk
      rw [Bool.and_eq_true, Bool.not_eq_true', Bool.not_eq_true'] at e
      rw [e.1, e.2]
      rfl
    rw [this]
    rfl
  · have hk : kindOk k = true := by
      unfold kindOk
      revert e
      cases decide (k ∈ pairs) <;> cases decide (k ∈ (["pick", "shift"] : List Str)) <;> simp
    refine sf_ret (es_of (d := .bool ((parts _).all valid)) (ec_cb (ea_cons (ecl_of (el_of (en_lcM (f := enc) (xs := parts _) (fun p => .bool (valid p)) (ew_of (ei_N (en_call (R := R_parts) (ea_cons (ec_var rfl) ea_nil) (r_parts hg) (imm_parts _)) (imm_parts _))) (Nat.lt_of_le_of_lt (parts_few _) (by decide)) fun p hp => ⟨_, putc_name (by decide) (lt_rfl rfl) (imm_enc _), ?_, rfl⟩))) ea_nil) ad_allM) rfl) ?_
    · have := dep_parts hp
      exact ec_call (R := R_has_valid_names n) (ea_cons (ec_var rfl) ea_nil) ⟨S, p, hS, good_parts hg hp, by omega, rfl, rfl⟩
    · show PyData.bool _ = .bool (valid _)
      rw [hv, hk, Bool.true_and]
theorem p_has_valid_names (n : Nat) (T : Tx K mg) : ∀ ds r, R_has_valid_names (n + 1) ds r → StF K (t_has_valid_names K (spF K R_parts) (spF K (R_has_valid_names n)) (spF K R_is_integer) (spF K R_is_path)) (startF 4 ds) (Po0 r) := by
  rintro ds r ⟨S, e, hS, hg, hn, rfl, rfl⟩
  have gen : ∀ (k : Str), Free k → EvC K [some (.im (enc e)), none, none, none] (tOp (rIx K) (tVar 0) (tC (.int 0))) (.str k) → valid e = (kindOk k && (parts e).all valid) → StF K (t_has_valid_names K (spF K R_parts) (spF K (R_has_valid_names n)) (spF K R_is_integer) (spF K R_is_path)) [some (.im (enc e)), none, none, none] (Po0 (.d (.bool (valid e)))) := fun k hk h0 hv =>
    sq_asg (d := .str k) (es_of h0 rfl) (sq_retF (et_eq (et_test (ec_op (ec_var rfl) ec_str rd_eqS)) (decide_eq_false hk.1)) (sq_retF (et_eq (et_test (ec_op (ec_var rfl) ec_str rd_eqS)) (decide_eq_false hk.2.1))
      (sq_retF (et_eq (et_and (a := false) (b := true) (et_eq (et_test (ec_op (ec_var rfl) ec_str rd_eqS)) (decide_eq_false hk.2.2)) fun e => nomatch e) rfl) (v_tail n T hS hg hn hv))))
  cases e with
  | path p =>
    refine sq_asg (d := .str "path") (es_of (ec_op (ec_var rfl) ec_int (rd_ixT rfl)) rfl) (sq_retT (et_eq (et_test (ec_op (ec_var rfl) ec_str rd_eqS)) (by decide +kernel)) (sf_ret (es_of (d := .bool (pathOk p)) (ec_call (R := R_is_path) (ea_cons (ec_op (ec_var rfl) ec_int (rd_ixT rfl)) ea_nil) (r_is_path ?_)) rfl) rfl))
    exact Nat.le_trans (hS.ok p hg).1 (by decide)
  | num i =>
    exact sq_asg (d := .str "number") (es_of (ec_op (ec_var rfl) ec_int (rd_ixT rfl)) rfl) (sq_retF (et_eq (et_test (ec_op (ec_var rfl) ec_str rd_eqS)) (by decide +kernel)) (sq_retT (et_eq (et_test (ec_op (ec_var rfl) ec_str rd_eqS)) (by decide +kernel)) (sf_ret (es_of (d := .bool (numOk i)) (ec_call (R := R_is_integer) (ea_cons (ec_op (ec_var rfl) ec_int (rd_ixT rfl)) ea_nil) ⟨i, rfl, rfl⟩) rfl) rfl)))
  | two k a b => exact gen k hg.1 (ec_op (ec_var rfl) ec_int (rd_ixT rfl)) rfl
  | three k a b c => exact gen k hg.1 (ec_op (ec_var rfl) ec_int (rd_ixT rfl)) rfl
  | shift a o =>
    refine sq_asg (d := .str "shift") (es_of (ec_op (ec_var rfl) ec_int (rd_ixT rfl)) rfl) (sq_retF (et_eq (et_test (ec_op (ec_var rfl) ec_str rd_eqS)) (by decide +kernel)) (sq_retF (et_eq (et_test (ec_op (ec_var rfl) ec_str rd_eqS)) (by decide +kernel)) ?_))
    refine sq_ret (b := true && !(o.all numOk)) (et_and (et_eq (et_test (ec_op (ec_var rfl) ec_str rd_eqS)) (by decide +kernel)) fun _ => et_not (et_B (ec_cb (ea_cons (ecl_of (el_of (en_lcM (f := PyData.int) (xs := o) (fun i => .bool (numOk i)) (ew_tup (ec_op (ec_var rfl) ec_int (rd_ixT rfl))) (Nat.lt_of_le_of_lt hg.2 (by decide)) fun i _ => ⟨_, putc_name (by decide) (lt_rfl rfl) rfl, ec_call (R := R_is_integer) (ea_cons (ec_var rfl) ea_nil) ⟨i, rfl, rfl⟩, rfl⟩))) ea_nil) ad_allM))) (fun e => sf_ret (es_of (d := .bool false) ec_bl rfl) ?_) fun e => v_tail n T hS hg hn ?_
    · show PyData.bool false = .bool (o.all numOk && (valid a && true))
      rw [Bool.true_and, Bool.not_eq_true'] at e
      rw [e]
      rfl
    · rw [Bool.true_and, Bool.not_eq_false'] at e
      show (o.all numOk && (valid a && true)) = (kindOk "shift" && (valid a && true))
      rw [e, show kindOk "shift" = true by decide +kernel]
theorem p_is_expression : ∀ ds r, R_is_expression ds r → StF K (t_is_expression K (spF K (R_has_valid_names 40)) (spF K (R_depth 40))) (startF 1 ds) (Po0 r) := by
  rintro ds r ⟨S, e, hS, hg, hn, rfl, rfl⟩
  exact sf_ret (es_of (ec_and (ec_call (R := R_has_valid_names 40) (ea_cons (ec_var rfl) ea_nil) ⟨S, e, hS, hg, hn, rfl, rfl⟩) fun _ => ec_op (ec_call (R := R_depth 40) (ea_cons (ec_var rfl) ea_nil) (r_depth hg hn)) ec_int rd_leI) rfl) rfl
theorem p_law : ∀ ds r, R_law ds r → StF K (t_law K (spF K R_is_texts) (spF K (R_paths 40)) (spF K (R_paths 40)) (spF K R_is_bool) (spF K R_is_expression) (spF K R_is_number) (spF K (R_depth 40)) (spF K (R_depth 40)) (spF K R_is_path) (spF K R_wild) (spF K (R_expr 4)) (spF K R_stream)) (startF 10 ds) (Po0 r) := by
  rintro ds r ⟨sc, rfl, rfl⟩
  refine sq_asgN (o := .lst ((draws sc).map .int)) (en_call (R := R_stream) (ea_cons (ec_var rfl) (ea_cons ec_int ea_nil)) ⟨sc, rfl, rfl⟩ (immAll_ints _)) fun a => ?_
  have hD := draws_ok sc
  generalize draws sc = D at hD
  have h0 := at_lo hD 0
  have h4 := at_lo hD 4
  have h5 := at_lo hD 5
  have h6 := at_lo hD 6
  refine sq_asg (d := enc (e0 D)) (es_of (ec_call (R := R_expr 4) (as := [lints D, .int 1, .int ((at_ D 0 % 4).toNat : Nat), .int 2]) (ea_cons (ec_varL rfl) (ea_cons ec_int (ea_cons (ec_eq (c := .int ((at_ D 0 % 4).toNat : Nat)) (d := .int (at_ D 0 % 4)) (by walk_at "ev") (congrArg PyData.int (by omega))) (ea_cons ec_int ea_nil)))) ⟨D, 1, (at_ D 0 % 4).toNat, hD, by omega, rfl, rfl⟩) (imm_enc _)) ?_
  refine sq_asg (d := .bool (wr0 D)) (es_of (by walk_at "ev") rfl) ?_
  refine sq_when (gs := [some (.im (lints sc)), some (.ob a (.lst (D.map .int))), some (.im (enc (e1 D))), some (.im (.bool (wr D))), none, none, none, none, none, none]) (b := wr0 D) (by walk_at "ev") (fun e => ?_) (fun e => ?_) ?_
  · have he : e1 D = wrap D (bad D (e0 D)) (e0 D) := if_pos e
    have hw : wr D = wr1 D := if_pos e
    rw [he, hw]
    refine sq_asg (d := .str (wild D 20)) (es_of (ec_call (R := R_wild) (ea_cons (ec_varL rfl) (ea_cons ec_int ea_nil)) ⟨D, 20, hD, rfl, rfl⟩) rfl) ?_
    refine sq_asg (d := enc (bad D (e0 D))) (es_of (ec_op (ec_lst (as := (bads D (e0 D)).map enc) ?_ (by simp [bads])) (b := .int (at_ D 4 % 8)) (by walk_at "ev") (rd_M (xs := bads D (e0 D)) (i := at_ D 4 % 8) (e0 D) (by omega) (by show at_ D 4 % 8 < ((8 : Nat) : Int); omega))) (imm_enc _)) ?_
    · have p30 : ∀ {fs : Fm}, EvC K fs (tOp rPowU (tC (.int 10)) (tC (.int 30))) (.int 1000000000000000000000000000000) := fun {fs} => ec_op ec_int ec_int (rd_pow ⟨by decide, by decide, by decide⟩)
      refine ea_cons (ec_tup (as := [.str "path", .str (wild D 20)]) (ea_cons ec_str (ea_cons (ec_var rfl) ea_nil)) (by simp)) ?_
      refine ea_cons (ec_tup (as := [.str "number", .int 1000000000000000000000000000000]) (ea_cons ec_str (ea_cons p30 ea_nil)) (by simp)) ?_
      refine ea_cons (ec_tup (as := [.str "number", .int (-1000000000000000000000000000000 - at_ D 3)]) (ea_cons ec_str (ea_cons (ec_op (ec_un p30 ud_neg) (by walk_at "ev") rd_subI) ea_nil)) (by simp)) ?_
      refine ea_cons (ec_tup (as := [.str "Add", enc (e0 D), enc (e0 D)]) (ea_cons ec_str (ea_cons (ec_var rfl) (ea_cons (ec_var rfl) ea_nil))) (by simp)) ?_
      refine ea_cons (ec_tup (as := [.str "div", enc (e0 D), enc (e0 D)]) (ea_cons ec_str (ea_cons (ec_var rfl) (ea_cons (ec_var rfl) ea_nil))) (by simp)) ?_
      refine ea_cons (ec_tup (as := [.str "shift", enc (e0 D), .tuple [.int 1, .int 1000000000000000000000000000000]]) (ea_cons ec_str (ea_cons (ec_var rfl) (ea_cons (ec_tup (ea_cons ec_int (ea_cons p30 ea_nil)) (by simp)) ea_nil))) (by simp)) ?_
      refine ea_cons (ec_tup (as := [.str "path", .str "A"]) (ea_cons ec_str (ea_cons ec_str ea_nil)) (by simp)) ?_
      exact ea_cons (ec_tup (as := [.str "number", .int (1000000000000000000000000000000 - 1)]) (ea_cons ec_str (ea_cons (ec_op p30 ec_int rd_subI) ea_nil)) (by simp)) ea_nil
    refine sq_asg (d := .bool (wr1 D)) (es_of (ec_or (ec_op (b := .tuple (([0, 7] : List Int).map .int)) (a := .int (at_ D 4 % 8)) (by walk_at "ev") (ec_tup (as := [.int 0, .int 7]) (ea_cons ec_int (ea_cons ec_int ea_nil)) (by simp)) rd_ninTI) fun _ => ec_and (ec_op (a := .int (at_ D 4 % 8)) (by walk_at "ev") ec_int rd_eqI) fun _ => ec_not (ec_call (R := R_is_path) (ea_cons (ec_var rfl) ea_nil) (r_is_path (Nat.le_trans (wild_ok D 20).1 (by decide))))) rfl) ?_
    refine sf_asg (d := enc (wrap D (bad D (e0 D)) (e0 D))) (es_of (ec_op (ec_lst (as := (wraps (bad D (e0 D)) (e0 D)).map enc) ?_ (by simp [wraps])) (b := .int (at_ D 5 % 5)) (by walk_at "ev") (rd_M (xs := wraps (bad D (e0 D)) (e0 D)) (i := at_ D 5 % 5) (e0 D) (by omega) (by show at_ D 5 % 5 < ((5 : Nat) : Int); omega))) (imm_enc _)) (lt_rfl rfl) ?_
    · refine ea_cons (ec_var rfl) ?_
      refine ea_cons (ec_tup (as := [.str "add", enc (bad D (e0 D)), enc (e0 D)]) (ea_cons ec_str (ea_cons (ec_var rfl) (ea_cons (ec_var rfl) ea_nil))) (by simp)) ?_
      refine ea_cons (ec_tup (as := [.str "pick", enc (e0 D), enc (e0 D), enc (bad D (e0 D))]) (ea_cons ec_str (ea_cons (ec_var rfl) (ea_cons (ec_var rfl) (ea_cons (ec_var rfl) ea_nil)))) (by simp)) ?_
      refine ea_cons (ec_tup (as := [.str "shift", enc (bad D (e0 D)), .tuple [.int 0]]) (ea_cons ec_str (ea_cons (ec_var rfl) (ea_cons (ec_tup (ea_cons ec_int ea_nil) (by simp)) ea_nil))) (by simp)) ?_
      exact ea_cons (ec_tup (as := [.str "less", enc (e0 D), enc (bad D (e0 D))]) (ea_cons ec_str (ea_cons (ec_var rfl) (ea_cons (ec_var rfl) ea_nil))) (by simp)) ea_nil
    · exact .cons (.cons (.cons (.cons (.drop (.drop (.cons (.cons (.cons (.cons .nil)))))))))
  · have he : e1 D = e0 D := if_neg (by rw [e]; exact Bool.false_ne_true)
    have hw : wr D = wr0 D := by rw [e]; exact if_neg (by rw [e]; exact Bool.false_ne_true)
    rw [he, hw]
    exact .cons (.cons (.cons (.cons (.cons (.cons (.cons (.cons (.cons (.cons .nil)))))))))
  refine sq_asg (d := .int (goal D)) (es_of (ec_op (ec_lst (as := ([0, 0, 11, 12, 13, 30] : List Int).map .int) ?_ (by simp)) (b := .int (at_ D 6 % 6)) (by walk_at "ev") (rd_M (xs := ([0, 0, 11, 12, 13, 30] : List Int)) (i := at_ D 6 % 6) 0 (by omega) (by show at_ D 6 % 6 < ((6 : Nat) : Int); omega))) rfl) ?_
  · exact ea_cons ec_int (ea_cons ec_int (ea_cons ec_int (ea_cons ec_int (ea_cons ec_int (ea_cons ec_int ea_nil)))))
  refine sf_seq (M := fun f => Le f [some (.im (lints sc)), some (.ob a (.lst (D.map .int))), some (.im (enc (gSt D 30))), some (.im (.bool (wr D))), none, none, some (.im (.int (goal D))), none, none, none])
    (sf_for (fun i f => Le f [some (.im (lints sc)), some (.ob a (.lst (D.map .int))), some (.im (enc (gSt D i))), some (.im (.bool (wr D))), none, none, some (.im (.int (goal D))), none, none, none])
      (ei_rng (n := 30) (ea_cons ec_int ea_nil) rfl (by decide) (by decide)) (Le.refl _) (fun i d f hd hf => ?_) fun f hf => ?_) fun f hf => sf_le ?_ hf
  · obtain ⟨hi, rfl⟩ := range_at hd
    refine ⟨_, put_le hf (lt_rfl rfl) rfl, sf_le ?_ (hf.set 7 _)⟩
    obtain ⟨g1, g2, _⟩ := gSt_ok hD i (by omega)
    have hstep := gSt_succ D i
    unfold grow at hstep
    refine sf_if (b := decide ((dep (gSt D i) : Int) < goal D)) (et_test (ec_op (ec_call (R := R_depth 40) (ea_cons (ec_var rfl) ea_nil) (r_depth g1 (by omega))) (ec_var rfl) rd_ltI)) (fun e => ?_) fun e => ?_
    · rw [if_pos (of_decide_eq_true e)] at hstep
      refine sf_asg (d := enc (gSt D (i + 1))) (es_of (ec_if (b := decide (at_ D (7 + (i : Int) % 12) % 2 = 0)) ?_ (fun e2 => ?_) fun e2 => ?_) (imm_enc _)) (lt_rfl rfl) (.cons (.cons (.cons (.cons (.cons (.cons (.cons (.drop (.cons (.cons .nil))))))))))
      · refine et_test (ec_op (ec_op (ec_op (ec_varL rfl) (b := .int (7 + (i : Int) % 12)) (by walk_at "ev") (rd_D0 hD (by omega))) ec_int (rd_mod (by decide))) ec_int rd_eqI)
      · rw [hstep, if_pos (of_decide_eq_true e2)]
        exact ec_tup (as := [.str "shift", enc (gSt D i), .tuple [.int 1, .int (-1)]]) (ea_cons ec_str (ea_cons (ec_var rfl) (ea_cons (ec_tup (ea_cons ec_int (ea_cons (ec_un ec_int ud_neg) ea_nil)) (by simp)) ea_nil))) (by simp)
      · rw [hstep, if_neg (of_decide_eq_false e2)]
        exact ec_tup (as := [.str "sub", .tuple [.str "number", .int (i : Nat)], enc (gSt D i)]) (ea_cons ec_str (ea_cons (ec_tup (ea_cons ec_str (ea_cons (ec_var rfl) ea_nil)) (by simp)) (ea_cons (ec_var rfl) ea_nil))) (by simp)
    · rw [if_neg (of_decide_eq_false e)] at hstep
      refine sf_next ?_
      show Le _ [some (.im (lints sc)), some (.ob a (.lst (D.map .int))), some (.im (enc (gSt D (i + 1)))), some (.im (.bool (wr D))), none, none, some (.im (.int (goal D))), none, none, none]
      rw [hstep]
      exact .cons (.cons (.cons (.cons (.cons (.cons (.cons (.drop (.cons (.cons .nil)))))))))
  · rw [List.length_map, List.length_range] at hf
    exact hf
  obtain ⟨g1, g2, g3⟩ := gSt_ok hD 30 (by decide)
  generalize gSt D 30 = e at g1 g2 g3
  have hS := SD_ok D
  have hE : ∀ {fs : Fm}, fs[2]? = some (some (.im (enc e))) → EvA K fs (tCons (tVar 2) tNil) [enc e] := fun {fs} h => ea_cons (ec_var h) ea_nil
  refine sq_asg (d := .int (dep e)) (es_of (ec_call (R := R_depth 40) (hE rfl) (r_depth g1 (by omega))) rfl) ?_
  refine sq_retF (et_eq (et_not (et_B (ec_call (R := R_is_number) (ea_cons (ec_call (R := R_depth 40) (hE rfl) (r_depth g1 (by omega))) (ea_cons (ec_var rfl) ea_nil)) ⟨_, _, rfl, rfl⟩))) (by rw [decide_eq_true rfl]; rfl)) ?_
  refine sq_retF (et_eq (et_not (et_B (ec_call (R := R_is_bool) (ea_cons (ec_call (R := R_is_expression) (hE rfl) ⟨_, e, hS, g1, by omega, rfl, rfl⟩) (ea_cons (ec_and (ec_not (ec_var rfl)) fun _ => ec_op (ec_var rfl) ec_int rd_leI) ea_nil)) ⟨_, _, rfl, rfl⟩))) (by rw [g3, decide_eq_true rfl]; rfl)) ?_
  obtain ⟨ys, hys⟩ := canon_ex (paths e)
  have hl := canon_few hS g1 hys
  refine sq_asgN (o := .lst (ys.map .str)) (en_call (R := R_paths 40) (hE rfl) ⟨_, e, ys, hS, g1, by omega, hys, rfl, rfl⟩ (immAll_strs _)) fun b => ?_
  exact sf_ret (es_of (d := .bool true) (ec_call (R := R_is_texts) (ea_cons (ec_varL rfl) (ea_cons (ecl_of (el_of (en_call (R := R_paths 40) (hE rfl) ⟨_, e, ys, hS, g1, by omega, hys, rfl, rfl⟩ (immAll_strs _)))) (ea_cons ec_str ea_nil))) ⟨ys, by omega, rfl, rfl⟩) rfl) rfl
end
end T94

set_option maxHeartbeats 0
namespace T94
open PySem PySem.Spec PyProof.Rows L2 T9
section
variable {P : Program} {w : World} {K : PySem.W.Frag} {mg : Str → Option Value} {base : Heap}
theorem C_is_name (T : Tx K mg) (k : Nat) : Cl P w K mg base CX0 (k + 1) "is_name" (spF K R_is_name) := ok_is_name T (spF_len fun _ _ ⟨_, _, e, _⟩ => by rw [e]; rfl) (run_pure rfl p_is_name)
theorem C_is_path (T : Tx K mg) (k : Nat) : Cl P w K mg base CX0 (k + 2) "is_path" (spF K R_is_path) := ok_is_path T (C_is_name T k) (spF_len fun _ _ ⟨_, _, e, _⟩ => by rw [e]; rfl) (run_pure rfl p_is_path)
theorem C_parts (T : Tx K mg) (k : Nat) : Cl P w K mg base CX0 (k + 1) "parts_of" (spF K R_parts) := ok_parts_of T (spF_len fun _ _ ⟨_, _, _, e, _⟩ => by rw [e]; rfl) (run_pure rfl p_parts_of)
theorem C_lparts (T : Tx K mg) (k : Nat) : Cl P w K mg base CX0 (k + 1) "_law_parts" (spF K R_parts) := ok__law_parts T (spF_len fun _ _ ⟨_, _, _, e, _⟩ => by rw [e]; rfl) (run_pure rfl p_law_parts)
theorem C_is_integer (T : Tx K mg) (k : Nat) : Cl P w K mg base CX0 (k + 1) "is_integer" (spF K R_is_integer) := ok_is_integer T (spF_len fun _ _ ⟨_, e, _⟩ => by rw [e]; rfl) (run_pure rfl p_is_integer)
theorem no_depth {vs : List V} {H : Hp} {Q : VK} {E : XK} (h : spF K (R_depth 0) vs H Q E) : False := by
  obtain ⟨ds, r, ⟨S, e, _, hn, _⟩, _⟩ := h
  have := dep_pos e
  omega
theorem no_valid {vs : List V} {H : Hp} {Q : VK} {E : XK} (h : spF K (R_has_valid_names 0) vs H Q E) : False := by
  obtain ⟨ds, r, ⟨S, e, _, _, hn, _⟩, _⟩ := h
  have := dep_pos e
  omega
theorem no_paths {vs : List V} {H : Hp} {Q : VK} {E : XK} (h : spF K (R_paths 0) vs H Q E) : False := by
  obtain ⟨ds, r, ⟨S, e, ys, _, _, hn, _⟩, _⟩ := h
  have := dep_pos e
  omega
theorem no_expr {vs : List V} {H : Hp} {Q : VK} {E : XK} (h : spF K (R_expr 0) vs H Q E) : False := by
  obtain ⟨ds, r, ⟨D, a, d, _, hn, _⟩, _⟩ := h
  omega
theorem no_coll {vs : List V} {H : Hp} {Q : VK} {E : XK} (h : spColl K 0 vs H Q E) : False := by
  obtain ⟨S, e, ks, v, a, _, _, hn, _⟩ := h
  have := dep_pos e
  omega
theorem C_depth (T : Tx K mg) : ∀ n : Nat, Cl P w K mg base CX0 (n + 1) "depth" (spF K (R_depth n))
  | 0 => by
    obtain ⟨fd, F⟩ := T.f_depth
    exact ⟨_, fd, ["expression"], T.g_depth, F.kp, FunD.bindsN F fun _ _ _ _ _ _ us hl => match us, hl with | [_], _ => rfl, F.ok sc_depth (fun _ _ _ _ h => (no_depth h).elim) fun _ _ _ _ _ _ _ _ _ h => (no_depth h).elim⟩
  | n + 1 => ok_depth T (C_parts T n) (C_depth T n) (spF_len fun _ _ ⟨_, _, _, _, e, _⟩ => by rw [e]; rfl) (run_pure rfl (p_depth n))
theorem C_ldepth (T : Tx K mg) : ∀ n : Nat, Cl P w K mg base CX0 (n + 1) "_law_depth" (spF K (R_depth n))
  | 0 => by
    obtain ⟨fd, F⟩ := T.f__law_depth
    exact ⟨_, fd, ["_law_expression_here"], T.g__law_depth, F.kp, FunD.bindsN F fun _ _ _ _ _ _ us hl => match us, hl with | [_], _ => rfl, F.ok sc__law_depth (fun _ _ _ _ h => (no_depth h).elim) fun _ _ _ _ _ _ _ _ _ h => (no_depth h).elim⟩
  | n + 1 => ok__law_depth T (C_lparts T n) (C_ldepth T n) (spF_len fun _ _ ⟨_, _, _, _, e, _⟩ => by rw [e]; rfl) (run_pure rfl (p_law_depth n))
theorem C_valid (T : Tx K mg) : ∀ n : Nat, Cl P w K mg base CX0 (n + 2) "has_valid_names" (spF K (R_has_valid_names n))
  | 0 => by
    obtain ⟨fd, F⟩ := T.f_has_valid_names
    exact ⟨_, fd, ["expression"], T.g_has_valid_names, F.kp, FunD.bindsN F fun _ _ _ _ _ _ us hl => match us, hl with | [_], _ => rfl, F.ok sc_has_valid_names (fun _ _ _ _ h => (no_valid h).elim) fun _ _ _ _ _ _ _ _ _ h => (no_valid h).elim⟩
  | n + 1 => ok_has_valid_names T (C_parts T (n + 1)) (C_valid T n) (C_is_integer T (n + 1)) (C_is_path T n) (spF_len fun _ _ ⟨_, _, _, _, _, e, _⟩ => by rw [e]; rfl) (run_pure rfl (p_has_valid_names n T))
theorem C_coll (T : Tx K mg) : ∀ n : Nat, Cl P w K mg base CX0 (n + 1) "collect_paths" (spColl K n)
  | 0 => by
    obtain ⟨fd, F⟩ := T.f_collect_paths
    exact ⟨_, fd, ["expression", "found"], T.g_collect_paths, F.kp, FunD.bindsN F fun _ _ _ _ _ _ us hl => match us, hl with | [_, _], _ => rfl, F.ok sc_collect_paths (fun _ _ _ _ h => (no_coll h).elim) fun _ _ _ _ _ _ _ _ _ h => (no_coll h).elim⟩
  | n + 1 => ok_collect_paths T (C_parts T n) (C_coll T n) (fun vs H Q E h => by
      obtain ⟨S, e, ks, v, a, _, _, _, _, rfl, _⟩ := h
      rfl) (r_coll n)
theorem C_distinct (T : Tx K mg) (k : Nat) : Cl P w K mg base CX0 (k + 1) "_law_distinct" (spF K R_distinct) := ok__law_distinct T (spF_len fun _ _ ⟨_, _, _, _, _, e, _⟩ => by rw [e]; rfl) (run_pure rfl p_law_distinct)
theorem C_lpaths (T : Tx K mg) : ∀ n : Nat, Cl P w K mg base CX0 (n + 1) "_law_paths" (spF K (R_paths n))
  | 0 => by
    obtain ⟨fd, F⟩ := T.f__law_paths
    exact ⟨_, fd, ["_law_expression_here"], T.g__law_paths, F.kp, FunD.bindsN F fun _ _ _ _ _ _ us hl => match us, hl with | [_], _ => rfl, F.ok sc__law_paths (fun _ _ _ _ h => (no_paths h).elim) fun _ _ _ _ _ _ _ _ _ h => (no_paths h).elim⟩
  | n + 1 => ok__law_paths T (C_distinct T n) (C_lparts T n) (C_lpaths T n) (spF_len fun _ _ ⟨_, _, _, _, _, _, _, e, _⟩ => by rw [e]; rfl) (run_pure rfl (p_law_paths n))
theorem C_expr (T : Tx K mg) : ∀ n : Nat, Cl P w K mg base CX0 (n + 1) "_law_expression" (spF K (R_expr n))
  | 0 => by
    obtain ⟨fd, F⟩ := T.f__law_expression
    exact ⟨_, fd, ["_law_draws_here", "_law_at", "_law_deep", "_law_dimensions"], T.g__law_expression, F.kp, FunD.bindsN F fun _ _ _ _ _ _ us hl => match us, hl with | [_, _, _, _], _ => rfl, F.ok sc__law_expression (fun _ _ _ _ h => (no_expr h).elim) fun _ _ _ _ _ _ _ _ _ h => (no_expr h).elim⟩
  | n + 1 => ok__law_expression T (C_expr T n) (spF_len fun _ _ ⟨_, _, _, _, _, e, _⟩ => by rw [e]; rfl) (run_pure rfl (p_law_expression n))
theorem C_law (T : Tx K mg) {fd : FuncData} (F : FunD K "law" "law" (defArgs (top 37)) (defBody (top 37)) (defScope (top 37)) [] [] (He.ga K "law") fd) : FnOk P w K mg base CX0 50 (He.ga K "law") fd ["_law_script"] (spF K R_law) := by
  have is_int : Cl P w K mg base CX0 1 "_law_is_int" (spF K R_is_int) := ok__law_is_int T (spF_len fun _ _ ⟨_, e, _⟩ => by rw [e]; rfl) (run_pure rfl p_law_is_int)
  have is_bool : Cl P w K mg base CX0 1 "_law_is_bool" (spF K R_is_bool) := ok__law_is_bool T (spF_len fun _ _ ⟨_, _, e, _⟩ => by rw [e]; rfl) (run_pure rfl p_law_is_bool)
  have is_text : Cl P w K mg base CX0 1 "_law_is_text" (spF K R_is_text) := ok__law_is_text T (spF_len fun _ _ ⟨_, _, e, _⟩ => by rw [e]; rfl) (run_pure rfl p_law_is_text)
  have is_number : Cl P w K mg base CX0 2 "_law_is_number" (spF K R_is_number) := ok__law_is_number T is_int (spF_len fun _ _ ⟨_, _, e, _⟩ => by rw [e]; rfl) (run_pure rfl p_law_is_number)
  have is_texts : Cl P w K mg base CX0 2 "_law_is_texts" (spF K R_is_texts) := ok__law_is_texts T is_text (spF_len fun _ _ ⟨_, _, e, _⟩ => by rw [e]; rfl) (run_pure rfl p_law_is_texts)
  have cell : Cl P w K mg base CX0 1 "_law_cell" (spF K R_cell) := ok__law_cell T (spF_len fun _ _ ⟨_, _, e, _⟩ => by rw [e]; rfl) (run_pure rfl p_law_cell)
  have draws : Cl P w K mg base CX0 1 "_law_draws" (spF K R_draws) := ok__law_draws T (spF_len fun _ _ ⟨_, e, _⟩ => by rw [e]; rfl) (run_pure rfl p_law_draws)
  have stream : Cl P w K mg base CX0 2 "_law_stream" (spF K R_stream) := ok__law_stream T draws cell (spF_len fun _ _ ⟨_, e, _⟩ => by rw [e]; rfl) (run_pure rfl p_law_stream)
  have signs : Cl P w K mg base CX0 2 "_law_signs" (spF K R_signs) := ok__law_signs T (spF_len fun _ _ ⟨e, _⟩ => by rw [e]; rfl) (run_pure rfl p_law_signs)
  have lett : Cl P w K mg base CX0 1 "_law_letters" (spF K R_letters) := ok__law_letters T (spF_len fun _ _ ⟨e, _⟩ => by rw [e]; rfl) (run_pure rfl p_law_letters)
  have name : Cl P w K mg base CX0 2 "_law_name" (spF K R_name) := ok__law_name T lett (spF_len fun _ _ ⟨_, _, _, e, _⟩ => by rw [e]; rfl) (run_pure rfl p_law_name)
  have wild : Cl P w K mg base CX0 3 "_law_wild_path" (spF K R_wild) := ok__law_wild_path T signs name (spF_len fun _ _ ⟨_, _, _, e, _⟩ => by rw [e]; rfl) (run_pure rfl p_law_wild)
  have ndue : Cl P w K mg base CX0 2 "_law_is_name_due" (spF K R_is_name) := ok__law_is_name_due T lett (spF_len fun _ _ ⟨_, _, e, _⟩ => by rw [e]; rfl) (run_pure rfl p_law_is_name_due)
  have pdue : Cl P w K mg base CX0 3 "_law_is_path_due" (spF K R_is_path) := ok__law_is_path_due T ndue (spF_len fun _ _ ⟨_, _, e, _⟩ => by rw [e]; rfl) (run_pure rfl p_law_is_path_due)
  have isexp : Cl P w K mg base CX0 43 "is_expression" (spF K R_is_expression) := ok_is_expression T (C_valid T 40) ((C_depth T 40).mono (by decide)) (spF_len fun _ _ ⟨_, _, _, _, _, e, _⟩ => by rw [e]; rfl) (run_pure rfl p_is_expression)
  have pathsof : Cl P w K mg base CX0 42 "paths_of" (spF K (R_paths 40)) := ok_paths_of T (C_coll T 40) (spF_len fun _ _ ⟨_, _, _, _, _, _, _, e, _⟩ => by rw [e]; rfl) (run_pure rfl p_paths_of)
  exact ok_law (k := 49) T F (is_texts.mono (by decide)) ((C_lpaths T 40).mono (by decide)) (pathsof.mono (by decide)) (is_bool.mono (by decide)) (isexp.mono (by decide)) (is_number.mono (by decide)) ((C_depth T 40).mono (by decide)) ((C_ldepth T 40).mono (by decide)) (pdue.mono (by decide)) (wild.mono (by decide)) ((C_expr T 4).mono (by decide)) (stream.mono (by decide)) (spF_len fun _ _ ⟨_, e, _⟩ => by rw [e]; rfl) (run_pure rfl p_law)
end
/-! ### the head -/
def d_is_name : He.DefD := ⟨("is_name", none), "is_name", "is_name", defArgs (top 4), defBody (top 4), defScope (top 4), [], []⟩
def d_is_path : He.DefD := ⟨("is_path", none), "is_path", "is_path", defArgs (top 5), defBody (top 5), defScope (top 5), [], []⟩
def d_parts_of : He.DefD := ⟨("parts_of", none), "parts_of", "parts_of", defArgs (top 10), defBody (top 10), defScope (top 10), [], []⟩
def d_depth : He.DefD := ⟨("depth", none), "depth", "depth", defArgs (top 11), defBody (top 11), defScope (top 11), [], []⟩
def d_collect_paths : He.DefD := ⟨("collect_paths", none), "collect_paths", "collect_paths", defArgs (top 12), defBody (top 12), defScope (top 12), [], []⟩
def d_paths_of : He.DefD := ⟨("paths_of", none), "paths_of", "paths_of", defArgs (top 13), defBody (top 13), defScope (top 13), [], []⟩
def d_is_integer : He.DefD := ⟨("is_integer", none), "is_integer", "is_integer", defArgs (top 14), defBody (top 14), defScope (top 14), [], []⟩
def d_has_valid_names : He.DefD := ⟨("has_valid_names", none), "has_valid_names", "has_valid_names", defArgs (top 15), defBody (top 15), defScope (top 15), [], []⟩
def d_is_expression : He.DefD := ⟨("is_expression", none), "is_expression", "is_expression", defArgs (top 16), defBody (top 16), defScope (top 16), [], []⟩
def d__law_cell : He.DefD := ⟨("_law_cell", none), "_law_cell", "_law_cell", defArgs (top 18), defBody (top 18), defScope (top 18), [], []⟩
def d__law_draws : He.DefD := ⟨("_law_draws", none), "_law_draws", "_law_draws", defArgs (top 19), defBody (top 19), defScope (top 19), [], []⟩
def d__law_is_int : He.DefD := ⟨("_law_is_int", none), "_law_is_int", "_law_is_int", defArgs (top 20), defBody (top 20), defScope (top 20), [], []⟩
def d__law_is_bool : He.DefD := ⟨("_law_is_bool", none), "_law_is_bool", "_law_is_bool", defArgs (top 21), defBody (top 21), defScope (top 21), [], []⟩
def d__law_is_text : He.DefD := ⟨("_law_is_text", none), "_law_is_text", "_law_is_text", defArgs (top 22), defBody (top 22), defScope (top 22), [], []⟩
def d__law_is_number : He.DefD := ⟨("_law_is_number", none), "_law_is_number", "_law_is_number", defArgs (top 23), defBody (top 23), defScope (top 23), [], []⟩
def d__law_is_texts : He.DefD := ⟨("_law_is_texts", none), "_law_is_texts", "_law_is_texts", defArgs (top 24), defBody (top 24), defScope (top 24), [], []⟩
def d__law_stream : He.DefD := ⟨("_law_stream", none), "_law_stream", "_law_stream", defArgs (top 25), defBody (top 25), defScope (top 25), [], []⟩
def d__law_signs : He.DefD := ⟨("_law_signs", none), "_law_signs", "_law_signs", defArgs (top 26), defBody (top 26), defScope (top 26), [], []⟩
def d__law_letters : He.DefD := ⟨("_law_letters", none), "_law_letters", "_law_letters", defArgs (top 27), defBody (top 27), defScope (top 27), [], []⟩
def d__law_name : He.DefD := ⟨("_law_name", none), "_law_name", "_law_name", defArgs (top 28), defBody (top 28), defScope (top 28), [], []⟩
def d__law_wild_path : He.DefD := ⟨("_law_wild_path", none), "_law_wild_path", "_law_wild_path", defArgs (top 29), defBody (top 29), defScope (top 29), [], []⟩
def d__law_is_name_due : He.DefD := ⟨("_law_is_name_due", none), "_law_is_name_due", "_law_is_name_due", defArgs (top 30), defBody (top 30), defScope (top 30), [], []⟩
def d__law_is_path_due : He.DefD := ⟨("_law_is_path_due", none), "_law_is_path_due", "_law_is_path_due", defArgs (top 31), defBody (top 31), defScope (top 31), [], []⟩
def d__law_expression : He.DefD := ⟨("_law_expression", none), "_law_expression", "_law_expression", defArgs (top 32), defBody (top 32), defScope (top 32), [], []⟩
def d__law_parts : He.DefD := ⟨("_law_parts", none), "_law_parts", "_law_parts", defArgs (top 33), defBody (top 33), defScope (top 33), [], []⟩
def d__law_depth : He.DefD := ⟨("_law_depth", none), "_law_depth", "_law_depth", defArgs (top 34), defBody (top 34), defScope (top 34), [], []⟩
def d__law_paths : He.DefD := ⟨("_law_paths", none), "_law_paths", "_law_paths", defArgs (top 35), defBody (top 35), defScope (top 35), [], []⟩
def d__law_distinct : He.DefD := ⟨("_law_distinct", none), "_law_distinct", "_law_distinct", defArgs (top 36), defBody (top 36), defScope (top 36), [], []⟩
def d_law : He.DefD := ⟨("law", none), "law", "law", defArgs (top 37), defBody (top 37), defScope (top 37), [], []⟩
def hfn0 : List He.DefD := [d_is_name, d_is_path, d_parts_of, d_depth, d_collect_paths, d_paths_of, d_is_integer, d_has_valid_names, d_is_expression, d__law_cell, d__law_draws, d__law_is_int]
def hfn1 : List He.DefD := [d__law_is_bool, d__law_is_text, d__law_is_number, d__law_is_texts, d__law_stream, d__law_signs, d__law_letters, d__law_name, d__law_wild_path, d__law_is_name_due, d__law_is_path_due, d__law_expression]
def hfn2 : List He.DefD := [d__law_parts, d__law_depth, d__law_paths, d__law_distinct, d_law]
def hfn : List He.DefD := hfn0 ++ hfn1 ++ hfn2
def hfa0 : List He.Fa := [.glo "is_name", .glo "is_path", .glo "parts_of", .glo "depth", .glo "collect_paths", .glo "paths_of", .glo "is_integer", .glo "has_valid_names", .glo "is_expression", .glo "_law_cell", .glo "_law_draws", .glo "_law_is_int"]
def hfa1 : List He.Fa := [.glo "_law_is_bool", .glo "_law_is_text", .glo "_law_is_number", .glo "_law_is_texts", .glo "_law_stream", .glo "_law_signs", .glo "_law_letters", .glo "_law_name", .glo "_law_wild_path", .glo "_law_is_name_due", .glo "_law_is_path_due", .glo "_law_expression"]
def hfa2 : List He.Fa := [.glo "_law_parts", .glo "_law_depth", .glo "_law_paths", .glo "_law_distinct", .glo "law", .free "len", .free "all", .free "list", .free "max", .free "sorted", .free "range", .free "int"]
def hfa3 : List He.Fa := [.free "isinstance", .free "bool", .free "str", .free "tuple", .int "LONGEST_NAME" 12, .str "LETTERS" "abcdefghijklmnopqrstuvwxyz0123456789", .int "MOST_NAMES" 6, .int "GREATEST" 1000000000000000000000000000000, .glo "PAIRS", .int "DEEPEST" 12]
def hfa : List He.Fa := hfa0 ++ hfa1 ++ hfa2 ++ hfa3
def hex (K : PySem.W.Frag) : Bool := He.tupB K "PAIRS" [.str "add", .str "sub", .str "mul", .str "min", .str "max", .str "less"]
abbrev HR : PySem.W.OpenRow := PySem.W.OpenLaw.row PySem.Challenge.rw_tessera_k94_expressions
abbrev hk : PySem.W.Hook := He.hookX 4 hfa hfn [] [] hex
def hob (s : PySem.W.SharedT) : He.AlX := He.obsX 4 hfa hfn [] [] hex (HandSHeadRun.getT s)
theorem hob_eq (s : PySem.W.SharedT) : hob s = hk.obs s.abs := He.obsX_eq (HandSHeadRun.getT_eq s)
abbrev hnames : List PySem.Str := (["LETTERS", "LONGEST_NAME", "MOST_NAMES", "is_name", "is_path", "PAIRS", "DEEPEST", "GREATEST", "parts_of", "depth", "collect_paths", "paths_of"] : List PySem.Str) ++ (["is_integer", "has_valid_names", "is_expression", "_law_cell", "_law_draws", "_law_is_int", "_law_is_bool", "_law_is_text", "_law_is_number", "_law_is_texts", "_law_stream", "_law_signs"] : List PySem.Str) ++ (["_law_letters", "_law_name", "_law_wild_path", "_law_is_name_due", "_law_is_path_due", "_law_expression", "_law_parts", "_law_depth", "_law_paths", "_law_distinct"] : List PySem.Str)
theorem hrun (w : World) : HandSHeadRun.RunEq HR (PySem.W.view HR.prog [37]) hk hob 3000 hnames w := by
  intro os
  kernel_rfl
theorem mk_tx {K : PySem.W.Frag} {h : Heap} {mg : Str → Option Value} {w : World} (KX : K.In h) (G : h.Ns mainGlobals mg) (c : He.SaysX hfa hfn [] [] hex w h K) : Tx K mg where
  g_is_name := He.glo_ok KX G (c.t.d.fact 0 (f := .glo "is_name") rfl)
  f_is_name := c.t.d.def_ 0 (d := d_is_name) rfl
  g_is_path := He.glo_ok KX G (c.t.d.fact 1 (f := .glo "is_path") rfl)
  f_is_path := c.t.d.def_ 1 (d := d_is_path) rfl
  g_parts_of := He.glo_ok KX G (c.t.d.fact 2 (f := .glo "parts_of") rfl)
  f_parts_of := c.t.d.def_ 2 (d := d_parts_of) rfl
  g_depth := He.glo_ok KX G (c.t.d.fact 3 (f := .glo "depth") rfl)
  f_depth := c.t.d.def_ 3 (d := d_depth) rfl
  g_collect_paths := He.glo_ok KX G (c.t.d.fact 4 (f := .glo "collect_paths") rfl)
  f_collect_paths := c.t.d.def_ 4 (d := d_collect_paths) rfl
  g_paths_of := He.glo_ok KX G (c.t.d.fact 5 (f := .glo "paths_of") rfl)
  f_paths_of := c.t.d.def_ 5 (d := d_paths_of) rfl
  g_is_integer := He.glo_ok KX G (c.t.d.fact 6 (f := .glo "is_integer") rfl)
  f_is_integer := c.t.d.def_ 6 (d := d_is_integer) rfl
  g_has_valid_names := He.glo_ok KX G (c.t.d.fact 7 (f := .glo "has_valid_names") rfl)
  f_has_valid_names := c.t.d.def_ 7 (d := d_has_valid_names) rfl
  g_is_expression := He.glo_ok KX G (c.t.d.fact 8 (f := .glo "is_expression") rfl)
  f_is_expression := c.t.d.def_ 8 (d := d_is_expression) rfl
  g__law_cell := He.glo_ok KX G (c.t.d.fact 9 (f := .glo "_law_cell") rfl)
  f__law_cell := c.t.d.def_ 9 (d := d__law_cell) rfl
  g__law_draws := He.glo_ok KX G (c.t.d.fact 10 (f := .glo "_law_draws") rfl)
  f__law_draws := c.t.d.def_ 10 (d := d__law_draws) rfl
  g__law_is_int := He.glo_ok KX G (c.t.d.fact 11 (f := .glo "_law_is_int") rfl)
  f__law_is_int := c.t.d.def_ 11 (d := d__law_is_int) rfl
  g__law_is_bool := He.glo_ok KX G (c.t.d.fact 12 (f := .glo "_law_is_bool") rfl)
  f__law_is_bool := c.t.d.def_ 12 (d := d__law_is_bool) rfl
  g__law_is_text := He.glo_ok KX G (c.t.d.fact 13 (f := .glo "_law_is_text") rfl)
  f__law_is_text := c.t.d.def_ 13 (d := d__law_is_text) rfl
  g__law_is_number := He.glo_ok KX G (c.t.d.fact 14 (f := .glo "_law_is_number") rfl)
  f__law_is_number := c.t.d.def_ 14 (d := d__law_is_number) rfl
  g__law_is_texts := He.glo_ok KX G (c.t.d.fact 15 (f := .glo "_law_is_texts") rfl)
  f__law_is_texts := c.t.d.def_ 15 (d := d__law_is_texts) rfl
  g__law_stream := He.glo_ok KX G (c.t.d.fact 16 (f := .glo "_law_stream") rfl)
  f__law_stream := c.t.d.def_ 16 (d := d__law_stream) rfl
  g__law_signs := He.glo_ok KX G (c.t.d.fact 17 (f := .glo "_law_signs") rfl)
  f__law_signs := c.t.d.def_ 17 (d := d__law_signs) rfl
  g__law_letters := He.glo_ok KX G (c.t.d.fact 18 (f := .glo "_law_letters") rfl)
  f__law_letters := c.t.d.def_ 18 (d := d__law_letters) rfl
  g__law_name := He.glo_ok KX G (c.t.d.fact 19 (f := .glo "_law_name") rfl)
  f__law_name := c.t.d.def_ 19 (d := d__law_name) rfl
  g__law_wild_path := He.glo_ok KX G (c.t.d.fact 20 (f := .glo "_law_wild_path") rfl)
  f__law_wild_path := c.t.d.def_ 20 (d := d__law_wild_path) rfl
  g__law_is_name_due := He.glo_ok KX G (c.t.d.fact 21 (f := .glo "_law_is_name_due") rfl)
  f__law_is_name_due := c.t.d.def_ 21 (d := d__law_is_name_due) rfl
  g__law_is_path_due := He.glo_ok KX G (c.t.d.fact 22 (f := .glo "_law_is_path_due") rfl)
  f__law_is_path_due := c.t.d.def_ 22 (d := d__law_is_path_due) rfl
  g__law_expression := He.glo_ok KX G (c.t.d.fact 23 (f := .glo "_law_expression") rfl)
  f__law_expression := c.t.d.def_ 23 (d := d__law_expression) rfl
  g__law_parts := He.glo_ok KX G (c.t.d.fact 24 (f := .glo "_law_parts") rfl)
  f__law_parts := c.t.d.def_ 24 (d := d__law_parts) rfl
  g__law_depth := He.glo_ok KX G (c.t.d.fact 25 (f := .glo "_law_depth") rfl)
  f__law_depth := c.t.d.def_ 25 (d := d__law_depth) rfl
  g__law_paths := He.glo_ok KX G (c.t.d.fact 26 (f := .glo "_law_paths") rfl)
  f__law_paths := c.t.d.def_ 26 (d := d__law_paths) rfl
  g__law_distinct := He.glo_ok KX G (c.t.d.fact 27 (f := .glo "_law_distinct") rfl)
  f__law_distinct := c.t.d.def_ 27 (d := d__law_distinct) rfl
  g_law := He.glo_ok KX G (c.t.d.fact 28 (f := .glo "law") rfl)
  f_law := c.t.d.def_ 28 (d := d_law) rfl
  b_len := He.free_ok KX G (c.t.d.fact 29 (f := .free "len") rfl)
  b_all := He.free_ok KX G (c.t.d.fact 30 (f := .free "all") rfl)
  b_list := He.free_ok KX G (c.t.d.fact 31 (f := .free "list") rfl)
  b_max := He.free_ok KX G (c.t.d.fact 32 (f := .free "max") rfl)
  b_sorted := He.free_ok KX G (c.t.d.fact 33 (f := .free "sorted") rfl)
  b_range := He.free_ok KX G (c.t.d.fact 34 (f := .free "range") rfl)
  b_int := He.free_ok KX G (c.t.d.fact 35 (f := .free "int") rfl)
  b_isinstance := He.free_ok KX G (c.t.d.fact 36 (f := .free "isinstance") rfl)
  b_bool := He.free_ok KX G (c.t.d.fact 37 (f := .free "bool") rfl)
  b_str := He.free_ok KX G (c.t.d.fact 38 (f := .free "str") rfl)
  b_tuple := He.free_ok KX G (c.t.d.fact 39 (f := .free "tuple") rfl)
  c_LONGEST_NAME := (He.int_ok KX G (c.t.d.fact 40 (f := .int "LONGEST_NAME" 12) rfl)).elim fun t e => ⟨_, e, t, rfl⟩
  c_LETTERS := (He.str_ok KX G (c.t.d.fact 41 (f := .str "LETTERS" "abcdefghijklmnopqrstuvwxyz0123456789") rfl)).elim fun t e => ⟨_, e, t, rfl⟩
  c_MOST_NAMES := (He.int_ok KX G (c.t.d.fact 42 (f := .int "MOST_NAMES" 6) rfl)).elim fun t e => ⟨_, e, t, rfl⟩
  c_GREATEST := (He.int_ok KX G (c.t.d.fact 43 (f := .int "GREATEST" 1000000000000000000000000000000) rfl)).elim fun t e => ⟨_, e, t, rfl⟩
  c_PAIRS := ⟨_, He.glo_ok KX G (c.t.d.fact 44 (f := .glo "PAIRS") rfl), rfl⟩
  c_DEEPEST := (He.int_ok KX G (c.t.d.fact 45 (f := .int "DEEPEST" 12) rfl)).elim fun t e => ⟨_, e, t, rfl⟩
  k_PAIRS := fun H => He.tupB_ok (K := K) (x := "PAIRS") (vs := [.str "add", .str "sub", .str "mul", .str "min", .str "max", .str "less"]) (c.more) H
end T94
open PySem PySem.W PySem.Calls PyProof.Rows
theorem PySem.Challenge.cw_tessera_k94_expressions_holds : PySem.Challenge.rw_tessera_k94_expressions.Holds := by
  w_on; o_law
  refine HandSHeadRun.head_any (r := OpenLaw.row PySem.Challenge.rw_tessera_k94_expressions) (q := view (OpenLaw.row PySem.Challenge.rw_tessera_k94_expressions).prog [37]) (H := T94.hk) (ob := T94.hob) (M := 3000) (loose := T94.hnames) (d := HandSHeadRun.topDef (OpenLaw.row PySem.Challenge.rw_tessera_k94_expressions).prog 37) (kwd := []) T94.hob_eq
    (by kernel_rfl) (fun s => by kernel_rfl) T94.hrun (by kernel_rfl) (by kernel_rfl) (by kernel_rfl) (by rfl) (by first | assumption | decide +kernel) (by decide +kernel) ⟨rfl, rfl, rfl, rfl, rfl, by decide +kernel⟩ ?hw ?hc
  case hw => w_witness2
  case hc =>
    refine L2.walk_ofE (l := PySem.Challenge.rw_tessera_k94_expressions) (n := 63) (k := 50) (x := "_law_script") (CX := L2.CX0) rfl (by decide) (by kernel_rfl) ⟨rfl, by decide, by decide⟩ ?F (fun _ _ _ _ z => z)
    intro w mg fa h Y G hmg0
    obtain ⟨K, KX, c⟩ := Y
    have hmg : mg ("law" : PySem.Str) = some (.ref fa) := by
      have e : (HandSHeadRun.topDef (OpenLaw.row PySem.Challenge.rw_tessera_k94_expressions).prog 37).name = ("law" : PySem.Str) := by kernel_rfl
      rw [← e]
      exact hmg0
    have T := T94.mk_tx KX G c
    obtain ⟨fd, F⟩ := T.f_law
    have ea := hmg.symm.trans T.g_law
    cases ea
    have hb := L2.FunD.bindsA (ps := ["_law_script"]) F fun _ _ _ _ _ _ us hl => match us, hl with | [_], _ => rfl
    exact ⟨K, fd, T9.spF K T94.R_law, KX, fun s v => hb s [v] rfl, fun H a ns hl _ hS => ⟨[T94.lints ns], .d (.bool true), ⟨ns, rfl, rfl⟩, .cons (.lst hS (T9.dpAll_ints ns)) .nil, fun v H' e r => T9.dp_bl r.1⟩, fun base _ _ => T94.C_law T F⟩

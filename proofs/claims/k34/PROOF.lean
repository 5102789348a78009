import PyProof.Rows.All
import Wide.All
import OpenK.AllK
import Wide.FinOn
import HandS.ForMost
import HandS.WideBits
import KE.DataEq
import HandS.SortInts
import HandS.IsInst
import HandS.Conv
import HandS.TupAny
import HandS.RaiseMore
import HandS.EndBits
import KE.KSortedM
import HandS.Defaults
import HandS.HeadEnd
import HandS.HeadHook2
import HandS.Head0
import HandS.Head1
import HandS.Head2
import KE.GoesEnum
import HandS.Zip
import HandS.Dict
import HandS.Small
import HandS.More
import HandS.Style
import HandS.Iter
import HandS.Strs
import HandS.SetFor
import HandS.TupSets
import HandS.TupLe
import PySem.Challenge.RW_divisorsums_k34_whole_told_product_paper
set_option Elab.async false
set_option linter.all false
set_option maxRecDepth 100000
set_option maxHeartbeats 4000000
/-! A layer of data over the hand layer: what a def makes of data, as plain functions. -/
namespace DL
open PySem PySem.Spec PyProof.Rows L2

abbrev D := PyData
def keyD : Key → D
  | .inl i => .int i
  | .inr x => .str x
/-! ### data in the heap: as the hand layer's, and dicts that stay (known to their objects, so that they can be walked) -/
mutual
inductive Dp (K : PySem.W.Frag) (H : Hp) : V → PyData → Prop
  | non : Dp K H .non .none
  | bl (b : Bool) : Dp K H (.bl b) (.bool b)
  | int (i : Int) : Dp K H (.int i) (.int i)
  | str (x : Str) : Dp K H (.str x) (.str x)
  | lst {a : Addr} {xs : List V} {ds : List PyData} : SqL K H a xs → DpAll K H xs ds → Dp K H (.ref a) (.list ds)
  | tup {a : Addr} {xs : List V} {ds : List PyData} : SqT K H a xs → DpAll K H xs ds → Dp K H (.ref a) (.tuple ds)
  | dct {a : Addr} {o : Obj} {vs : List (Key × V)} {kvs : List (PyData × PyData)} : H a = some (.frz o (.dK vs)) → vs.map (fun kv => keyD kv.1) = kvs.map (·.1) → DpAll K H (vs.map (·.2)) (kvs.map (·.2)) → Dp K H (.ref a) (.dict kvs)
inductive DpAll (K : PySem.W.Frag) (H : Hp) : List V → List PyData → Prop
  | nil : DpAll K H [] []
  | cons {v : V} {vs : List V} {d : PyData} {ds : List PyData} : Dp K H v d → DpAll K H vs ds → DpAll K H (v :: vs) (d :: ds)
end
mutual
/-- no dict within: the hand layer's data -/
theorem Dp.hand {K : PySem.W.Frag} {H : Hp} : ∀ {u : V} {d : D}, Dp K H u d → d.plain = true → L2.Dp K H u d
  | _, _, .non, _ => .non
  | _, _, .bl b, _ => .bl b
  | _, _, .int i, _ => .int i
  | _, _, .str x, _ => .str x
  | _, _, .lst h t, p => .lst h (DpAll.hand t (by rwa [PyData.plain] at p))
  | _, _, .tup h t, p => .tup h (DpAll.hand t (by rwa [PyData.plain] at p))
  | _, _, .dct _ _ _, p => by rw [PyData.plain] at p; cases p
theorem DpAll.hand {K : PySem.W.Frag} {H : Hp} : ∀ {us : List V} {ds : List D}, DpAll K H us ds → PyData.plainAll ds = true → L2.DpAll K H us ds
  | _, _, .nil, _ => .nil
  | _, _, .cons h t, p => by
    rw [PyData.plainAll, Bool.and_eq_true] at p
    exact .cons (Dp.hand h p.1) (DpAll.hand t p.2)
end
/-- a name's place: nothing known, data that stays, a list of its own (made here), a list of the caller's that may be changed -/
inductive Cell where
  | un | v (d : D) | own (xs : List D) | par (xs : List D) | dc (kvs : List (Key × D))
abbrev Env := List Cell
/-- a value: data that stays, a new list, the list of a place -/
inductive RV where
  | fz (d : D) | fr (xs : List D) | sl (i : Nat)
def cont : Cell → Option (List D)
  | .own xs => some xs
  | .par xs => some xs
  | .dc _ => some []
  | _ => none
/-- the content of a list -/
def contL : Cell → Option (List D)
  | .own xs => some xs
  | .par xs => some xs
  | _ => none
theorem contL_cont {c : Cell} {xs : List D} (h : contL c = some xs) : cont c = some xs := by
  cases c with
  | un => cases h
  | v d => cases h
  | own ys => exact h
  | par ys => exact h
  | dc k => cases h

/-- ### what stands in the heap -/
def Sub (G G' : Hp) : Prop := ∀ a o, G a = some o → G' a = some o
theorem Sub.refl (G : Hp) : Sub G G := fun _ _ h => h
theorem Sub.trans {a b c : Hp} (h : Sub a b) (k : Sub b c) : Sub a c := fun x o q => k x o (h x o q)
theorem Sub.upd {G : Hp} {p : Addr} {o : HO} (h : G p = none) : Sub G (upd G p o) := fun a u e => by
  rw [upd_ne (ne_of_none e h)]
  exact e
theorem Rd.mono {G G' : Hp} (s : Sub G G') {a : Addr} {u : HO} (h : Rd G a u) : Rd G' a u := by
  rcases h with h | ⟨o, h⟩
  · exact .inl (s _ _ h)
  · exact .inr ⟨o, s _ _ h⟩
theorem SqL.mono {K : PySem.W.Frag} {G G' : Hp} (s : Sub G G') {a : Addr} {xs : List V} (h : SqL K G a xs) : SqL K G' a xs := by
  rcases h with h | h
  · exact .inl (Rd.mono s h)
  · exact .inr h
theorem SqT.mono {K : PySem.W.Frag} {G G' : Hp} (s : Sub G G') {a : Addr} {xs : List V} (h : SqT K G a xs) : SqT K G' a xs := by
  rcases h with h | h
  · exact .inl (Rd.mono s h)
  · exact .inr h
mutual
theorem Dp.mono {K : PySem.W.Frag} {G G' : Hp} (s : Sub G G') : ∀ {u : V} {d : D}, Dp K G u d → Dp K G' u d
  | _, _, .non => .non
  | _, _, .bl b => .bl b
  | _, _, .int i => .int i
  | _, _, .str x => .str x
  | _, _, .lst h t => .lst (SqL.mono s h) (DpAll.mono s t)
  | _, _, .tup h t => .tup (SqT.mono s h) (DpAll.mono s t)
  | _, _, .dct h e t => .dct (s _ _ h) e (DpAll.mono s t)
theorem DpAll.mono {K : PySem.W.Frag} {G G' : Hp} (s : Sub G G') : ∀ {us : List V} {ds : List D}, DpAll K G us ds → DpAll K G' us ds
  | _, _, .nil => .nil
  | _, _, .cons h t => .cons (Dp.mono s h) (DpAll.mono s t)
end
theorem DpAll.append {K : PySem.W.Frag} {G : Hp} : ∀ {us vs : List V} {ds es : List D}, DpAll K G us ds → DpAll K G vs es → DpAll K G (us ++ vs) (ds ++ es)
  | _, _, _, _, .nil, k => k
  | _, _, _, _, .cons h t, k => .cons h (DpAll.append t k)
theorem DpAll.length {K : PySem.W.Frag} {G : Hp} : ∀ {us : List V} {ds : List D}, DpAll K G us ds → us.length = ds.length
  | _, _, .nil => rfl
  | _, _, .cons _ t => congrArg (· + 1) (DpAll.length t)
theorem DpAll.get {K : PySem.W.Frag} {G : Hp} : ∀ {us : List V} {ds : List D}, DpAll K G us ds → ∀ {i : Nat} {d : D}, ds[i]? = some d → ∃ u, us[i]? = some u ∧ Dp K G u d
  | _, _, .nil, i, d, e => by simp at e
  | _, _, .cons h t, 0, d, e => by
    have e' := Option.some.inj (by simpa using e)
    subst e'
    exact ⟨_, rfl, h⟩
  | _, _, .cons h t, i + 1, d, e => by
    obtain ⟨u, h1, h2⟩ := DpAll.get t (i := i) (d := d) (by simpa using e)
    exact ⟨u, by simpa using h1, h2⟩
theorem DpAll.getV {K : PySem.W.Frag} {G : Hp} : ∀ {us : List V} {ds : List D}, DpAll K G us ds → ∀ {i : Nat} {u : V}, us[i]? = some u → ∃ d, ds[i]? = some d ∧ Dp K G u d
  | _, _, .nil, i, d, e => by simp at e
  | _, _, .cons h t, 0, d, e => by
    have e' := Option.some.inj (by simpa using e)
    subst e'
    exact ⟨_, rfl, h⟩
  | _, _, .cons h t, i + 1, d, e => by
    obtain ⟨u, h1, h2⟩ := DpAll.getV t (i := i) (u := d) (by simpa using e)
    exact ⟨u, by simpa using h1, h2⟩
theorem DpAll.set {K : PySem.W.Frag} {G : Hp} {u : V} {d : D} (hd : Dp K G u d) : ∀ {us : List V} {ds : List D} (i : Nat), DpAll K G us ds → DpAll K G (us.set i u) (ds.set i d)
  | _, _, _, .nil => .nil
  | _, _, 0, .cons _ t => .cons hd t
  | _, _, i + 1, .cons h t => .cons h (DpAll.set hd i t)
theorem DpAll.drop {K : PySem.W.Frag} {G : Hp} : ∀ {us : List V} {ds : List D} (n : Nat), DpAll K G us ds → DpAll K G (us.drop n) (ds.drop n)
  | _, _, 0, h => h
  | _, _, n + 1, .nil => .nil
  | _, _, n + 1, .cons _ t => DpAll.drop n t
theorem DpAll.take {K : PySem.W.Frag} {G : Hp} : ∀ {us : List V} {ds : List D} (n : Nat), DpAll K G us ds → DpAll K G (us.take n) (ds.take n)
  | _, _, 0, _ => .nil
  | _, _, n + 1, .nil => .nil
  | _, _, n + 1, .cons h t => .cons h (DpAll.take n t)

/-- a list that may be changed: no one else leans on it -/
def OwnAt (K : PySem.W.Frag) (G H : Hp) (p : Addr) (xs : List D) : Prop := G p = none ∧ ∃ vs, H p = some (.lst vs) ∧ DpAll K G vs xs
/-- the entries of a dict -/
def DkAll (K : PySem.W.Frag) (G : Hp) (vs : List (Key × V)) (kvs : List (Key × D)) : Prop := vs.map (·.1) = kvs.map (·.1) ∧ DpAll K G (vs.map (·.2)) (kvs.map (·.2))
theorem DkAll.mono {K : PySem.W.Frag} {G G' : Hp} (s : Sub G G') {vs : List (Key × V)} {kvs : List (Key × D)} (h : DkAll K G vs kvs) : DkAll K G' vs kvs := ⟨h.1, DpAll.mono s h.2⟩
/-- a dict that may be changed: no one else leans on it -/
def DicAt (K : PySem.W.Frag) (G H : Hp) (p : Addr) (kvs : List (Key × D)) : Prop := G p = none ∧ ∃ vs, H p = some (.dK vs) ∧ DkAll K G vs kvs
/-- the entry of a def: the heap, what stays, the lists handed in to be changed (place, address) -/
structure EC where
  H0 : Hp
  G0 : Hp
  pa : List (Nat × Addr)
def CellOk (K : PySem.W.Frag) (C : EC) (G H : Hp) (i : Nat) (x : Option V) : Cell → Prop
  | .un => True
  | .v d => ∃ u, x = some u ∧ Dp K G u d
  | .own xs => ∃ p, x = some (.ref p) ∧ OwnAt K G H p xs ∧ C.H0 p = none
  | .par xs => ∃ p, x = some (.ref p) ∧ OwnAt K G H p xs ∧ (i, p) ∈ C.pa
  | .dc kvs => ∃ p, x = some (.ref p) ∧ DicAt K G H p kvs ∧ C.H0 p = none
/-- the address of some list that may be changed -/
def OA (σ : L2.St) (ρ : Env) (a : Addr) : Prop := ∃ (i : Nat) (c : Cell), ρ[i]? = some c ∧ (cont c).isSome = true ∧ σ[i]? = some (some (.ref a))
structure Stt (K : PySem.W.Frag) (C : EC) (G H : Hp) (σ : L2.St) (ρ : Env) : Prop where
  gh : Sub G H
  g0 : Sub C.G0 G
  ext : ∀ a o, C.H0 a = some o → (∀ q ∈ C.pa, q.2 ≠ a) → H a = some o
  len : σ.length = ρ.length
  cell : ∀ (i : Nat) (c : Cell), ρ[i]? = some c → ∃ x, σ[i]? = some x ∧ CellOk K C G H i x c
  dj : ∀ (i j : Nat) (c e : Cell) (p : Addr), ρ[i]? = some c → ρ[j]? = some e → (cont c).isSome = true → (cont e).isSome = true → σ[i]? = some (some (.ref p)) → σ[j]? = some (some (.ref p)) → i = j
  pal : ∀ q ∈ C.pa, (∃ xs, ρ[q.1]? = some (.par xs)) ∧ σ[q.1]? = some (some (.ref q.2))
  ng0 : ∀ a, C.H0 a ≠ none → C.G0 a = none → G a = none
theorem Stt.h0 {K : PySem.W.Frag} {C : EC} {G H : Hp} {σ : L2.St} {ρ : Env} (s : Stt K C G H σ ρ) {a : Addr} (h : C.H0 a ≠ none) : H a ≠ none := by
  by_cases hq : ∃ q ∈ C.pa, q.2 = a
  · obtain ⟨q, hq, rfl⟩ := hq
    obtain ⟨⟨xs, e⟩, e2⟩ := s.pal q hq
    obtain ⟨x, e3, k⟩ := s.cell _ _ e
    rw [e2] at e3; cases e3
    obtain ⟨p, e4, ⟨_, vs, e5, _⟩, _⟩ := k
    cases e4
    rw [e5]; simp
  · cases e : C.H0 a with
    | none => exact absurd e h
    | some o =>
      rw [s.ext a o e fun q hm z => hq ⟨q, hm, z⟩]
      simp
/-- the same kinds of places -/
def Lk : Cell → Cell → Prop
  | .own _, c => ∃ ys, c = .own ys
  | .par _, c => ∃ ys, c = .par ys
  | .dc _, c => ∃ ys, c = .dc ys
  | a, c => c = a
def Shp (ρ ρ' : Env) : Prop := ρ'.length = ρ.length ∧ ∀ (i : Nat) (c : Cell), ρ[i]? = some c → ∃ c', ρ'[i]? = some c' ∧ Lk c c'
theorem Lk.refl : ∀ c : Cell, Lk c c
  | .un => rfl
  | .v _ => rfl
  | .own xs => ⟨xs, rfl⟩
  | .par xs => ⟨xs, rfl⟩
  | .dc xs => ⟨xs, rfl⟩
theorem Lk.trans : ∀ {a b c : Cell}, Lk a b → Lk b c → Lk a c
  | .un, _, _, h, k => by cases h; exact k
  | .v _, _, _, h, k => by cases h; exact k
  | .own _, _, _, ⟨ys, h⟩, k => by cases h; exact k
  | .par _, _, _, ⟨ys, h⟩, k => by cases h; exact k
  | .dc _, _, _, ⟨ys, h⟩, k => by cases h; exact k
theorem Lk.cont : ∀ {a b : Cell}, Lk a b → (DL.cont b).isSome = (DL.cont a).isSome
  | .un, _, h => by cases h; rfl
  | .v _, _, h => by cases h; rfl
  | .own _, _, ⟨ys, h⟩ => by cases h; rfl
  | .par _, _, ⟨ys, h⟩ => by cases h; rfl
  | .dc _, _, ⟨ys, h⟩ => by cases h; rfl
theorem Shp.refl (ρ : Env) : Shp ρ ρ := ⟨rfl, fun i c h => ⟨c, h, Lk.refl c⟩⟩
theorem Shp.trans {a b c : Env} (h : Shp a b) (k : Shp b c) : Shp a c := ⟨k.1.trans h.1, fun i x e => by
  obtain ⟨y, e1, l1⟩ := h.2 i x e
  obtain ⟨z, e2, l2⟩ := k.2 i y e1
  exact ⟨z, e2, l1.trans l2⟩⟩
theorem Shp.back {ρ ρ' : Env} (h : Shp ρ ρ') {i : Nat} {c' : Cell} (e : ρ'[i]? = some c') : ∃ c, ρ[i]? = some c ∧ Lk c c' := by
  have hi : i < ρ'.length := (List.getElem?_eq_some_iff.mp e).1
  have hi2 : i < ρ.length := by rw [← h.1]; exact hi
  obtain ⟨c2, e2, l⟩ := h.2 i ρ[i] (List.getElem?_eq_getElem hi2)
  rw [e] at e2; cases e2
  exact ⟨_, List.getElem?_eq_getElem hi2, l⟩
theorem OA.fwd {σ : L2.St} {ρ ρ' : Env} (h : Shp ρ ρ') {a : Addr} (q : OA σ ρ a) : OA σ ρ' a := by
  obtain ⟨i, c, e, s, z⟩ := q
  obtain ⟨c', e', l⟩ := h.2 i c e
  exact ⟨i, c', e', by rw [l.cont]; exact s, z⟩
theorem OA.bwd {σ : L2.St} {ρ ρ' : Env} (h : Shp ρ ρ') {a : Addr} (q : OA σ ρ' a) : OA σ ρ a := by
  obtain ⟨i, c, e, s, z⟩ := q
  obtain ⟨c', e', l⟩ := h.back e
  exact ⟨i, c', e', by rw [← l.cont]; exact s, z⟩
/-- what is not a list to be changed stands as it stood -/
def Frm (σ : L2.St) (ρ : Env) (H H' : Hp) : Prop := ∀ a o, H a = some o → ¬ OA σ ρ a → H' a = some o
def NewG (G H G' : Hp) : Prop := ∀ a, H a ≠ none → G a = none → G' a = none
def RepR (K : PySem.W.Frag) (G' H H' : Hp) (σ : L2.St) (ρ' : Env) (u : V) : RV → Prop
  | .fz d => Dp K G' u d
  | .fr xs => ∃ p, u = .ref p ∧ H p = none ∧ OwnAt K G' H' p xs
  | .sl i => ∃ p c, u = .ref p ∧ σ[i]? = some (some (.ref p)) ∧ ρ'[i]? = some c ∧ (cont c).isSome = true
/-- from (ρ, G, H) to (ρ', G', H') -/
structure Ev (K : PySem.W.Frag) (C : EC) (σ : L2.St) (ρ : Env) (G H : Hp) (ρ' : Env) (G' H' : Hp) : Prop where
  stt : Stt K C G' H' σ ρ'
  sub : Sub G G'
  frm : Frm σ ρ H H'
  shp : Shp ρ ρ'
  ng : NewG G H G'
  keepH : ∀ a, H a ≠ none → H' a ≠ none
theorem Ev.refl {K : PySem.W.Frag} {C : EC} {σ : L2.St} {ρ : Env} {G H : Hp} (s : Stt K C G H σ ρ) : Ev K C σ ρ G H ρ G H :=
  ⟨s, Sub.refl G, fun _ _ h _ => h, Shp.refl ρ, fun _ _ h => h, fun _ h => h⟩
theorem Ev.trans {K : PySem.W.Frag} {C : EC} {σ : L2.St} {ρ ρ1 ρ2 : Env} {G H G1 H1 G2 H2 : Hp} (a : Ev K C σ ρ G H ρ1 G1 H1) (b : Ev K C σ ρ1 G1 H1 ρ2 G2 H2) : Ev K C σ ρ G H ρ2 G2 H2 :=
  ⟨b.stt, a.sub.trans b.sub, fun x o h n => b.frm x o (a.frm x o h n) fun q => n (q.bwd a.shp), a.shp.trans b.shp, fun x h n => b.ng x (a.keepH x h) (a.ng x h n), fun x h => b.keepH x (a.keepH x h)⟩
theorem Stt.oa_some {K : PySem.W.Frag} {C : EC} {σ : L2.St} {ρ : Env} {G H : Hp} (s : Stt K C G H σ ρ) {a : Addr} (q : OA σ ρ a) : H a ≠ none ∧ G a = none := by
  obtain ⟨i, c, e, hs, z⟩ := q
  obtain ⟨x, e1, k⟩ := s.cell i c e
  rw [z] at e1; cases e1
  cases c with
  | un => cases hs
  | v d => cases hs
  | own xs =>
    obtain ⟨p, e2, ⟨g, vs, h, _⟩, _⟩ := k
    cases e2
    exact ⟨by rw [h]; simp, g⟩
  | par xs =>
    obtain ⟨p, e2, ⟨g, vs, h, _⟩, _⟩ := k
    cases e2
    exact ⟨by rw [h]; simp, g⟩
  | dc kvs =>
    obtain ⟨p, e2, ⟨g, vs, h, _⟩, _⟩ := k
    cases e2
    exact ⟨by rw [h]; simp, g⟩
/-- a value persists through a further step -/
theorem RepR.step {K : PySem.W.Frag} {C : EC} {σ : L2.St} {ρ ρ1 ρ2 : Env} {G H G1 H1 G2 H2 : Hp} {u : V} {r : RV} (s : Stt K C G H σ ρ) (a : Ev K C σ ρ G H ρ1 G1 H1) (h : RepR K G1 H H1 σ ρ1 u r) (b : Ev K C σ ρ1 G1 H1 ρ2 G2 H2) : RepR K G2 H H2 σ ρ2 u r := by
  cases r with
  | fz d => exact Dp.mono b.sub h
  | fr xs =>
    obtain ⟨p, e, n, g, vs, hp, hd⟩ := h
    refine ⟨p, e, n, b.ng p (by rw [hp]; simp) g, vs, b.frm p _ hp fun q => ?_, DpAll.mono b.sub hd⟩
    exact (s.oa_some (q.bwd a.shp)).1 n
  | sl i =>
    obtain ⟨p, c, e, e1, e2, e3⟩ := h
    obtain ⟨c', e4, l⟩ := b.shp.2 i c e2
    exact ⟨p, c', e, e1, e4, by rw [l.cont]; exact e3⟩

/-! ### expressions -/
abbrev ER := Option (RV × Env)
abbrev DEx := Env → ER
def EPost (K : PySem.W.Frag) (C : EC) (σ : L2.St) (ρ : Env) (G H : Hp) (Q : VK) (z : ER) : Prop :=
  ∃ r ρ', z = some (r, ρ') ∧ ∀ u G' H', Ev K C σ ρ G H ρ' G' H' → RepR K G' H H' σ ρ' u r → Q u H'
def liftE (K : PySem.W.Frag) (f : DEx) : TE := fun σ H Q => ∃ C G ρ, Stt K C G H σ ρ ∧ EPost K C σ ρ G H Q (f ρ)
def DE (X : Cx) (e : Expr) (f : DEx) : Prop := PE X e (liftE X.K f)
theorem PE.mono {X : Cx} {e : Expr} {t t' : TE} (h : PE X e t) (w : ∀ σ H Q, t' σ H Q → t σ H Q) : PE X e t' :=
  ⟨fun pins s σ H Q I q => h.run pins s σ H Q I (w σ H Q q)⟩
theorem PT.mono {X : Cx} {e : Expr} {t t' : TT} (h : PT X e t) (w : ∀ σ H Q, t' σ H Q → t σ H Q) : PT X e t' :=
  ⟨fun pins s σ H Q I q => h.run pins s σ H Q I (w σ H Q q)⟩
theorem PA.mono {X : Cx} {e : List Expr} {t t' : TA} (h : PA X e t) (w : ∀ σ H Q, t' σ H Q → t σ H Q) : PA X e t' :=
  ⟨fun pos pins s σ H Q I q => h.run pos pins s σ H Q I (w σ H Q q)⟩
theorem PS.mono {X : Cx} {e : Stmt} {t t' : TS} (h : PS X e t) (w : ∀ D σ H, t' D σ H → t D σ H) : PS X e t' :=
  ⟨fun pins s σ H D I q => h.run pins s σ H D I (w D σ H q)⟩
theorem PSs.mono {X : Cx} {e : List Stmt} {t t' : TS} (h : PSs X e t) (w : ∀ D σ H, t' D σ H → t D σ H) : PSs X e t' :=
  ⟨fun pins s σ H D I q => h.run pins s σ H D I (w D σ H q)⟩
/-- the use of a part -/
theorem use_E {K : PySem.W.Frag} {C : EC} {σ : L2.St} {ρ ρ' : Env} {G H : Hp} {f : DEx} {r : RV} {Q : VK} (s : Stt K C G H σ ρ) (e : f ρ = some (r, ρ')) (h : ∀ u G' H', Ev K C σ ρ G H ρ' G' H' → RepR K G' H H' σ ρ' u r → Q u H') : liftE K f σ H Q :=
  ⟨C, G, ρ, s, r, ρ', e, h⟩

/-- names and constants -/
def eV (i : Nat) : DEx := fun ρ => match ρ[i]? with
  | some (.v d) => some (.fz d, ρ)
  | some (.own _) => some (.sl i, ρ)
  | some (.par _) => some (.sl i, ρ)
  | some (.dc _) => some (.sl i, ρ)
  | _ => none
theorem le_var {K : PySem.W.Frag} {i : Nat} {σ : L2.St} {H : Hp} {Q : VK} (h : liftE K (eV i) σ H Q) : tVar i σ H Q := by
  obtain ⟨C, G, ρ, s, r, ρ', e, q⟩ := h
  unfold eV at e
  cases hc : ρ[i]? with
  | none => rw [hc] at e; cases e
  | some c =>
    rw [hc] at e
    obtain ⟨x, e1, k⟩ := s.cell i c hc
    cases c with
    | un => cases e
    | v d =>
      cases e
      obtain ⟨u, e2, hd⟩ := k
      subst e2
      exact ⟨u, e1, q u G H (Ev.refl s) hd⟩
    | own xs =>
      cases e
      obtain ⟨p, e2, _⟩ := k
      subst e2
      exact ⟨_, e1, q _ G H (Ev.refl s) ⟨p, _, rfl, e1, hc, rfl⟩⟩
    | par xs =>
      cases e
      obtain ⟨p, e2, _⟩ := k
      subst e2
      exact ⟨_, e1, q _ G H (Ev.refl s) ⟨p, _, rfl, e1, hc, rfl⟩⟩
    | dc kvs =>
      cases e
      obtain ⟨p, e2, _⟩ := k
      subst e2
      exact ⟨_, e1, q _ G H (Ev.refl s) ⟨p, _, rfl, e1, hc, rfl⟩⟩
theorem de_v {X : Cx} (i : Nat) {x : Str} {pos : Pos} (hN : X.N[i]? = some x := by rfl) (hv : Vis X.env.scope x := by first | exact Or.inl rfl | exact Or.inr (Or.inl rfl) | exact Or.inr (Or.inr rfl)) (hd : (x == ("__debug__" : Str)) = false := by decide)
    (hcd : (x == ("__classdict__" : Str)) = false := by decide) : DE X (.Name x pos) (eV i) := PE.mono (pe_var hN hv hd hcd) fun _ _ _ => le_var
def eC (d : D) : DEx := fun ρ => some (.fz d, ρ)
theorem le_c {K : PySem.W.Frag} {d : D} {v : V} (hd : ∀ G, Dp K G v d) {σ : L2.St} {H : Hp} {Q : VK} (h : liftE K (eC d) σ H Q) : tC v σ H Q := by
  obtain ⟨C, G, ρ, s, r, ρ', e, q⟩ := h
  cases e
  exact q v G H (Ev.refl s) (hd G)
theorem de_int {X : Cx} {i j pos} : DE X (.Constant (.int i) j pos) (eC (.int i)) := PE.mono pe_int fun _ _ _ => le_c fun _ => .int i
theorem de_bl {X : Cx} {i j pos} : DE X (.Constant (.bool i) j pos) (eC (.bool i)) := PE.mono pe_bl fun _ _ _ => le_c fun _ => .bl i
theorem de_str {X : Cx} {i j pos} : DE X (.Constant (.str i) j pos) (eC (.str i)) := PE.mono pe_str fun _ _ _ => le_c fun _ => .str i
theorem de_non {X : Cx} {j pos} : DE X (.Constant .none j pos) (eC .none) := PE.mono pe_non fun _ _ _ => le_c fun _ => .non
/-- a module's constant -/
theorem de_glob {X : Cx} {x : Str} {v : V} {u : Value} {d : D} {pos : Pos} (hg : Gl X x) (hm : X.mg x = some u) (r : RelV v u) (hd : ∀ G, Dp X.K G v d) (hdb : (x == ("__debug__" : Str)) = false := by decide) : DE X (.Name x pos) (eC d) :=
  PE.mono (pe_glob hg hm r hdb) fun _ _ _ => le_c hd
end DL
namespace DL
open PySem PySem.Spec PyProof.Rows L2

/-! ### making objects keeps what is known -/
section
variable {K : PySem.W.Frag} {C : EC} {σ : L2.St} {ρ ρ' : Env} {G H G' H' : Hp}
theorem Stt.fresh0 (s : Stt K C G H σ ρ) {p : Addr} (h : H p = none) : G p = none := by
  cases e : G p with
  | none => rfl
  | some o => rw [s.gh p o e] at h; cases h
theorem OwnAt.keep {p : Addr} {xs : List D} (h : OwnAt K G H p xs) (g : Sub G G') (ng : G' p = none) (hh : ∀ o, H p = some o → H' p = some o) : OwnAt K G' H' p xs := by
  obtain ⟨a, vs, e, d⟩ := h
  exact ⟨ng, vs, hh _ e, DpAll.mono g d⟩
theorem DicAt.keep {p : Addr} {xs : List (Key × D)} (h : DicAt K G H p xs) (g : Sub G G') (ng : G' p = none) (hh : ∀ o, H p = some o → H' p = some o) : DicAt K G' H' p xs := by
  obtain ⟨a, vs, e, d⟩ := h
  exact ⟨ng, vs, hh _ e, d.mono g⟩
theorem CellOk.keep {i : Nat} {x : Option V} {c : Cell} (h : CellOk K C G H i x c) (g : Sub G G') (ng : ∀ p, H p ≠ none → G p = none → G' p = none) (hh : ∀ p o, H p = some o → H' p = some o) : CellOk K C G' H' i x c := by
  cases c with
  | un => trivial
  | v d =>
    obtain ⟨u, e, q⟩ := h
    exact ⟨u, e, Dp.mono g q⟩
  | own xs =>
    obtain ⟨p, e, q, z⟩ := h
    obtain ⟨q1, vs, q2, q3⟩ := id q
    exact ⟨p, e, q.keep g (ng p (by rw [q2]; simp) q1) (hh p), z⟩
  | par xs =>
    obtain ⟨p, e, q, z⟩ := h
    obtain ⟨q1, vs, q2, q3⟩ := id q
    exact ⟨p, e, q.keep g (ng p (by rw [q2]; simp) q1) (hh p), z⟩
  | dc xs =>
    obtain ⟨p, e, q, z⟩ := h
    obtain ⟨q1, vs, q2, q3⟩ := id q
    exact ⟨p, e, q.keep g (ng p (by rw [q2]; simp) q1) (hh p), z⟩
/-- more in the heap, more that stays -/
theorem Stt.more (s : Stt K C G H σ ρ) (gh : Sub G' H') (g : Sub G G') (ng : ∀ p, H p ≠ none → G p = none → G' p = none) (hh : ∀ p o, H p = some o → H' p = some o) : Stt K C G' H' σ ρ :=
  ⟨gh, s.g0.trans g, fun a o e n => hh a o (s.ext a o e n), s.len, fun i c e => by
    obtain ⟨x, e1, k⟩ := s.cell i c e
    exact ⟨x, e1, k.keep g ng hh⟩, s.dj, s.pal, fun a h1 h2 => ng a (s.h0 h1) (s.ng0 a h1 h2)⟩
theorem Ev.more (s : Stt K C G H σ ρ) (gh : Sub G' H') (g : Sub G G') (ng : ∀ p, H p ≠ none → G p = none → G' p = none) (hh : ∀ p o, H p = some o → H' p = some o) : Ev K C σ ρ G H ρ G' H' :=
  ⟨s.more gh g ng hh, g, fun a o e _ => hh a o e, Shp.refl ρ, ng, fun a h => by
    cases e : H a with
    | none => exact absurd e h
    | some o => rw [hh a o e]; simp⟩
theorem Ev.newL (s : Stt K C G H σ ρ) {p : Addr} {o : HO} (h : H p = none) : Ev K C σ ρ G H ρ G (upd H p o) :=
  .more s (s.gh.trans (Sub.upd h)) (Sub.refl G) (fun _ _ h => h) (Sub.upd h)
theorem Ev.newT (s : Stt K C G H σ ρ) {p : Addr} {o : HO} (h : H p = none) : Ev K C σ ρ G H ρ (upd G p o) (upd H p o) :=
  .more s (fun a u e => by
    by_cases ha : a = p
    · subst ha; rw [upd_same] at e; rw [upd_same]; exact e
    · rw [upd_ne ha] at e; rw [upd_ne ha]; exact s.gh a u e) (Sub.upd (s.fresh0 h)) (fun a h1 h2 => by
    rw [upd_ne (fun z => h1 (by rw [z]; exact h))]; exact h2) (Sub.upd h)
/-- a new list's value, and from now on it stays -/
theorem Ev.freeze (s : Stt K C G H σ ρ) (a : Ev K C σ ρ G H ρ' G' H') {p : Addr} {xs : List D} (n : H p = none) (q : OwnAt K G' H' p xs) :
    ∃ vs, Ev K C σ ρ G H ρ' (upd G' p (.lst vs)) H' ∧ Dp K (upd G' p (.lst vs)) (.ref p) (.list xs) := by
  obtain ⟨g, vs, e, d⟩ := q
  have hsub : Sub G' (upd G' p (.lst vs)) := Sub.upd g
  have noa : ¬ OA σ ρ' p := fun z => (s.oa_some (z.bwd a.shp)).1 n
  refine ⟨vs, ⟨⟨fun b o z => ?_, a.stt.g0.trans hsub, a.stt.ext, a.stt.len, fun i c z => ?_, a.stt.dj, a.stt.pal, fun b h1 h2 => ?_⟩, a.sub.trans hsub, a.frm, a.shp, fun b h1 h2 => ?_, a.keepH⟩, .lst (SqL.of upd_same) (DpAll.mono hsub d)⟩
  · by_cases hb : b = p
    · subst hb; rw [upd_same] at z; cases z; exact e
    · rw [upd_ne hb] at z; exact a.stt.gh b o z
  · obtain ⟨x, e1, k⟩ := a.stt.cell i c z
    refine ⟨x, e1, ?_⟩
    cases c with
    | un => trivial
    | v d =>
      obtain ⟨u, e, q⟩ := k
      exact ⟨u, e, Dp.mono hsub q⟩
    | own ys =>
      obtain ⟨p', e2, q, z2⟩ := k
      refine ⟨p', e2, q.keep hsub ?_ (fun _ h => h), z2⟩
      rw [upd_ne]
      · exact q.1
      · rintro rfl
        exact noa ⟨i, _, z, rfl, by rw [e1, e2]⟩
    | par ys =>
      obtain ⟨p', e2, q, z2⟩ := k
      refine ⟨p', e2, q.keep hsub ?_ (fun _ h => h), z2⟩
      rw [upd_ne]
      · exact q.1
      · rintro rfl
        exact noa ⟨i, _, z, rfl, by rw [e1, e2]⟩
    | dc ys =>
      obtain ⟨p', e2, q, z2⟩ := k
      refine ⟨p', e2, q.keep hsub ?_ (fun _ h => h), z2⟩
      rw [upd_ne]
      · exact q.1
      · rintro rfl
        exact noa ⟨i, _, z, rfl, by rw [e1, e2]⟩
  · have hb : b ≠ p := fun z => s.h0 h1 (by rw [z]; exact n)
    rw [upd_ne hb]
    exact a.stt.ng0 b h1 h2
  · rw [upd_ne (fun z => h1 (by rw [z]; exact n))]
    exact a.ng b h1 h2
end

/-! ### values as data -/
def deref (ρ : Env) : RV → Option D
  | .fz d => some d
  | .fr xs => some (.list xs)
  | .sl i => match ρ[i]? with
    | some (.own xs) => some (.list xs)
    | some (.par xs) => some (.list xs)
    | _ => none
def View (K : PySem.W.Frag) (G H : Hp) (u : V) (d : D) : Prop := Dp K G u d ∨ ∃ p xs, u = .ref p ∧ d = .list xs ∧ OwnAt K G H p xs
section
variable {K : PySem.W.Frag} {C : EC} {σ : L2.St} {ρ ρ' : Env} {G H G' H' : Hp} {u : V} {d : D}
theorem view_of (s : Stt K C G' H' σ ρ') {r : RV} (h : RepR K G' H H' σ ρ' u r) (e : deref ρ' r = some d) : View K G' H' u d := by
  cases r with
  | fz d' => cases e; exact .inl h
  | fr xs =>
    cases e
    obtain ⟨p, e1, _, q⟩ := h
    exact .inr ⟨p, xs, e1, rfl, q⟩
  | sl i =>
    obtain ⟨p, c, rfl, e1, e2, e3⟩ := h
    obtain ⟨x, e4, k⟩ := s.cell i c e2
    rw [e1] at e4; cases e4
    unfold deref at e
    simp only [e2] at e
    cases c with
    | un => cases e3
    | v _ => cases e3
    | own xs =>
      cases e
      obtain ⟨p', e5, q, _⟩ := k
      cases e5
      exact .inr ⟨p, xs, rfl, rfl, q⟩
    | par xs =>
      cases e
      obtain ⟨p', e5, q, _⟩ := k
      cases e5
      exact .inr ⟨p, xs, rfl, rfl, q⟩
    | dc xs => cases e
theorem View.dp (h : View K G H u d) (gh : Sub G H) : Dp K H u d := by
  rcases h with h | ⟨p, xs, rfl, rfl, g, vs, e, q⟩
  · exact Dp.mono gh h
  · exact .lst (SqL.of e) (DpAll.mono gh q)
/-- the items of a list or tuple -/
theorem View.list {xs : List D} (h : View K G H u (.list xs)) (gh : Sub G H) : ∃ p vs, u = .ref p ∧ SqL K H p vs ∧ DpAll K G vs xs := by
  rcases h with h | ⟨p, ys, rfl, e, g, vs, e2, q⟩
  · cases h with
    | lst a b => exact ⟨_, _, rfl, SqL.mono gh a, b⟩
  · cases e
    exact ⟨p, vs, rfl, SqL.of e2, q⟩
theorem View.tuple {xs : List D} (h : View K G H u (.tuple xs)) (gh : Sub G H) : ∃ p vs, u = .ref p ∧ SqT K H p vs ∧ DpAll K G vs xs := by
  rcases h with h | ⟨p, ys, rfl, e, g, vs, e2, q⟩
  · cases h with
    | tup a b => exact ⟨_, _, rfl, SqT.mono gh a, b⟩
  · cases e
theorem View.int {i : Int} (h : View K G H u (.int i)) : u = .int i := by
  rcases h with h | ⟨p, ys, rfl, e, _⟩
  · cases h; rfl
  · cases e
theorem View.bl {i : Bool} (h : View K G H u (.bool i)) : u = .bl i := by
  rcases h with h | ⟨p, ys, rfl, e, _⟩
  · cases h; rfl
  · cases e
theorem View.str {i : Str} (h : View K G H u (.str i)) : u = .str i := by
  rcases h with h | ⟨p, ys, rfl, e, _⟩
  · cases h; rfl
  · cases e
theorem View.non (h : View K G H u .none) : u = .non := by
  rcases h with h | ⟨p, ys, rfl, e, _⟩
  · cases h; rfl
  · cases e
end
/-- what an operation gives: data that is there, a new list, a new tuple -/
inductive OR where
  | at (d : D) | nl (xs : List D) | nt (xs : List D)
def OR.rv : OR → RV
  | .at d => .fz d
  | .nl xs => .fr xs
  | .nt xs => .fz (.tuple xs)
/-- what is wanted behind an operation -/
def Fin (K : PySem.W.Frag) (C : EC) (σ : L2.St) (ρ : Env) (G H : Hp) (z : OR) (Q : VK) : Prop := ∀ u G' H', Ev K C σ ρ G H ρ G' H' → RepR K G' H H' σ ρ u z.rv → Q u H'
section
variable {K : PySem.W.Frag} {C : EC} {σ : L2.St} {ρ ρ' : Env} {G H G' H' : Hp} {u : V} {d : D} {Q : VK}
theorem Fin.at (s : Stt K C G H σ ρ) (h : Fin K C σ ρ G H (.at d) Q) (hd : Dp K G u d) : Q u H := h u G H (Ev.refl s) hd
theorem Fin.nl {xs : List D} (s : Stt K C G H σ ρ) (h : Fin K C σ ρ G H (.nl xs) Q) {vs : List V} (hd : DpAll K G vs xs) : ∀ p, H p = none → Q (.ref p) (upd H p (.lst vs)) := fun p n =>
  h _ G _ (Ev.newL s n) ⟨p, rfl, n, s.fresh0 n, vs, upd_same, hd⟩
theorem Fin.nt {xs : List D} (s : Stt K C G H σ ρ) (h : Fin K C σ ρ G H (.nt xs) Q) {vs : List V} (hd : DpAll K G vs xs) : ∀ p, H p = none → Q (.ref p) (upd H p (.tup vs)) := fun p n =>
  h _ (upd G p (.tup vs)) _ (Ev.newT s n) (.tup (SqT.of upd_same) (DpAll.mono (Sub.upd (s.fresh0 n)) hd))
end
/-- a two-place rule of the hand layer, told by data -/
def OpS (K : PySem.W.Frag) (r : R2) (o : D → D → Option OR) : Prop := ∀ {C σ ρ G H x y a b z} {Q : VK}, Stt K C G H σ ρ → View K G H x a → View K G H y b → o a b = some z → Fin K C σ ρ G H z Q → r x y H Q
def eBin (o : D → D → Option OR) (f g : DEx) : DEx := fun ρ => match f ρ with
  | some (r, ρ1) => match g ρ1 with
    | some (t, ρ2) => match deref ρ2 r, deref ρ2 t with
      | some a, some b => match o a b with
        | some z => some (z.rv, ρ2)
        | none => none
      | _, _ => none
    | none => none
  | none => none
theorem eBin_some {o : D → D → Option OR} {f g : DEx} {ρ ρ' : Env} {r' : RV} (h : eBin o f g ρ = some (r', ρ')) :
    ∃ r ρ1 t a b z, f ρ = some (r, ρ1) ∧ g ρ1 = some (t, ρ') ∧ deref ρ' r = some a ∧ deref ρ' t = some b ∧ o a b = some z ∧ r' = z.rv := by
  unfold eBin at h
  split at h
  · rename_i r ρ1 e1
    split at h
    · rename_i t ρ2 e2
      split at h
      · rename_i a b e3 e4
        split at h
        · rename_i z e5
          cases h
          exact ⟨r, ρ1, t, a, b, z, e1, e2, e3, e4, e5, rfl⟩
        · cases h
      · cases h
    · cases h
  · cases h
theorem le_bin {K : PySem.W.Frag} {o : D → D → Option OR} {f g : DEx} {r : R2} (hs : OpS K r o) {σ : L2.St} {H : Hp} {Q : VK} (h : liftE K (eBin o f g) σ H Q) : tOp r (liftE K f) (liftE K g) σ H Q := by
  obtain ⟨C, G, ρ, s, r', ρ', e, q⟩ := h
  obtain ⟨r1, ρ1, t, a, b, z, e1, e2, e3, e4, e5, rfl⟩ := eBin_some e
  refine use_E s e1 fun x G1 H1 v1 p1 => ?_
  refine use_E v1.stt e2 fun y G2 H2 v2 p2 => ?_
  have p1' := p1.step s v1 v2
  refine hs v2.stt (view_of v2.stt p1' e3) (view_of v2.stt p2 e4) e5 fun u G3 H3 v3 p3 => ?_
  have v13 := (v1.trans v2).trans v3
  refine q u G3 H3 v13 ?_
  cases z with
  | «at» d => exact p3
  | nt xs => exact p3
  | nl xs =>
    obtain ⟨p, e, n, k⟩ := p3
    refine ⟨p, e, ?_, k⟩
    cases e0 : H p with
    | none => rfl
    | some o => exact absurd n ((v1.trans v2).keepH p (by rw [e0]; simp))
theorem de_bin {X : Cx} {op : Operator} {r : R2} {o : D → D → Option OR} {a b : Expr} {f g : DEx} {pos : Pos} (hr : OpR X (binaryOp op) r) (hs : OpS X.K r o) (ha : DE X a f) (hb : DE X b g) : DE X (.BinOp a op b pos) (eBin o f g) :=
  PE.mono (pe_op hr ha hb) fun _ _ _ => le_bin hs
theorem de_cmp {X : Cx} {op : CmpOp} {r : R2} {o : D → D → Option OR} {a b : Expr} {f g : DEx} {pos : Pos} (hr : OpR X (compareOp op) r) (hs : OpS X.K r o) (ha : DE X a f) (hb : DE X b g) (hm : behindInMarks op b = false) : DE X (.Compare a [op] [b] pos) (eBin o f g) :=
  PE.mono (pe_cmpR hr ha hb hm) fun _ _ _ => le_bin hs

/-! ### tests -/
abbrev TR := Option (Bool × Env)
abbrev DTx := Env → TR
def TPost (K : PySem.W.Frag) (C : EC) (σ : L2.St) (ρ : Env) (G H : Hp) (Q : Bool → Hp → Prop) (z : TR) : Prop :=
  ∃ r ρ', z = some (r, ρ') ∧ ∀ G' H', Ev K C σ ρ G H ρ' G' H' → Q r H'
def liftT (K : PySem.W.Frag) (f : DTx) : TT := fun σ H Q => ∃ C G ρ, Stt K C G H σ ρ ∧ TPost K C σ ρ G H Q (f ρ)
def DT (X : Cx) (e : Expr) (f : DTx) : Prop := PT X e (liftT X.K f)
def DW (X : Cx) (e : Expr) (f : DTx) : Prop := PW X e (liftT X.K f)
def asB : ER → TR
  | some (.fz (.bool b), ρ) => some (b, ρ)
  | _ => none
theorem asB_some {z : ER} {b : Bool} {ρ : Env} (h : asB z = some (b, ρ)) : z = some (.fz (.bool b), ρ) := by
  unfold asB at h
  split at h
  · cases h; rfl
  · cases h
def eT (f : DEx) : DTx := fun ρ => asB (f ρ)
theorem dp_bl {K : PySem.W.Frag} {G : Hp} {u : V} {b : Bool} (h : Dp K G u (.bool b)) : u = .bl b := by cases h; rfl
theorem lt_cmp {K : PySem.W.Frag} {o : D → D → Option OR} {f g : DEx} {r : R2} (hs : OpS K r o) {σ : L2.St} {H : Hp} {Q : Bool → Hp → Prop} (h : liftT K (eT (eBin o f g)) σ H Q) : tTest (tOp r (liftE K f) (liftE K g)) σ H Q := by
  obtain ⟨C, G, ρ, s, b, ρ', e, q⟩ := h
  refine le_bin hs ⟨C, G, ρ, s, _, ρ', asB_some e, fun u G' H' v p => ⟨b, dp_bl p, q G' H' v⟩⟩
theorem dt_cmp {X : Cx} {op : CmpOp} {r : R2} {o : D → D → Option OR} {a b : Expr} {f g : DEx} {pos : Pos} (hr : OpR X (compareOp op) r) (hs : OpS X.K r o) (ha : DE X a f) (hb : DE X b g) (hm : behindInMarks op b = false) : DT X (.Compare a [op] [b] pos) (eT (eBin o f g)) :=
  PT.mono (pt_cmpR hr ha hb hm) fun _ _ _ => lt_cmp hs
theorem dt_val {X : Cx} {e : Expr} {f : DEx} (h : DE X e f) (he : ∀ whole, isTrue e X.env whole = (do let v ← whole; standAt e.pos; holding [v] (truthy v)) := by intro _; rfl) : DT X e (eT f) :=
  PT.mono (pt_val h he) fun σ H Q h => by
    obtain ⟨C, G, ρ, s, b, ρ', e, q⟩ := h
    exact ⟨C, G, ρ, s, _, ρ', asB_some e, fun u G' H' v p => ⟨b, dp_bl p, q G' H' v⟩⟩
/-- and, or, not -/
def tAndD (f g : DTx) : DTx := fun ρ => match f ρ with
  | some (true, ρ1) => g ρ1
  | z => z
def tOrD (f g : DTx) : DTx := fun ρ => match f ρ with
  | some (false, ρ1) => g ρ1
  | z => z
def tNotD (f : DTx) : DTx := fun ρ => match f ρ with
  | some (b, ρ1) => some (!b, ρ1)
  | z => z
section
variable {X : Cx} {a b : Expr} {rest : List Expr} {pos : Pos} {f g : DTx}
theorem use_T {K : PySem.W.Frag} {C : EC} {σ : L2.St} {ρ ρ' : Env} {G H : Hp} {f : DTx} {r : Bool} {Q : Bool → Hp → Prop} (s : Stt K C G H σ ρ) (e : f ρ = some (r, ρ')) (h : ∀ G' H', Ev K C σ ρ G H ρ' G' H' → Q r H') : liftT K f σ H Q :=
  ⟨C, G, ρ, s, r, ρ', e, h⟩
theorem lt_and {K : PySem.W.Frag} {σ : L2.St} {H : Hp} {Q : Bool → Hp → Prop} (h : liftT K (tAndD f g) σ H Q) : tAnd (liftT K f) (liftT K g) σ H Q := by
  obtain ⟨C, G, ρ, s, b, ρ', e, q⟩ := h
  unfold tAndD at e
  cases hf : f ρ with
  | none => rw [hf] at e; cases e
  | some z =>
    obtain ⟨c, ρ1⟩ := z
    rw [hf] at e
    refine use_T s hf fun G1 H1 v1 => ?_
    cases c with
    | true => exact iteT (use_T v1.stt e fun G2 H2 v2 => q G2 H2 (v1.trans v2))
    | false => cases e; exact iteF (q G1 H1 v1)
theorem lt_or {K : PySem.W.Frag} {σ : L2.St} {H : Hp} {Q : Bool → Hp → Prop} (h : liftT K (tOrD f g) σ H Q) : tOr (liftT K f) (liftT K g) σ H Q := by
  obtain ⟨C, G, ρ, s, b, ρ', e, q⟩ := h
  unfold tOrD at e
  cases hf : f ρ with
  | none => rw [hf] at e; cases e
  | some z =>
    obtain ⟨c, ρ1⟩ := z
    rw [hf] at e
    refine use_T s hf fun G1 H1 v1 => ?_
    cases c with
    | false => exact iteF (use_T v1.stt e fun G2 H2 v2 => q G2 H2 (v1.trans v2))
    | true => cases e; exact iteT (q G1 H1 v1)
theorem lt_not {K : PySem.W.Frag} {σ : L2.St} {H : Hp} {Q : Bool → Hp → Prop} (h : liftT K (tNotD f) σ H Q) : tNot (liftT K f) σ H Q := by
  obtain ⟨C, G, ρ, s, b, ρ', e, q⟩ := h
  unfold tNotD at e
  cases hf : f ρ with
  | none => rw [hf] at e; cases e
  | some z =>
    obtain ⟨c, ρ1⟩ := z
    rw [hf] at e
    cases e
    exact use_T s hf fun G1 H1 v1 => q G1 H1 v1
theorem PW.mono {e : Expr} {t t' : TT} (h : PW X e t) (w : ∀ σ H Q, t' σ H Q → t σ H Q) : PW X e t' :=
  ⟨fun wh pins s σ H Q I q => h.run wh pins s σ H Q I (w σ H Q q)⟩
theorem dw_and1 (ha : DT X a f) : DW X (.BoolOp .And [a] pos) f := pw_and1 ha
theorem dw_or1 (ha : DT X a f) : DW X (.BoolOp .Or [a] pos) f := pw_or1 ha
theorem dw_and (ha : DT X a f) (hb : DW X (.BoolOp .And (b :: rest) pos) g) : DW X (.BoolOp .And (a :: b :: rest) pos) (tAndD f g) := PW.mono (pw_and ha hb) fun _ _ _ => lt_and
theorem dw_or (ha : DT X a f) (hb : DW X (.BoolOp .Or (b :: rest) pos) g) : DW X (.BoolOp .Or (a :: b :: rest) pos) (tOrD f g) := PW.mono (pw_or ha hb) fun _ _ _ => lt_or
theorem dt_w {e : Expr} (h : DW X e f) : DT X e f := PW.pt h
theorem dt_not (ha : DT X a f) : DT X (.UnaryOp .Not a pos) (tNotD f) := PT.mono (pt_not ha) fun _ _ _ => lt_not
/-- as values: all but the last are bools -/
def eAnd (f g : DEx) : DEx := fun ρ => match asB (f ρ) with
  | some (true, ρ1) => g ρ1
  | some (false, ρ1) => some (.fz (.bool false), ρ1)
  | none => none
def eOr (f g : DEx) : DEx := fun ρ => match asB (f ρ) with
  | some (false, ρ1) => g ρ1
  | some (true, ρ1) => some (.fz (.bool true), ρ1)
  | none => none
def eNot (f : DEx) : DEx := fun ρ => match asB (f ρ) with
  | some (b, ρ1) => some (.fz (.bool !b), ρ1)
  | none => none
theorem RepR.lift {K : PySem.W.Frag} {C : EC} {σ : L2.St} {ρ ρ1 ρ2 : Env} {G H G1 H1 G2 H2 : Hp} {u : V} {r : RV} (a : Ev K C σ ρ G H ρ1 G1 H1) (h : RepR K G2 H1 H2 σ ρ2 u r) : RepR K G2 H H2 σ ρ2 u r := by
  cases r with
  | fz d => exact h
  | sl i => exact h
  | fr xs =>
    obtain ⟨p, e, n, k⟩ := h
    refine ⟨p, e, ?_, k⟩
    cases e0 : H p with
    | none => rfl
    | some o => exact absurd n (a.keepH p (by rw [e0]; simp))
theorem le_and {K : PySem.W.Frag} {f g : DEx} {σ : L2.St} {H : Hp} {Q : VK} (h : liftE K (eAnd f g) σ H Q) : tAndV (liftE K f) (liftE K g) σ H Q := by
  obtain ⟨C, G, ρ, s, r, ρ', e, q⟩ := h
  unfold eAnd at e
  cases hf : asB (f ρ) with
  | none => rw [hf] at e; cases e
  | some z =>
    obtain ⟨c, ρ1⟩ := z
    rw [hf] at e
    refine use_E s (asB_some hf) fun u G1 H1 v1 p1 => ⟨c, dp_bl p1, ?_⟩
    cases c with
    | true => exact iteT (use_E v1.stt e fun u2 G2 H2 v2 p2 => q u2 G2 H2 (v1.trans v2) (p2.lift v1))
    | false => cases e; exact iteF (q _ G1 H1 v1 (.bl false))
theorem le_or {K : PySem.W.Frag} {f g : DEx} {σ : L2.St} {H : Hp} {Q : VK} (h : liftE K (eOr f g) σ H Q) : tOrV (liftE K f) (liftE K g) σ H Q := by
  obtain ⟨C, G, ρ, s, r, ρ', e, q⟩ := h
  unfold eOr at e
  cases hf : asB (f ρ) with
  | none => rw [hf] at e; cases e
  | some z =>
    obtain ⟨c, ρ1⟩ := z
    rw [hf] at e
    refine use_E s (asB_some hf) fun u G1 H1 v1 p1 => ⟨c, dp_bl p1, ?_⟩
    cases c with
    | false => exact iteF (use_E v1.stt e fun u2 G2 H2 v2 p2 => q u2 G2 H2 (v1.trans v2) (p2.lift v1))
    | true => cases e; exact iteT (q _ G1 H1 v1 (.bl true))
theorem le_not {K : PySem.W.Frag} {f : DEx} {σ : L2.St} {H : Hp} {Q : VK} (h : liftE K (eNot f) σ H Q) : tNotV (liftE K f) σ H Q := by
  obtain ⟨C, G, ρ, s, r, ρ', e, q⟩ := h
  unfold eNot at e
  cases hf : asB (f ρ) with
  | none => rw [hf] at e; cases e
  | some z =>
    obtain ⟨c, ρ1⟩ := z
    rw [hf] at e
    cases e
    exact use_E s (asB_some hf) fun u G1 H1 v1 p1 => ⟨c, dp_bl p1, q _ G1 H1 v1 (.bl _)⟩
theorem de_one {op} {f : DEx} (h : DE X a f) : DE X (.BoolOp op [a] pos) f := pe_one h
theorem de_and {f g : DEx} (ha : DE X a f) (hb : DE X (.BoolOp .And (b :: rest) pos) g) : DE X (.BoolOp .And (a :: b :: rest) pos) (eAnd f g) := PE.mono (pe_and ha hb) fun _ _ _ => le_and
theorem de_or {f g : DEx} (ha : DE X a f) (hb : DE X (.BoolOp .Or (b :: rest) pos) g) : DE X (.BoolOp .Or (a :: b :: rest) pos) (eOr f g) := PE.mono (pe_or ha hb) fun _ _ _ => le_or
theorem de_not {f : DEx} (ha : DE X a f) : DE X (.UnaryOp .Not a pos) (eNot f) := PE.mono (pe_not ha) fun _ _ _ => le_not
/-- a if c else b -/
def eIf (c : DTx) (f g : DEx) : DEx := fun ρ => match c ρ with
  | some (true, ρ1) => f ρ1
  | some (false, ρ1) => g ρ1
  | none => none
theorem de_if {c : Expr} {t : DTx} {f g : DEx} (hc : DT X c t) (ha : DE X a f) (hb : DE X b g) : DE X (.IfExp c a b pos) (eIf t f g) := PE.mono (pe_ifExp hc ha hb) fun σ H Q h => by
  obtain ⟨C, G, ρ, s, r, ρ', e, q⟩ := h
  unfold eIf at e
  cases hf : t ρ with
  | none => rw [hf] at e; cases e
  | some z =>
    obtain ⟨c, ρ1⟩ := z
    rw [hf] at e
    refine use_T s hf fun G1 H1 v1 => ?_
    cases c with
    | true => exact iteT (use_E v1.stt e fun u2 G2 H2 v2 p2 => q u2 G2 H2 (v1.trans v2) (p2.lift v1))
    | false => exact iteF (use_E v1.stt e fun u2 G2 H2 v2 p2 => q u2 G2 H2 (v1.trans v2) (p2.lift v1))
/-- a < b < c: b is asked once -/
def eChain (o o' : D → D → Option OR) (f g h : DEx) : DEx := fun ρ => match f ρ with
  | some (r, ρ1) => match g ρ1 with
    | some (t, ρ2) => match deref ρ2 r, deref ρ2 t with
      | some a, some b => match o a b with
        | some (.at (.bool true)) => match h ρ2 with
          | some (w, ρ3) => match deref ρ3 t, deref ρ3 w with
            | some b, some c => match o' b c with
              | some z => some (z.rv, ρ3)
              | none => none
            | _, _ => none
          | none => none
        | some (.at (.bool false)) => some (.fz (.bool false), ρ2)
        | _ => none
      | _, _ => none
    | none => none
  | none => none
end
end DL
namespace DL
noncomputable section
open PySem PySem.Spec PyProof.Rows L2
/-- a decision that no computing looks into -/
def dP (p : Prop) : Bool := @decide p (Classical.propDecidable p)
theorem dP_iff {p : Prop} : (dP p = true) = p := by
  unfold dP
  exact propext (@decide_eq_true_iff p (Classical.propDecidable p))

/-! ### a < b < c -/
theorem le_chain {K : PySem.W.Frag} {o o' : D → D → Option OR} {f g h : DEx} {r r' : R2} (hs : OpS K r o) (hs' : OpS K r' o') {σ : L2.St} {H : Hp} {Q : VK} (hh : liftE K (eChain o o' f g h) σ H Q) : tChain r r' (liftE K f) (liftE K g) (liftE K h) σ H Q := by
  obtain ⟨C, G, ρ, s, r0, ρ', e, q⟩ := hh
  unfold eChain at e
  cases hf : f ρ with
  | none => rw [hf] at e; cases e
  | some z1 =>
    obtain ⟨r1, ρ1⟩ := z1
    rw [hf] at e
    simp only at e
    cases hg : g ρ1 with
    | none => rw [hg] at e; cases e
    | some z2 =>
      obtain ⟨t, ρ2⟩ := z2
      rw [hg] at e
      simp only at e
      refine use_E s hf fun x G1 H1 v1 p1 => use_E v1.stt hg fun y G2 H2 v2 p2 => ?_
      have p1' := p1.step s v1 v2
      have v12 := v1.trans v2
      split at e
      · rename_i a b e3 e4
        split at e
        · rename_i e5
          refine hs v2.stt (view_of v2.stt p1' e3) (view_of v2.stt p2 e4) e5 fun u G3 H3 v3 p3 => ⟨true, dp_bl p3, iteT ?_⟩
          cases h3 : h ρ2 with
          | none => rw [h3] at e; cases e
          | some z4 =>
            obtain ⟨w, ρ4⟩ := z4
            rw [h3] at e
            simp only at e
            refine use_E v3.stt h3 fun x4 G4 H4 v4 p4 => ?_
            have v34 := v3.trans v4
            have p2' := p2.step v1.stt v2 v34
            split at e
            · rename_i b2 c2 e6 e7
              split at e
              · rename_i z e8
                cases e
                refine hs' v4.stt (view_of v4.stt p2' e6) (view_of v4.stt p4 e7) e8 fun u5 G5 H5 v5 p5 => ?_
                exact q u5 G5 H5 (v12.trans (v34.trans v5)) (p5.lift (v12.trans v34))
              · cases e
            · cases e
        · rename_i e5
          cases e
          exact hs v2.stt (view_of v2.stt p1' e3) (view_of v2.stt p2 e4) e5 fun u G3 H3 v3 p3 => ⟨false, dp_bl p3, iteF (q _ G3 H3 (v12.trans v3) (.bl false))⟩
        · cases e
      · cases e
section
variable {X : Cx} {op op' : CmpOp} {r r' : R2} {o o' : D → D → Option OR} {a b c : Expr} {f g h : DEx} {pos : Pos}
theorem de_chain (hr : OpR X (compareOp op) r) (hr' : OpR X (compareOp op') r') (hs : OpS X.K r o) (hs' : OpS X.K r' o') (ha : DE X a f) (hb : DE X b g) (hc : DE X c h) (hm : lastMarks [op, op'] [b, c] = false := by with_unfolding_all rfl) :
    DE X (.Compare a [op, op'] [b, c] pos) (eChain o o' f g h) := PE.mono (pe_chain hr hr' ha hb hc hm) fun _ _ _ => le_chain hs hs'
theorem dt_chain (hr : OpR X (compareOp op) r) (hr' : OpR X (compareOp op') r') (hs : OpS X.K r o) (hs' : OpS X.K r' o') (ha : DE X a f) (hb : DE X b g) (hc : DE X c h) (hm : lastMarks [op, op'] [b, c] = false := by with_unfolding_all rfl) :
    DT X (.Compare a [op, op'] [b, c] pos) (eT (eChain o o' f g h)) := PT.mono (pt_chain hr hr' ha hb hc hm) fun σ H Q hh => by
  obtain ⟨C, G, ρ, s, b, ρ', e, q⟩ := hh
  exact le_chain hs hs' ⟨C, G, ρ, s, _, ρ', asB_some e, fun u G' H' v p => ⟨b, dp_bl p, q G' H' v⟩⟩
end

/-! ### arguments -/
def eArgs : List DEx → Env → Option (List RV × Env)
  | [], ρ => some ([], ρ)
  | f :: fs, ρ => match f ρ with
    | some (r, ρ1) => match eArgs fs ρ1 with
      | some (rs, ρ2) => some (r :: rs, ρ2)
      | none => none
    | none => none
def RepRs (K : PySem.W.Frag) (G' H H' : Hp) (σ : L2.St) (ρ' : Env) : List V → List RV → Prop
  | [], [] => True
  | u :: us, r :: rs => RepR K G' H H' σ ρ' u r ∧ RepRs K G' H H' σ ρ' us rs
  | _, _ => False
theorem RepRs.lift {K : PySem.W.Frag} {C : EC} {σ : L2.St} {ρ ρ1 ρ2 : Env} {G H G1 H1 G2 H2 : Hp} (a : Ev K C σ ρ G H ρ1 G1 H1) : ∀ {us : List V} {rs : List RV}, RepRs K G2 H1 H2 σ ρ2 us rs → RepRs K G2 H H2 σ ρ2 us rs
  | [], [], _ => trivial
  | u :: us, r :: rs, ⟨h, t⟩ => ⟨h.lift a, RepRs.lift a t⟩
def APost (K : PySem.W.Frag) (C : EC) (σ : L2.St) (ρ : Env) (G H : Hp) (Q : List V → Hp → Prop) (z : Option (List RV × Env)) : Prop :=
  ∃ rs ρ', z = some (rs, ρ') ∧ ∀ us G' H', Ev K C σ ρ G H ρ' G' H' → RepRs K G' H H' σ ρ' us rs → Q us H'
def liftA (K : PySem.W.Frag) (f : Env → Option (List RV × Env)) : TA := fun σ H Q => ∃ C G ρ, Stt K C G H σ ρ ∧ APost K C σ ρ G H Q (f ρ)
def DA (X : Cx) (es : List Expr) (fs : List DEx) : Prop := PA X es (liftA X.K (eArgs fs))
theorem use_A {K : PySem.W.Frag} {C : EC} {σ : L2.St} {ρ ρ' : Env} {G H : Hp} {f : Env → Option (List RV × Env)} {rs : List RV} {Q : List V → Hp → Prop} (s : Stt K C G H σ ρ) (e : f ρ = some (rs, ρ')) (h : ∀ us G' H', Ev K C σ ρ G H ρ' G' H' → RepRs K G' H H' σ ρ' us rs → Q us H') : liftA K f σ H Q :=
  ⟨C, G, ρ, s, rs, ρ', e, h⟩
section
variable {X : Cx} {e : Expr} {es : List Expr} {f : DEx} {fs : List DEx}
theorem da_nil : DA X [] [] := PA.mono pa_nil fun σ H Q h => by
  obtain ⟨C, G, ρ, s, rs, ρ', e, q⟩ := h
  cases e
  exact q [] G H (Ev.refl s) trivial
theorem da_cons (ha : DE X e f) (hr : DA X es fs) (hs : starEach (e :: es) X.env = (false, eval e X.env) :: starEach es X.env := by rfl) : DA X (e :: es) (f :: fs) := PA.mono (pa_cons ha hr hs) fun σ H Q h => by
  obtain ⟨C, G, ρ, s, rs, ρ', e, q⟩ := h
  unfold eArgs at e
  cases hf : f ρ with
  | none => rw [hf] at e; cases e
  | some z1 =>
    obtain ⟨r1, ρ1⟩ := z1
    rw [hf] at e
    simp only at e
    cases hg : eArgs fs ρ1 with
    | none => rw [hg] at e; cases e
    | some z2 =>
      obtain ⟨t, ρ2⟩ := z2
      rw [hg] at e
      cases e
      refine use_E s hf fun x G1 H1 v1 p1 => use_A v1.stt hg fun us G2 H2 v2 p2 => ?_
      exact q (x :: us) G2 H2 (v1.trans v2) ⟨p1.step s v1 v2, RepRs.lift v1 p2⟩
end
def derefs (ρ : Env) : List RV → Option (List D)
  | [] => some []
  | r :: rs => match deref ρ r, derefs ρ rs with
    | some d, some ds => some (d :: ds)
    | _, _ => none
inductive Views (K : PySem.W.Frag) (G H : Hp) : List V → List D → Prop
  | nil : Views K G H [] []
  | cons {u : V} {d : D} {us : List V} {ds : List D} : View K G H u d → Views K G H us ds → Views K G H (u :: us) (d :: ds)
theorem views_of {K : PySem.W.Frag} {C : EC} {σ : L2.St} {ρ' : Env} {G' H H' : Hp} (s : Stt K C G' H' σ ρ') : ∀ {us : List V} {rs : List RV} {ds : List D}, RepRs K G' H H' σ ρ' us rs → derefs ρ' rs = some ds → Views K G' H' us ds
  | [], [], _, _, e => by cases e; exact .nil
  | u :: us, r :: rs, ds, ⟨h, t⟩, e => by
    unfold derefs at e
    split at e
    · rename_i d ds' e1 e2
      cases e
      exact .cons (view_of s h e1) (views_of s t e2)
    · cases e
  | [], _ :: _, _, h, _ => h.elim
  | _ :: _, [], _, h, _ => h.elim
/-- a built-in's call -/
def CallS (K : PySem.W.Frag) (r : List V → Hp → VK → Prop) (o : List D → Option OR) : Prop := ∀ {C σ ρ G H us ds z} {Q : VK}, Stt K C G H σ ρ → Views K G H us ds → o ds = some z → Fin K C σ ρ G H z Q → r us H Q
def eB (o : List D → Option OR) (fs : List DEx) : DEx := fun ρ => match eArgs fs ρ with
  | some (rs, ρ1) => match derefs ρ1 rs with
    | some ds => match o ds with
      | some z => some (z.rv, ρ1)
      | none => none
    | none => none
  | none => none
theorem le_b {K : PySem.W.Frag} {r : List V → Hp → VK → Prop} {o : List D → Option OR} {fs : List DEx} (hs : CallS K r o) {σ : L2.St} {H : Hp} {Q : VK} (h : liftE K (eB o fs) σ H Q) : tCB r (liftA K (eArgs fs)) σ H Q := by
  obtain ⟨C, G, ρ, s, r', ρ', e, q⟩ := h
  unfold eB at e
  cases hf : eArgs fs ρ with
  | none => rw [hf] at e; cases e
  | some z1 =>
    obtain ⟨rs, ρ1⟩ := z1
    rw [hf] at e
    simp only at e
    split at e
    · rename_i ds e1
      split at e
      · rename_i z e2
        cases e
        refine use_A s hf fun us G1 H1 v1 p1 => hs v1.stt (views_of v1.stt p1 e1) e2 fun u G2 H2 v2 p2 => q u G2 H2 (v1.trans v2) (p2.lift v1)
      · cases e
    · cases e
section
variable {X : Cx} {x : Str} {p pos : Pos} {e : Expr} {es : List Expr} {fs : List DEx} {id T : String} {r : List V → Hp → VK → Prop} {o : List D → Option OR}
theorem de_b (hc : CallR X (.builtin id) r) (hs : CallS X.K r o) (hg : Gl X x) (hm : X.mg x = none) (hv : bootBuiltins x = some (.builtin id)) (ha : DA X (e :: es) fs) (hn : x ≠ "__name__" := by decide) (hdb : (x == ("__debug__" : Str)) = false := by decide)
    (he : starEach (e :: es) X.env = (false, eval e X.env) :: starEach es X.env := by rfl) (hpl : (backTo pos (starEach es X.env)).any (·.1) = false := by rfl) : DE X (.Call (.Name x p) (e :: es) [] pos) (eB o fs) :=
  PE.mono (pe_callB hc hg hm hv ha hn hdb he hpl) fun _ _ _ => le_b hs
theorem de_ty (hc : CallR X (.type T) r) (hs : CallS X.K r o) (hg : Gl X x) (hm : X.mg x = none) (hv : bootBuiltins x = some (.type T)) (ha : DA X (e :: es) fs) (hn : x ≠ "__name__" := by decide) (hdb : (x == ("__debug__" : Str)) = false := by decide)
    (he : starEach (e :: es) X.env = (false, eval e X.env) :: starEach es X.env := by rfl) (hpl : (backTo pos (starEach es X.env)).any (·.1) = false := by rfl) : DE X (.Call (.Name x p) (e :: es) [] pos) (eB o fs) :=
  PE.mono (pe_callTy hc hg hm hv ha hn hdb he hpl) fun _ _ _ => le_b hs
end

/-! ### a new list stays from now on -/
def eFz (f : DEx) : DEx := fun ρ => match f ρ with
  | some (.fz d, ρ1) => some (.fz d, ρ1)
  | some (.fr xs, ρ1) => some (.fz (.list xs), ρ1)
  | _ => none
theorem le_fz {K : PySem.W.Frag} {f : DEx} {σ : L2.St} {H : Hp} {Q : VK} (h : liftE K (eFz f) σ H Q) : liftE K f σ H Q := by
  obtain ⟨C, G, ρ, s, r', ρ', e, q⟩ := h
  unfold eFz at e
  split at e
  · rename_i d ρ1 e1
    cases e
    exact use_E s e1 q
  · rename_i xs ρ1 e1
    cases e
    refine use_E s e1 fun u G1 H1 v1 p1 => ?_
    obtain ⟨p, rfl, n, k⟩ := p1
    obtain ⟨vs, v2, d2⟩ := v1.freeze s n k
    exact q _ _ _ v2 d2
  · cases e
theorem de_fz {X : Cx} {e : Expr} {f : DEx} (h : DE X e f) : DE X e (eFz f) := PE.mono h fun _ _ _ => le_fz

/-! ### displays -/
def fzs : List RV → Option (List D)
  | [] => some []
  | .fz d :: rs => match fzs rs with
    | some ds => some (d :: ds)
    | none => none
  | _ :: _ => none
theorem dps_of {K : PySem.W.Frag} {σ : L2.St} {ρ' : Env} {G' H H' : Hp} : ∀ {us : List V} {rs : List RV} {ds : List D}, RepRs K G' H H' σ ρ' us rs → fzs rs = some ds → DpAll K G' us ds
  | [], [], _, _, e => by cases e; exact .nil
  | u :: us, r :: rs, ds, ⟨h, t⟩, e => by
    cases r with
    | fz d =>
      unfold fzs at e
      cases e2 : fzs rs with
      | none => rw [e2] at e; cases e
      | some ds' =>
        rw [e2] at e
        cases e
        exact .cons h (dps_of t e2)
    | fr _ => cases e
    | sl _ => cases e
  | [], _ :: _, _, h, _ => h.elim
  | _ :: _, [], _, h, _ => h.elim
/-- a bound that no computing looks into -/
def LIM : Nat := Classical.choose (⟨16000000, rfl⟩ : ∃ n : Nat, n = 16000000)
theorem LIM_eq : LIM = 16000000 := Classical.choose_spec (⟨16000000, rfl⟩ : ∃ n : Nat, n = 16000000)
theorem lim_le {n : Nat} (h : n ≤ LIM) : n ≤ sizeLine := Nat.le_trans h (by rw [LIM_eq]; decide)
theorem lim_lt {n : Nat} (h : n ≤ LIM) : n < sizeLine := Nat.lt_of_le_of_lt h (by rw [LIM_eq]; decide)
def eLst (fs : List DEx) : DEx := fun ρ => match eArgs fs ρ with
  | some (rs, ρ1) => match fzs rs with
    | some ds => if ds.length ≤ LIM then some (.fr ds, ρ1) else none
    | none => none
  | none => none
def eTup (fs : List DEx) : DEx := fun ρ => match eArgs fs ρ with
  | some (rs, ρ1) => match fzs rs with
    | some ds => if ds.length ≤ LIM then some (.fz (.tuple ds), ρ1) else none
    | none => none
  | none => none
section
variable {X : Cx} {es : List Expr} {fs : List DEx} {pos : Pos}
theorem de_lst (h : DA X es fs) : DE X (.List es pos) (eLst fs) := PE.mono (pe_lst h) fun σ H Q h => by
  obtain ⟨C, G, ρ, s, r', ρ', e, q⟩ := h
  unfold eLst at e
  split at e
  · rename_i rs ρ1 e1
    split at e
    · rename_i ds e2
      split at e
      · rename_i e3
        cases e
        refine use_A s e1 fun us G1 H1 v1 p1 => ?_
        have d := dps_of p1 e2
        refine ⟨by rw [DpAll.length d]; exact lim_le e3, fun p n => ?_⟩
        exact q _ G1 _ (v1.trans (Ev.newL v1.stt n)) (RepR.lift (r := .fr ds) v1 ⟨p, rfl, n, v1.stt.fresh0 n, us, upd_same, d⟩)
      · cases e
    · cases e
  · cases e
theorem de_tup {x1} (h : DA X es fs) : DE X (.Tuple es x1 pos) (eTup fs) := PE.mono (pe_tup h) fun σ H Q h => by
  obtain ⟨C, G, ρ, s, r', ρ', e, q⟩ := h
  unfold eTup at e
  split at e
  · rename_i rs ρ1 e1
    split at e
    · rename_i ds e2
      split at e
      · rename_i e3
        cases e
        refine use_A s e1 fun us G1 H1 v1 p1 => ?_
        have d := dps_of p1 e2
        refine ⟨by rw [DpAll.length d]; exact lim_le e3, fun p n => ?_⟩
        exact q _ _ _ (v1.trans (Ev.newT v1.stt n)) (.tup (SqT.of upd_same) (DpAll.mono (Sub.upd (v1.stt.fresh0 n)) d))
      · cases e
    · cases e
  · cases e
end

/-! ### operations on numbers -/
def oII (c : Int → Int → Bool) (g : Int → Int → D) : D → D → Option OR
  | .int i, .int j => if c i j = true then some (.at (g i j)) else none
  | _, _ => none
theorem oII_some {c : Int → Int → Bool} {g : Int → Int → D} {a b : D} {z : OR} (h : oII c g a b = some z) : ∃ i j, a = .int i ∧ b = .int j ∧ c i j = true ∧ z = .at (g i j) := by
  cases a with
  | int i =>
    cases b with
    | int j =>
      have h' : (if c i j = true then some (OR.at (g i j)) else none) = some z := h
      by_cases hc : c i j = true
      · rw [if_pos hc] at h'
        exact ⟨i, j, rfl, rfl, hc, (Option.some.inj h').symm⟩
      · rw [if_neg hc] at h'
        exact absurd h' (by simp)
    | _ => exact absurd h (by simp [oII])
  | _ => exact absurd h (by simp [oII])
theorem opS_II {K : PySem.W.Frag} {Cc : Int → Int → Prop} {gv : Int → Int → V} {c : Int → Int → Bool} {g : Int → Int → D} (hc : ∀ i j, c i j = true → Cc i j) (hg : ∀ i j G, Dp K G (gv i j) (g i j)) : OpS K (rI Cc gv) (oII c g) := by
  intro C σ ρ G H x y a b z Q s va vb e fin
  obtain ⟨i, j, rfl, rfl, hc', rfl⟩ := oII_some e
  exact ⟨i, j, va.int, vb.int, hc i j hc', Fin.at s fin (hg i j G)⟩
theorem opS_I0 {K : PySem.W.Frag} {gv : Int → Int → V} {g : Int → Int → D} (hg : ∀ i j G, Dp K G (gv i j) (g i j)) : OpS K (rI0 gv) (oII (fun _ _ => true) g) := by
  intro C σ ρ G H x y a b z Q s va vb e fin
  obtain ⟨i, j, rfl, rfl, hc', rfl⟩ := oII_some e
  exact ⟨i, j, va.int, vb.int, Fin.at s fin (hg i j G)⟩
/-- two rules, each for its kinds -/
theorem OpR.either {X : Cx} {f : Value → Value → Sem Value} {r r' : R2} (h : OpR X f r) (h' : OpR X f r') : OpR X f (fun x y H Q => r x y H Q ∨ r' x y H Q) := by
  intro pins s σ H x y v u Q I rx ry q
  rcases q with q | q
  · exact h pins s σ H x y v u Q I rx ry q
  · exact h' pins s σ H x y v u Q I rx ry q
def oOr (o o' : D → D → Option OR) : D → D → Option OR := fun a b => match o a b with
  | some z => some z
  | none => o' a b
theorem opS_or {K : PySem.W.Frag} {r r' : R2} {o o' : D → D → Option OR} (h : OpS K r o) (h' : OpS K r' o') : OpS K (fun x y H Q => r x y H Q ∨ r' x y H Q) (oOr o o') := by
  intro C σ ρ G H x y a b z Q s va vb e fin
  unfold oOr at e
  split at e
  · rename_i z' e1
    cases e
    exact .inl (h s va vb e1 fin)
  · exact .inr (h' s va vb e fin)
def mulOk (i j : Int) : Bool := dP (i.natAbs.log2 < 64) || dP (j.natAbs.log2 < 64) || dP (i.natAbs.log2 + j.natAbs.log2 < 1000000)
def divOk (_ j : Int) : Bool := dP (j ≠ 0) && dP (j.natAbs.log2 < 9000)
def powOk (i j : Int) : Bool := dP (0 ≤ j) && dP (j ≤ 1000000) && dP (i.natAbs < 2 ^ 64)
def CMulA (i j : Int) : Prop := mulOk i j = true
theorem log_bits (x : Int) : Builtin.Int.intBits x ≤ x.natAbs.log2 + 1 := by
  unfold Builtin.Int.intBits
  split <;> omega
theorem CMulA.ok {i j : Int} (h : CMulA i j) : IntMulOk i j := by
  unfold CMulA mulOk at h
  simp only [Bool.or_eq_true, dP_iff] at h
  rcases h with (h | h) | h
  · exact .of_left (Nat.le_trans (log_bits i) (by omega))
  · exact .of_right (Nat.le_trans (log_bits j) (by omega))
  · exact CMulW.ok h
section
variable {X : Cx}
theorem op_mulA : OpR X (binaryOp .Mult) (rI CMulA fun i j => .int (i * j)) := opI fun _ _ _ _ _ _ _ hc q => mul_int q hc.ok
theorem op_fdivA : OpR X (binaryOp .FloorDiv) (rI (fun i j => divOk i j = true) fun i j => .int (i.fdiv j)) := opI fun i j _ _ _ _ _ hc q => by
  unfold divOk at hc
  simp only [Bool.and_eq_true, dP_iff] at hc
  exact floordiv_int hc.1 q (.inl (PyProof.noPylong_of_log2 hc.2))
end
def oAddI : D → D → Option OR := oII (fun _ _ => true) fun i j => .int (i + j)
def oSub : D → D → Option OR := oII (fun _ _ => true) fun i j => .int (i - j)
def oMulI : D → D → Option OR := oII mulOk fun i j => .int (i * j)
def oFdiv : D → D → Option OR := oII divOk fun i j => .int (i.fdiv j)
def oMod : D → D → Option OR := oII (fun _ j => dP (j ≠ 0)) fun i j => .int (i.fmod j)
def oPow : D → D → Option OR := oII powOk fun i j => .int (i ^ j.toNat)
def oLt : D → D → Option OR := oII (fun _ _ => true) fun i j => .bool (decide (i < j))
def oLe : D → D → Option OR := oII (fun _ _ => true) fun i j => .bool (decide (i ≤ j))
def oGt : D → D → Option OR := oII (fun _ _ => true) fun i j => .bool (decide (i > j))
def oGe : D → D → Option OR := oII (fun _ _ => true) fun i j => .bool (decide (i ≥ j))
theorem s_addI {K : PySem.W.Frag} : OpS K (rI0 fun i j => .int (i + j)) oAddI := opS_I0 fun i j _ => .int _
theorem s_sub {K : PySem.W.Frag} : OpS K (rI0 fun i j => .int (i - j)) oSub := opS_I0 fun i j _ => .int _
theorem s_mulI {K : PySem.W.Frag} : OpS K (rI CMulA fun i j => .int (i * j)) oMulI := opS_II (fun _ _ h => h) fun i j _ => .int _
theorem s_fdiv {K : PySem.W.Frag} : OpS K (rI (fun i j => divOk i j = true) fun i j => .int (i.fdiv j)) oFdiv := opS_II (fun _ _ h => h) fun i j _ => .int _
theorem s_mod {K : PySem.W.Frag} : OpS K (rI (fun _ j => j ≠ 0) fun i j => .int (i.fmod j)) oMod := opS_II (fun _ _ h => dP_iff.mp h) fun i j _ => .int _
theorem s_pow {K : PySem.W.Frag} : OpS K (rI CPow fun i j => .int (i ^ j.toNat)) oPow := opS_II (fun _ _ h => by
  unfold powOk at h
  simp only [Bool.and_eq_true, dP_iff] at h
  exact ⟨h.1.1, h.1.2, h.2⟩) fun i j _ => .int _
end
end DL
namespace DL
noncomputable section
open PySem PySem.Spec PyProof.Rows L2

theorem s_lt {K : PySem.W.Frag} : OpS K (rI0 fun i j => .bl (decide (i < j))) oLt := opS_I0 fun i j _ => .bl _
theorem s_le {K : PySem.W.Frag} : OpS K (rI0 fun i j => .bl (decide (i ≤ j))) oLe := opS_I0 fun i j _ => .bl _
theorem s_gt {K : PySem.W.Frag} : OpS K (rI0 fun i j => .bl (decide (j < i))) oGt := opS_I0 fun i j _ => .bl _
theorem s_ge {K : PySem.W.Frag} : OpS K (rI0 fun i j => .bl (decide (j ≤ i))) oGe := opS_I0 fun i j _ => .bl _

/-! ### lists added, repeated; texts added -/
section
variable {X : Cx}
theorem isL_of {h : Heap} {a : Addr} {its : Array Value} (p : PlainL h a its) : ∃ (n : Nat) (dd : Option Addr) (sl : Array (Option Value)), h.get? a = some { cls := .type "list", dict := dd, data := .seq its n, slots := sl } := by
  obtain ⟨⟨c, dd, da, sl⟩, n, h1, h2, h3, h4⟩ := p
  simp only at h2 h3 h4
  subst h2 h3 h4
  exact ⟨n, _, sl, h1⟩
def rCatL (K : PySem.W.Frag) : R2 := fun x y H Q => ∃ l b xs zs, x = .ref l ∧ y = .ref b ∧ SqL K H l xs ∧ SqL K H b zs ∧ xs.length + zs.length ≤ sizeLine ∧ ∀ p, H p = none → Q (.ref p) (upd H p (.lst (xs ++ zs)))
theorem op_catL : OpR X (binaryOp .Add) (rCatL X.K) := by
  intro pins s σ H x y v u Q I rx ry h
  obtain ⟨l, b, xs, zs, rfl, rfl, hH, hB, hz, q⟩ := h
  cases rx
  cases ry
  obtain ⟨its, r, pl, z⟩ := I.list hH
  obtain ⟨its2, r2, pl2, z2⟩ := I.list hB
  obtain ⟨n, dd, sl, e⟩ := isL_of pl
  obtain ⟨n2, dd2, sl2, e2⟩ := isL_of pl2
  have hl := r.length
  have hl2 := r2.length
  have ea : its.toArray ++ its2.toArray = (its ++ its2).toArray := by simp
  refine concat_meets ⟨_, e, rfl⟩ ⟨_, e2, rfl⟩ noFill_list_add seq_list_add PySem.F.slot_list_add PySem.F.entry_list_add (PySem.F.args_list_add_2 _ _) (list_addW l b its.toArray its2.toArray n n2 dd dd2 sl sl2 (by simp only [List.size_toArray]; omega)) ⟨e, e2, ?_⟩
  rw [ea]
  exact ⟨.ref _, _, I.lnew (t' := s.toks) (r.append r2) (by rw [List.length_append]; omega), rfl, q _ I.fresh⟩
def rRepL (K : PySem.W.Frag) : R2 := fun x y H Q => ∃ l k xs, x = .ref l ∧ y = .int k ∧ SqL K H l xs ∧ -(2 ^ 63) ≤ k ∧ k < 2 ^ 63 ∧ xs.length * k.toNat ≤ sizeLine ∧
  ∀ p, H p = none → Q (.ref p) (upd H p (.lst (List.replicate k.toNat xs).flatten))
theorem op_repL : OpR X (binaryOp .Mult) (rRepL X.K) := by
  intro pins s σ H x y v u Q I rx ry h
  obtain ⟨l, k, xs, rfl, rfl, hH, h1, h2, hz, q⟩ := h
  cases rx
  obtain ⟨t, rfl⟩ := ry
  obtain ⟨its, r, pl, z⟩ := I.list hH
  obtain ⟨n, dd, sl, e⟩ := isL_of pl
  have hl := r.length
  have hlen : its.toArray.size * k.toNat ≤ sizeLine := by rw [List.size_toArray, ← hl]; exact hz
  have hcap : ¬ its.toArray.size * k.toNat > (2 ^ 63 - 1) / 8 := by
    have : (sizeLine : Nat) ≤ (2 ^ 63 - 1) / 8 := by decide
    omega
  have hfit : ¬ (!Builtin.List.listFitsIndex k) = true := by
    rw [fitsIndex_both h1 h2]
    exact Bool.false_ne_true
  have hlong : ¬ Builtin.List.listTooLong (its.toArray.size * k.toNat) = true := by
    rw [notLongL hlen]
    exact Bool.false_ne_true
  have hnew : List.foldl (fun x1 x2 => x1 ++ x2) #[] (List.replicate (if its.toArray.isEmpty = true then 0 else k.toNat) its.toArray) = (List.replicate k.toNat its).flatten.toArray := by
    rw [listMul_foldl_if]
  refine wpAny_binaryOp_repeat_ref (T := "list") (U := "int") (by decide) ⟨_, e, rfl⟩ (fun s' => typeIs_int s' k t) noFill_list_mul F.fills_int_mul F.slot_int_rmul repeat_list F.slot_int_index.lookup
    (call_meets F.slot_int_rmul (typeIs_int s k t) F.entry_int_rmul (F.args_int_rmul_2 _ _) (lm_int_rmul_list_any k t l its.toArray n dd sl)
      ⟨e, rfl, ⟨_, e, rfl⟩, call_meets F.slot_list_mul ⟨_, e, rfl⟩ F.entry_list_mul (F.args_list_mul_2 _ _) (lm_list_mul_any l its.toArray n dd sl k t hfit hcap hlong) ⟨e, ?_⟩⟩)
  rw [hnew]
  exact ⟨.ref _, _, I.lnew (t' := s.toks) (r.rep k.toNat) (by rw [PyProof.Rows.lm_len_rep_flat, Nat.mul_comm]; exact hz), rfl, q _ I.fresh⟩
end
def oCat : D → D → Option OR
  | .list xs, .list ys => if xs.length + ys.length ≤ LIM then some (.nl (xs ++ ys)) else none
  | .str x, .str y => if x.length + y.length ≤ LIM then some (.at (.str (x ++ y))) else none
  | _, _ => none
def oCatT : D → D → Option OR
  | .tuple (x :: xs), .tuple (y :: ys) => if xs.length + ys.length ≤ LIM then some (.nt ((x :: xs) ++ (y :: ys))) else none
  | .tuple [], .tuple ys => if ys.length ≤ LIM then some (.at (.tuple ys)) else none
  | .tuple (x :: xs), .tuple [] => if xs.length ≤ LIM then some (.at (.tuple (x :: xs))) else none
  | _, _ => none
def rAddA (K : PySem.W.Frag) : R2 := fun x y H Q => (rI0 fun i j => .int (i + j)) x y H Q ∨ (rCatL K x y H Q ∨ (∃ i j, x = .str i ∧ y = .str j ∧ i.length + j.length ≤ sizeLine ∧ Q (.str (i ++ j)) H))
theorem op_addA {X : Cx} : OpR X (binaryOp .Add) (rAddA X.K) := OpR.either op_add (OpR.either op_catL op_add_str)
def oAdd : D → D → Option OR := oOr oAddI oCat
theorem lim2 {a b : Nat} (h : a ≤ LIM) (k : b ≤ LIM) : a + b + 2 ≤ 2 * LIM + 2 := by omega
theorem s_cat {K : PySem.W.Frag} : OpS K (fun x y H Q => rCatL K x y H Q ∨ (∃ i j, x = .str i ∧ y = .str j ∧ i.length + j.length ≤ sizeLine ∧ Q (.str (i ++ j)) H)) oCat := by
  intro C σ ρ G H x y a b z Q s va vb e fin
  unfold oCat at e
  split at e
  · rename_i xs ys
    by_cases hl : xs.length + ys.length ≤ LIM
    · rw [if_pos hl] at e
      cases e
      obtain ⟨p, vs, rfl, h1, h2⟩ := va.list s.gh
      obtain ⟨q, ws, rfl, k1, k2⟩ := vb.list s.gh
      refine .inl ⟨p, q, vs, ws, rfl, rfl, h1, k1, by rw [DpAll.length h2, DpAll.length k2]; exact lim_le hl, Fin.nl s fin (DpAll.append h2 k2)⟩
    · rw [if_neg hl] at e
      cases e
  · rename_i xs ys
    by_cases hl : xs.length + ys.length ≤ LIM
    · rw [if_pos hl] at e
      cases e
      exact .inr ⟨_, _, va.str, vb.str, lim_le hl, Fin.at s fin (.str _)⟩
    · rw [if_neg hl] at e
      cases e
  · cases e
theorem s_add {K : PySem.W.Frag} : OpS K (rAddA K) oAdd := opS_or s_addI s_cat
/-- list * int, int * int -/
def repOk (n : Nat) (k : Int) : Bool := dP (-(2 ^ 63) ≤ k) && dP (k < 2 ^ 63) && dP (n * k.toNat ≤ LIM)
def oRep : D → D → Option OR
  | .list xs, .int k => if repOk xs.length k = true then some (.nl (List.replicate k.toNat xs).flatten) else none
  | _, _ => none
def oMul : D → D → Option OR := oOr oMulI oRep
def rMulA (K : PySem.W.Frag) : R2 := fun x y H Q => (rI CMulA fun i j => .int (i * j)) x y H Q ∨ rRepL K x y H Q
theorem op_mulAll {X : Cx} : OpR X (binaryOp .Mult) (rMulA X.K) := OpR.either op_mulA op_repL
theorem DpAll.rep {K : PySem.W.Frag} {G : Hp} {us : List V} {ds : List D} (h : DpAll K G us ds) : ∀ k : Nat, DpAll K G (List.replicate k us).flatten (List.replicate k ds).flatten
  | 0 => .nil
  | k + 1 => by
    rw [List.replicate_succ, List.replicate_succ, List.flatten_cons, List.flatten_cons]
    exact DpAll.append h (DpAll.rep h k)
theorem s_rep {K : PySem.W.Frag} : OpS K (rRepL K) oRep := by
  intro C σ ρ G H x y a b z Q s va vb e fin
  unfold oRep at e
  split at e
  · rename_i xs k
    by_cases hl : repOk xs.length k = true
    · rw [if_pos hl] at e
      cases e
      unfold repOk at hl
      simp only [Bool.and_eq_true, dP_iff] at hl
      obtain ⟨p, vs, rfl, h1, h2⟩ := va.list s.gh
      refine ⟨p, k, vs, rfl, vb.int, h1, hl.1.1, hl.1.2, by rw [DpAll.length h2]; exact lim_le hl.2, Fin.nl s fin (DpAll.rep h2 _)⟩
    · rw [if_neg hl] at e
      cases e
  · cases e
theorem s_mul {K : PySem.W.Frag} : OpS K (rMulA K) oMul := opS_or s_mulI s_rep

/-! ### == and != of data -/
def rEqP (K : PySem.W.Frag) : R2 := fun x y H Q => ∃ d e, Dp K H x d ∧ Dp K H y e ∧ (d.plain = true ∧ e.plain = true) ∧ min d.depth e.depth ≤ 64 ∧ Q (.bl (PyData.eqv d e)) H
def rNeP (K : PySem.W.Frag) : R2 := fun x y H Q => ∃ d e, Dp K H x d ∧ Dp K H y e ∧ (d.plain = true ∧ e.plain = true) ∧ min d.depth e.depth ≤ 64 ∧ Q (.bl (!PyData.eqv d e)) H
theorem op_eqP {X : Cx} (hu : X.A.units + 64 < cLine) : OpR X (compareOp .Eq) (rEqP X.K) := by
  intro pins s σ H x y v u Q I rx ry h
  obtain ⟨d, e, hd, he, ⟨pd, pe⟩, hm, q⟩ := h
  obtain ⟨as, r1⟩ := L2.Dp.reads I d x v (hd.hand pd) rx
  obtain ⟨bs, r2⟩ := L2.Dp.reads I e y u (he.hand pe) ry
  exact SeqAt.eq_plain r1 r2 pd pe (by omega) ⟨.bl _, H, I, rfl, q⟩
theorem op_neP {X : Cx} (hu : X.A.units + 64 < cLine) : OpR X (compareOp .NotEq) (rNeP X.K) := by
  intro pins s σ H x y v u Q I rx ry h
  obtain ⟨d, e, hd, he, ⟨pd, pe⟩, hm, q⟩ := h
  obtain ⟨as, r1⟩ := L2.Dp.reads I d x v (hd.hand pd) rx
  obtain ⟨bs, r2⟩ := L2.Dp.reads I e y u (he.hand pe) ry
  exact SeqAt.ne_plain r1 r2 pd pe (by omega) ⟨.bl _, H, I, rfl, q⟩
def oEq : D → D → Option OR := fun a b => if min a.depth b.depth ≤ 64 ∧ a.plain = true ∧ b.plain = true then some (.at (.bool (PyData.eqv a b))) else none
def oNe : D → D → Option OR := fun a b => if min a.depth b.depth ≤ 64 ∧ a.plain = true ∧ b.plain = true then some (.at (.bool (!PyData.eqv a b))) else none
theorem s_eq {K : PySem.W.Frag} : OpS K (rEqP K) oEq := by
  intro C σ ρ G H x y a b z Q s va vb e fin
  unfold oEq at e
  by_cases hl : min a.depth b.depth ≤ 64 ∧ a.plain = true ∧ b.plain = true
  · rw [if_pos hl] at e
    cases e
    exact ⟨a, b, va.dp s.gh, vb.dp s.gh, hl.2, hl.1, Fin.at s fin (.bl _)⟩
  · rw [if_neg hl] at e
    cases e
theorem s_ne {K : PySem.W.Frag} : OpS K (rNeP K) oNe := by
  intro C σ ρ G H x y a b z Q s va vb e fin
  unfold oNe at e
  by_cases hl : min a.depth b.depth ≤ 64 ∧ a.plain = true ∧ b.plain = true
  · rw [if_pos hl] at e
    cases e
    exact ⟨a, b, va.dp s.gh, vb.dp s.gh, hl.2, hl.1, Fin.at s fin (.bl _)⟩
  · rw [if_neg hl] at e
    cases e
/-- is None -/
def isN : D → Bool
  | .none => true
  | _ => false
def oIsN : D → D → Option OR
  | a, .none => some (.at (.bool (isN a)))
  | _, _ => none
def oNotN : D → D → Option OR
  | a, .none => some (.at (.bool (!isN a)))
  | _, _ => none
theorem View.isN {K : PySem.W.Frag} {G H : Hp} {u : V} {d : D} (h : View K G H u d) : decide (u = .non) = DL.isN d := by
  rcases h with h | ⟨p, xs, rfl, rfl, _⟩
  · cases h <;> rfl
  · rfl
theorem s_isN {K : PySem.W.Frag} : OpS K (fun x y H Q => y = .non ∧ Q (.bl (decide (x = .non))) H) oIsN := by
  intro C σ ρ G H x y a b z Q s va vb e fin
  cases b with
  | none =>
    cases e
    refine ⟨vb.non, ?_⟩
    rw [va.isN]
    exact Fin.at s fin (.bl _)
  | _ => cases e
theorem s_notN {K : PySem.W.Frag} : OpS K (fun x y H Q => y = .non ∧ Q (.bl (!decide (x = .non))) H) oNotN := by
  intro C σ ρ G H x y a b z Q s va vb e fin
  cases b with
  | none =>
    cases e
    refine ⟨vb.non, ?_⟩
    rw [va.isN]
    exact Fin.at s fin (.bl _)
  | _ => cases e
/-- in a list or tuple of flat things -/
def flatD : D → Bool
  | .none => true
  | .bool _ => true
  | .int _ => true
  | .str _ => true
  | _ => false
def inD (x : D) (xs : List D) : Bool := xs.any fun y => PyData.eqv y x
theorem flat_of {K : PySem.W.Frag} {G : Hp} {u : V} {d : D} (h : Dp K G u d) (f : flatD d = true) : flatV u = true := by
  cases h <;> first | rfl | cases f
theorem eqv_of {K : PySem.W.Frag} {G G' : Hp} {u v : V} {d e : D} (h : Dp K G u d) (k : Dp K G' v e) (f : flatD d = true) (g : flatD e = true) : eqV u v = PyData.eqv d e := by
  cases h <;> cases k <;> first | (cases f; done) | (cases g; done) | (simp only [PyData.eqv]; rfl)
theorem all_flat {K : PySem.W.Frag} {G : Hp} : ∀ {us : List V} {ds : List D}, DpAll K G us ds → ds.all flatD = true → us.all flatV = true
  | _, _, .nil, _ => rfl
  | _, _, .cons h t, f => by
    rw [List.all_cons, Bool.and_eq_true] at f
    rw [List.all_cons, flat_of h f.1, all_flat t f.2]
    rfl
theorem inV_of {K : PySem.W.Frag} {G G' : Hp} {u : V} {d : D} (hu : Dp K G' u d) (fd : flatD d = true) : ∀ {us : List V} {ds : List D}, DpAll K G us ds → ds.all flatD = true → inV u us = inD d ds
  | _, _, .nil, _ => rfl
  | _, _, .cons h t, f => by
    rw [List.all_cons, Bool.and_eq_true] at f
    have ih := inV_of hu fd t f.2
    unfold inV inD at ih ⊢
    rw [List.any_cons, List.any_cons, ih, eqv_of h hu f.1 fd]
def oInX (neg : Bool) : D → D → Option OR
  | x, .list xs => if flatD x = true ∧ xs.all flatD = true then some (.at (.bool (if neg then !inD x xs else inD x xs))) else none
  | x, .tuple xs => if flatD x = true ∧ xs.all flatD = true then some (.at (.bool (if neg then !inD x xs else inD x xs))) else none
  | _, _ => none
theorem s_in {K : PySem.W.Frag} {neg : Bool} : OpS K (rIn K neg) (oInX neg) := by
  intro C σ ρ G H x y a b z Q s va vb e fin
  unfold oInX at e
  split at e
  · rename_i xs
    by_cases hl : flatD a = true ∧ xs.all flatD = true
    · rw [if_pos hl] at e
      cases e
      obtain ⟨p, vs, rfl, h1, h2⟩ := vb.list s.gh
      refine ⟨p, vs, rfl, .inl h1, flat_of (va.dp s.gh) hl.1, all_flat h2 hl.2, ?_⟩
      rw [inV_of (va.dp s.gh) hl.1 h2 hl.2]
      exact Fin.at s fin (.bl _)
    · rw [if_neg hl] at e
      cases e
  · rename_i xs
    by_cases hl : flatD a = true ∧ xs.all flatD = true
    · rw [if_pos hl] at e
      cases e
      obtain ⟨p, vs, rfl, h1, h2⟩ := vb.tuple s.gh
      refine ⟨p, vs, rfl, .inr h1, flat_of (va.dp s.gh) hl.1, all_flat h2 hl.2, ?_⟩
      rw [inV_of (va.dp s.gh) hl.1 h2 hl.2]
      exact Fin.at s fin (.bl _)
    · rw [if_neg hl] at e
      cases e
  · cases e

/-! ### o[i], o[lo:hi] -/
def oIx : D → D → Option OR
  | .list xs, .int i => (atI xs i).map .at
  | .tuple xs, .int i => (atI xs i).map .at
  | .str z, .int i => if z.length ≤ LIM then (atI z.cps.toList i).map fun c => .at (.str ⟨#[c]⟩) else none
  | _, _ => none
theorem atI_some {α : Type} {xs : List α} {i : Int} {x : α} (h : atI xs i = some x) : ∃ j, ixN xs.length i = some j ∧ xs[j]? = some x := by
  unfold atI at h
  cases e : ixN xs.length i with
  | none => rw [e] at h; cases h
  | some j => rw [e] at h; exact ⟨j, rfl, h⟩
theorem DpAll.atI {K : PySem.W.Frag} {G : Hp} {us : List V} {ds : List D} (h : DpAll K G us ds) {i : Int} {d : D} (e : L2.atI ds i = some d) : ∃ u, L2.atI us i = some u ∧ Dp K G u d := by
  obtain ⟨j, e1, e2⟩ := atI_some e
  obtain ⟨u, h1, h2⟩ := DpAll.get h e2
  refine ⟨u, ?_, h2⟩
  unfold L2.atI
  rw [DpAll.length h, e1]
  exact h1
theorem s_ix {K : PySem.W.Frag} : OpS K (rIx K) oIx := by
  intro C σ ρ G H x y a b z Q s va vb e fin
  unfold oIx at e
  split at e
  · rename_i xs i
    cases e1 : atI xs i with
    | none => rw [e1] at e; cases e
    | some d =>
      rw [e1] at e
      cases e
      obtain ⟨p, vs, rfl, h1, h2⟩ := va.list s.gh
      obtain ⟨w, k1, k2⟩ := DpAll.atI h2 e1
      exact .inl ⟨p, vs, i, w, rfl, vb.int, h1, k1, Fin.at s fin k2⟩
  · rename_i xs i
    cases e1 : atI xs i with
    | none => rw [e1] at e; cases e
    | some d =>
      rw [e1] at e
      cases e
      obtain ⟨p, vs, rfl, h1, h2⟩ := va.tuple s.gh
      obtain ⟨w, k1, k2⟩ := DpAll.atI h2 e1
      exact .inr (.inl ⟨p, vs, i, w, rfl, vb.int, h1, k1, Fin.at s fin k2⟩)
  · rename_i xs i
    by_cases hl : xs.length ≤ LIM
    · rw [if_pos hl] at e
      cases e1 : atI xs.cps.toList i with
      | none => rw [e1] at e; cases e
      | some d =>
        rw [e1] at e
        cases e
        exact .inr (.inr ⟨xs, i, d, va.str, vb.int, lim_le hl, e1, Fin.at s fin (.str _)⟩)
    · rw [if_neg hl] at e
      cases e
  · cases e
theorem de_ix {X : Cx} {a b : Expr} {f g : DEx} {pos : Pos} (ha : DE X a f) (hb : DE X b g) (hs : PlainIx b := by intro _ _; rfl) : DE X (.Subscript a b pos) (eBin oIx f g) := PE.mono (pe_ix ix_seq ha hb hs) fun _ _ _ => le_bin s_ix
end
end DL
/-! Defs that may ask repr: no repr runs around them. -/
namespace DL
noncomputable section
open PySem PySem.Spec PyProof.Rows L2
abbrev NoX : XK := fun _ _ _ => False
/-- as the hand layer's promise of a def, where no repr runs around the call and nothing is raised -/
structure FnG (P : Program) (w : World) (K : PySem.W.Frag) (mg : Str → Option Value) (B : Heap) (k : Nat) (f : Addr) (fd : FuncData) (ps : List Str) (sp : Sp) : Prop where
  len : ∀ vs H Q E, sp vs H Q E → vs.length = ps.length
  run : ∀ (A : Around) (ou : List PySem.Env) (s : Shared) (H : Hp) (ar : Args) (us : List Value) (vs : List V) (Q : VK), A.guards = some [] → Room k A → Env0 P w K mg B A ou s H → BindsTo s fd ar (ps.zip us) → Vals vs us → sp vs H Q NoX →
    codeAny (model P w) A (.call (.ref f) ar) (CR CX0 ou P w H s Q NoX) s
theorem FnG.mono {P : Program} {w : World} {K : PySem.W.Frag} {mg : Str → Option Value} {B : Heap} {j k : Nat} {f : Addr} {fd : FuncData} {ps : List Str} {sp : Sp} (F : FnG P w K mg B j f fd ps sp) (h : j ≤ k) : FnG P w K mg B k f fd ps sp :=
  ⟨F.len, fun A ou s H ar us vs Q hg hr => F.run A ou s H ar us vs Q hg (hr.mono h)⟩
/-- a def by its body -/
theorem fnG {P : Program} {w : World} {K : PySem.W.Frag} {mg : Str → Option Value} {B : Heap} {k : Nat} {x qual : Str} {st : Stmt} {f : Addr} {fd : FuncData} {N ps : List Str} {sp : Sp} (F : Fun K x qual st f fd) (S : FnScope N ps (defScope st))
    (hlen : ∀ vs H Q E, sp vs H Q E → vs.length = ps.length)
    (hb : ∀ (cd : Value) (A : Around) (ou : List PySem.Env) (s : Shared) (H : Hp) (vs : List V) (Q : VK), A.guards = some [] → Room k (A.deeper (envOfC qual (defScope st) s.heap.objs.size f cd)) → sp vs H Q NoX →
      ∃ t, PSs (cxOf CX0 P w K mg B N qual (defScope st) f cd A ou s H NoX).nox (defBody st) t ∧ t { nx := fun _ H' => Q .non H', rt := Q } (start N vs) H) : FnG P w K mg B (k + 1) f fd ps sp := by
  obtain ⟨oc, od, kV, doc, pm, an, cdv, ct, osl, rfl, lk, hcd⟩ := F.ex
  refine ⟨hlen, fun A ou s H ar us vs Q hgd hr e0 hbd rv hs => ?_⟩
  have kin : K.In s.heap := e0.mod.kin.keeps fun b o e => (e0.bs b o e).1
  have hkd : ∀ y ∈ ps.zip us, (defScope st).names.lookup y.1 = some .local ∨ ((defScope st).names.lookup y.1 = some .cell ∧ ((cellsFrom (s.heap.objs.size + 1) (defScope st).names []).lookup y.1).isSome = true) := by
    rintro ⟨n, v⟩ hy
    have hm := S.par n (List.of_mem_zip hy).1
    rcases hm with z | z
    · exact Or.inl z
    · exact Or.inr ⟨z, PySem.W.cellsFrom_some _ _ _ (Or.inl z)⟩
  refine codeAny_call_function hr.depth (kin _ _ lk) rfl S.co S.gen rfl (PySem.W.codeRec_of kin hcd) (hbd _ _ _ _ ?_)
  refine wpAny_newFunctionEnv_cells S.kind hkd fun ev hev s1 ic => ?_
  subst hev
  have nol : s.heap.NoLimit := e0.mod.nolimit.keeps fun b o e => (e0.bs b o e).1
  refine ⟨nol.keeps ic.toInCall.keep, codeAny_func ?_⟩
  obtain ⟨t, ht, hq⟩ := hb cdv A ou s H vs Q hgd (hr.deeper _) hs
  have J := inv_start (CX := CX0) (E := NoX) S hr.hd e0 (hlen _ _ _ _ hs) rv ic
  have done : ∀ {σ' : L2.St} {H' : Hp} {v : V} {u : Value} {s' : Shared}, Inv (cxOf CX0 P w K mg B N qual (defScope st) f cdv A ou s H NoX) [] σ' H' s' → RelV v u → Q v H' → CE ou P w H s Q u s' := fun {σ' H' v u s'} I r q => ⟨v, H', I.os, I.bare, I.base, I.hok, r, q⟩
  refine wpAny_mono (ht.nox.run [] s1 (start N vs) H _ J hq) (fun fl s' hs' => ?_) fun e s' hs' => hs'
  cases fl with
  | next => obtain ⟨σ', H', I, q⟩ := hs'; exact done (v := V.non) (u := Value.none) I rfl q
  | ret u => obtain ⟨v, σ', H', I, r, q⟩ := hs'; exact done I r q
  | brk => obtain ⟨_, _, _, q⟩ := hs'; exact q.elim
  | cont => obtain ⟨_, _, _, q⟩ := hs'; exact q.elim
/-- a def that does not need it -/
theorem FnG.of {P : Program} {w : World} {K : PySem.W.Frag} {mg : Str → Option Value} {B : Heap} {k : Nat} {f : Addr} {fd : FuncData} {ps : List Str} {sp : Sp} (F : FnOk P w K mg B CX0 k f fd ps sp) : FnG P w K mg B k f fd ps sp :=
  ⟨F.len, fun A ou s H ar us vs Q _ hr e0 hb r h => F.run A ou s H ar us vs Q NoX hr e0 hb r h⟩
section
variable {X : Cx} {k : Nat} {f : Addr} {fd : FuncData} {ps ks : List Str} {sp : Sp} {x : Str} {p pos : Pos} {e : Expr} {es : List Expr} {t tk : TA} {kws : List Keyword} {g : List Value → List Value → List Value} {gV : List V → List V → List V} {dvs : List V} {ds : List Value}
theorem cr_end {pins : List (Addr × Obj)} {σ : L2.St} {H : Hp} {s : Shared} {Q : VK} (I : Inv X pins σ H s) {r : Result} {s' : Shared} (h : CR CX0 X.stack X.prog X.w H s Q NoX r s') : ∃ u, r = .ok (.ret u) ∧ EP X pins σ Q u s' := by
  cases r with
  | error e => exact False.elim h
  | ok fl =>
    cases fl with
    | ret u => exact ⟨u, rfl, I.after h⟩
    | next => exact False.elim h
    | brk => exact False.elim h
    | cont => exact False.elim h
theorem pe_callG (F : FnG X.prog X.w X.K X.mg X.base k f fd ps sp) (hgd : X.A.guards = some []) (hr : Room k X.A) (hg : Gl X x) (hm : X.mg x = some (.ref f)) (hk : PySem.W.keepIn X.K (.ref f) = true) (hb : Binds X.K fd ps ds) (hd : Vals dvs ds)
    (ha : PA X (e :: es) t) (hdb : (x == ("__debug__" : Str)) = false := by decide) (he : starEach (e :: es) X.env = (false, eval e X.env) :: starEach es X.env := by rfl) (hpl : (backTo pos (starEach es X.env)).any (·.1) = false := by rfl) :
    PE X (.Call (.Name x p) (e :: es) [] pos) (tCall sp dvs NoX t) := by
  refine ⟨fun pins s σ H Q I h => wpAny_Call_Name_kw (ld_glob I hg hm ?_ hdb)⟩
  refine PySem.W.callWith_K (h₀ := X.base) I.ok.mod.kin hk (thn (ha.run pos pins s σ H _ I h) fun us s1 ⟨vs, H1, I1, r, q⟩ => ⟨I1.kIn, ?_⟩) he hpl
  have r2 : Vals (vs ++ dvs) (us ++ ds) := r.append hd
  have hl : (us ++ ds).length = ps.length := by rw [← r2.length]; exact F.len _ _ _ _ q
  refine wpAny_call (codeAny_mono (F.run X.A X.stack s1 H1 ⟨us, []⟩ (us ++ ds) (vs ++ dvs) Q hgd hr I1.env0 (hb s1 us I1.kIn hl) r2 q) fun r s' hq => ?_)
  obtain ⟨u, rfl, z⟩ := cr_end I1 hq
  exact z
/-- keywords: n positional values, the names ks; g puts them in the parameters' sequence -/
structure KBd (K : PySem.W.Frag) (fd : FuncData) (ps : List Str) (n : Nat) (ks : List Str) (g : List Value → List Value) (gV : List V → List V) : Prop where
  to : ∀ (s : Shared) (us ws : List Value), K.In s.heap → us.length = n → ws.length = ks.length → BindsTo s fd ⟨us, ks.zip ws⟩ (ps.zip (g (us ++ ws)))
  ln : ∀ (us : List Value), us.length = n + ks.length → (g us).length = ps.length
  rel : ∀ {vs : List V} {us : List Value}, us.length = n + ks.length → Vals vs us → Vals (gV vs) (g us)
theorem run_G {pins : List (Addr × Obj)} {σ : L2.St} {H : Hp} {s : Shared} {Q : VK} {n : Nat} {us ws : List Value} {vs zs : List V} {g : List Value → List Value} {gV : List V → List V} (F : FnG X.prog X.w X.K X.mg X.base k f fd ps sp) (hgd : X.A.guards = some []) (hr : Room k X.A)
    (hb : KBd X.K fd ps n ks g gV) (I : Inv X pins σ H s) (r : Vals vs us) (rz : Vals zs ws) (h1 : us.length = n) (h2 : ws.length = ks.length) (h : sp (gV (vs ++ zs)) H Q NoX) : wpAny (model X.prog X.w) X.A (call (.ref f) us (ks.zip ws)) (EP X pins σ Q) X.xe s := by
  have hl : (us ++ ws).length = n + ks.length := by rw [List.length_append, h1, h2]
  have r2 := hb.rel hl (r.append rz)
  refine wpAny_call (codeAny_mono (F.run X.A X.stack s H ⟨us, ks.zip ws⟩ (g (us ++ ws)) (gV (vs ++ zs)) Q hgd hr I.env0 (hb.to s us ws I.kIn h1 h2) r2 h) fun r s' hq => ?_)
  obtain ⟨u, rfl, z⟩ := cr_end I hq
  exact z
/-- values and keywords' values -/
def tCallKG (sp : Sp) (n m : Nat) (gV : List V → List V) (t tk : TA) : TE := fun σ H Q => t σ H fun vs H1 => tk σ H1 fun zs H2 => vs.length = n ∧ zs.length = m ∧ sp (gV (vs ++ zs)) H2 Q NoX
theorem pe_callKG {n : Nat} {g : List Value → List Value} {gV : List V → List V} (F : FnG X.prog X.w X.K X.mg X.base k f fd ps sp) (hgd : X.A.guards = some []) (hr : Room k X.A) (hg : Gl X x) (hm : X.mg x = some (.ref f)) (hk : PySem.W.keepIn X.K (.ref f) = true) (hb : KBd X.K fd ps n ks g gV)
    (ha : PA X (e :: es) t) (hkw : PK X kws tk) (hall : (backToKw pos (keywordEach kws X.env)).all (·.1.isSome) = true := by rfl) (hks : (backToKw pos (keywordEach kws X.env)).filterMap (·.1) = ks := by rfl)
    (hdb : (x == ("__debug__" : Str)) = false := by decide) (he : starEach (e :: es) X.env = (false, eval e X.env) :: starEach es X.env := by rfl)
    (hpl : ((backTo pos (starEach (e :: es) X.env)).any (·.1) || (backToKw pos (keywordEach kws X.env)).any (·.1.isNone)) = false := by rfl) :
    PE X (.Call (.Name x p) (e :: es) kws pos) (tCallKG sp n ks.length gV t tk) := by
  refine ⟨fun pins s σ H Q I h => wpAny_Call_Name_kw (ld_glob I hg hm ?_ hdb)⟩
  refine PySem.W.callWith_KW (h₀ := X.base) I.ok.mod.kin hk hall (thn (ha.run pos pins s σ H _ I h) fun us s1 ⟨vs, H1, I1, r, q⟩ => ?_) hpl he
  refine thn (hkw.run pos pins s1 σ H1 _ I1 q) fun ws s2 ⟨zs, H2, I2, rz, l1, l2, q2⟩ => ⟨I2.kIn, ?_⟩
  rw [hks]
  exact run_G F hgd hr hb I2 r rz (r.length ▸ l1) (rz.length ▸ l2) q2
theorem pe_callK0 {g : List Value → List Value} {gV : List V → List V} (F : FnG X.prog X.w X.K X.mg X.base k f fd ps sp) (hgd : X.A.guards = some []) (hr : Room k X.A) (hg : Gl X x) (hm : X.mg x = some (.ref f)) (hk : PySem.W.keepIn X.K (.ref f) = true) (hb : KBd X.K fd ps 0 ks g gV)
    (hkw : PK X kws tk) (hall : (backToKw pos (keywordEach kws X.env)).all (·.1.isSome) = true := by rfl) (hks : (backToKw pos (keywordEach kws X.env)).filterMap (·.1) = ks := by rfl)
    (hdb : (x == ("__debug__" : Str)) = false := by decide)
    (hpl : ((backTo pos (starEach [] X.env)).any (·.1) || (backToKw pos (keywordEach kws X.env)).any (·.1.isNone)) = false := by rfl) :
    PE X (.Call (.Name x p) [] kws pos) (tCallKG sp 0 ks.length gV tNil tk) := by
  refine ⟨fun pins s σ H Q I h => wpAny_Call_Name_kw (ld_glob I hg hm ?_ hdb)⟩
  refine PySem.W.callWith_KW0 (h₀ := X.base) I.ok.mod.kin hk hall ?_ hpl
  refine thn (hkw.run pos pins s σ H _ I h) fun ws s2 ⟨zs, H2, I2, rz, l1, l2, q2⟩ => ⟨I2.kIn, ?_⟩
  rw [hks]
  exact run_G F hgd hr hb I2 .nil rz rfl (rz.length ▸ l2) q2
/-- f() -/
theorem pe_call0G (F : FnG X.prog X.w X.K X.mg X.base k f fd ps sp) (hgd : X.A.guards = some []) (hr : Room k X.A) (hg : Gl X x) (hm : X.mg x = some (.ref f)) (hk : PySem.W.keepIn X.K (.ref f) = true) (hb : Binds X.K fd ps ds) (hd : Vals dvs ds)
    (hdb : (x == ("__debug__" : Str)) = false := by decide) : PE X (.Call (.Name x p) [] [] pos) (tCall sp dvs NoX tNil) := by
  refine ⟨fun pins s σ H Q I h => wpAny_Call_Name_kw (ld_glob I hg hm ?_ hdb)⟩
  have hl : ds.length = ps.length := by rw [← hd.length]; exact F.len _ _ _ _ h
  refine PySem.W.callWith_K0 I.kIn hk ?_
  refine wpAny_call (codeAny_mono (F.run X.A X.stack s H ⟨[], []⟩ ds dvs Q hgd hr I.env0 (hb s [] I.kIn (by simpa using hl)) hd h) fun r s' hq => ?_)
  obtain ⟨u, rfl, z⟩ := cr_end I hq
  exact z
end
end
end DL
/-! Statements. -/
namespace DL
noncomputable section
open PySem PySem.Spec PyProof.Rows L2

inductive Out where
  | nx (ρ : Env) | bk (ρ : Env) | ct (ρ : Env) | rt (r : RV) (ρ : Env) | bad
abbrev DSt := Env → Out
/-- a value that is handed back -/
def RepT (K : PySem.W.Frag) (C : EC) (G H : Hp) (σ : L2.St) (ρ : Env) (u : V) : RV → Prop
  | .fz d => Dp K G u d
  | .fr xs => ∃ p, u = .ref p ∧ C.H0 p = none ∧ OwnAt K G H p xs
  | .sl i => ∃ p xs, u = .ref p ∧ C.H0 p = none ∧ OwnAt K G H p xs ∧ ρ[i]? = some (.own xs)
def OutOk (K : PySem.W.Frag) (C : EC) (G : Hp) (D : Ends) : Out → Prop
  | .nx ρ => ∀ σ G' H, Stt K C G' H σ ρ → Sub G G' → D.nx σ H
  | .bk ρ => ∀ σ G' H, Stt K C G' H σ ρ → Sub G G' → D.bk σ H
  | .ct ρ => ∀ σ G' H, Stt K C G' H σ ρ → Sub G G' → D.ct σ H
  | .rt r ρ => ∀ u σ G' H, Stt K C G' H σ ρ → Sub G G' → RepT K C G' H σ ρ u r → D.rt u H
  | .bad => False
def liftS (K : PySem.W.Frag) (g : DSt) : TS := fun D σ H => ∃ C G ρ, Stt K C G H σ ρ ∧ OutOk K C G D (g ρ)
def DS (X : Cx) (st : Stmt) (g : DSt) : Prop := PS X st (liftS X.K g)
def DB (X : Cx) (st : List Stmt) (g : DSt) : Prop := PSs X st (liftS X.K g)
section
variable {K : PySem.W.Frag} {C : EC} {σ : L2.St} {ρ ρ' : Env} {G H G' H' : Hp} {Dn : Ends}
theorem OutOk.sub (s : Sub G G') : ∀ {o : Out}, OutOk K C G Dn o → OutOk K C G' Dn o
  | .nx _, h => fun σ G2 H st q => h σ G2 H st (s.trans q)
  | .bk _, h => fun σ G2 H st q => h σ G2 H st (s.trans q)
  | .ct _, h => fun σ G2 H st q => h σ G2 H st (s.trans q)
  | .rt _ _, h => fun u σ G2 H st q r => h u σ G2 H st (s.trans q) r
  | .bad, h => h
/-- the same ways out, another next -/
theorem OutOk.seq {g : DSt} {nx' : L2.St → Hp → Prop} (o : Out) (h : ∀ ρ, o = .nx ρ → ∀ σ G' H, Stt K C G' H σ ρ → Sub G G' → nx' σ H) (k : (∀ ρ, o ≠ .nx ρ) → OutOk K C G Dn o) : OutOk K C G { Dn with nx := nx' } o := by
  cases o with
  | nx ρ => exact fun σ G' H s q => h ρ rfl σ G' H s q
  | bk ρ => exact k fun _ z => nomatch z
  | ct ρ => exact k fun _ z => nomatch z
  | rt r ρ => exact k fun _ z => nomatch z
  | bad => exact k fun _ z => nomatch z

/-! ### stores -/
def isPar : Cell → Bool
  | .par _ => true
  | _ => false
/-- a name is given something; a list handed in to be changed keeps its name -/
def put (i : Nat) (c : Cell) (ρ : Env) : Option Env := match ρ[i]? with
  | some (.par _) => none
  | some _ => some (ρ.set i c)
  | none => none
theorem put_some {i : Nat} {c : Cell} (h : put i c ρ = some ρ') : ∃ c0, ρ[i]? = some c0 ∧ isPar c0 = false ∧ ρ' = ρ.set i c := by
  unfold put at h
  split at h
  · cases h
  · rename_i c0 hc e
    cases h
    refine ⟨c0, e, ?_, rfl⟩
    cases c0 with
    | par xs => exact (hc xs rfl).elim
    | _ => rfl
  · cases h
/-- an own cell's address is no one else's -/
def Alone (σ : L2.St) (ρ : Env) (i : Nat) : Cell → Option V → Prop
  | .own _, some (.ref p) => ∀ j c, j ≠ i → ρ[j]? = some c → (cont c).isSome = true → σ[j]? ≠ some (some (.ref p))
  | .own _, _ => False
  | .dc _, some (.ref p) => ∀ j c, j ≠ i → ρ[j]? = some c → (cont c).isSome = true → σ[j]? ≠ some (some (.ref p))
  | .dc _, _ => False
  | .par _, _ => False
  | _, _ => True
theorem Stt.put (s : Stt K C G H σ ρ) {i : Nat} {c : Cell} {x : Option V} (h : DL.put i c ρ = some ρ') (k : CellOk K C G H i x c) (al : Alone σ ρ i c x) : Stt K C G H (σ.set i x) ρ' := by
  obtain ⟨c0, e0, hp, rfl⟩ := put_some h
  have hi : i < ρ.length := (List.getElem?_eq_some_iff.mp e0).1
  have hi' : i < σ.length := by rw [s.len]; exact hi
  refine ⟨s.gh, s.g0, s.ext, by simp [s.len], fun j cj e => ?_, fun j l cj cl p e1 e2 h1 h2 z1 z2 => ?_, fun q hq => ?_, s.ng0⟩
  · by_cases hj : j = i
    · subst hj
      rw [List.getElem?_set_self hi] at e
      cases e
      exact ⟨x, List.getElem?_set_self hi', k⟩
    · rw [List.getElem?_set_ne (Ne.symm hj)] at e
      obtain ⟨y, e2, k2⟩ := s.cell j cj e
      exact ⟨y, by rw [List.getElem?_set_ne (Ne.symm hj)]; exact e2, k2⟩
  · by_cases hj : j = i
    · by_cases hl : l = i
      · rw [hj, hl]
      · subst hj
        rw [List.getElem?_set_self hi] at e1; cases e1
        rw [List.getElem?_set_self hi'] at z1
        rw [List.getElem?_set_ne (Ne.symm hl)] at e2 z2
        have zx : x = some (.ref p) := Option.some.inj z1
        subst zx
        cases c with
        | own xs => exact absurd z2 (al l cl hl e2 h2)
        | dc xs => exact absurd z2 (al l cl hl e2 h2)
        | par xs => exact al.elim
        | un => cases h1
        | v d => cases h1
    · by_cases hl : l = i
      · subst hl
        rw [List.getElem?_set_self hi] at e2; cases e2
        rw [List.getElem?_set_self hi'] at z2
        rw [List.getElem?_set_ne (Ne.symm hj)] at e1 z1
        have zx : x = some (.ref p) := Option.some.inj z2
        subst zx
        cases c with
        | own xs => exact absurd z1 (al j cj hj e1 h1)
        | dc xs => exact absurd z1 (al j cj hj e1 h1)
        | par xs => exact al.elim
        | un => cases h2
        | v d => cases h2
      · rw [List.getElem?_set_ne (Ne.symm hj)] at e1 z1
        rw [List.getElem?_set_ne (Ne.symm hl)] at e2 z2
        exact s.dj j l cj cl p e1 e2 h1 h2 z1 z2
  · obtain ⟨⟨xs, e1⟩, e2⟩ := s.pal q hq
    have hne : q.1 ≠ i := fun z => by
      rw [z, e0] at e1
      cases e1
      cases hp
    exact ⟨⟨xs, by rw [List.getElem?_set_ne (Ne.symm hne)]; exact e1⟩, by rw [List.getElem?_set_ne (Ne.symm hne)]; exact e2⟩
theorem Stt.putV (s : Stt K C G H σ ρ) {i : Nat} {d : D} {u : V} (h : DL.put i (.v d) ρ = some ρ') (k : Dp K G u d) : Stt K C G H (σ.set i (some u)) ρ' :=
  s.put h ⟨u, rfl, k⟩ trivial
/-- a new list gets a name -/
theorem Stt.putN (s : Stt K C G H σ ρ) {i : Nat} {xs : List D} {p : Addr} (h : DL.put i (.own xs) ρ = some ρ') (k : OwnAt K G H p xs) (n : C.H0 p = none) (no : ¬ OA σ ρ p) : Stt K C G H (σ.set i (some (.ref p))) ρ' :=
  s.put h ⟨p, rfl, k, n⟩ fun j c hj e hc z => no ⟨j, c, e, hc, z⟩
/-- a name is forgotten -/
theorem Stt.forget (s : Stt K C G H σ ρ) {i : Nat} (h : DL.put i .un ρ = some ρ') : Stt K C G H σ ρ' := by
  obtain ⟨c0, e0, hp, rfl⟩ := put_some h
  have hi : i < ρ.length := (List.getElem?_eq_some_iff.mp e0).1
  refine ⟨s.gh, s.g0, s.ext, by simp [s.len], fun j cj e => ?_, fun j l cj cl p e1 e2 h1 h2 z1 z2 => ?_, fun q hq => ?_, s.ng0⟩
  · by_cases hj : j = i
    · subst hj
      rw [List.getElem?_set_self hi] at e
      cases e
      obtain ⟨y, e2, k2⟩ := s.cell j c0 e0
      exact ⟨y, e2, trivial⟩
    · rw [List.getElem?_set_ne (Ne.symm hj)] at e
      exact s.cell j cj e
  · by_cases hj : j = i
    · subst hj
      rw [List.getElem?_set_self hi] at e1; cases e1; cases h1
    · by_cases hl : l = i
      · subst hl
        rw [List.getElem?_set_self hi] at e2; cases e2; cases h2
      · rw [List.getElem?_set_ne (Ne.symm hj)] at e1
        rw [List.getElem?_set_ne (Ne.symm hl)] at e2
        exact s.dj j l cj cl p e1 e2 h1 h2 z1 z2
  · obtain ⟨⟨xs, e1⟩, e2⟩ := s.pal q hq
    have hne : q.1 ≠ i := fun z => by
      rw [z, e0] at e1
      cases e1
      cases hp
    exact ⟨⟨xs, by rw [List.getElem?_set_ne (Ne.symm hne)]; exact e1⟩, e2⟩
/-- a list of its own stays from now on -/
theorem Stt.freeze (s : Stt K C G H σ ρ) {i : Nat} {xs : List D} (e : ρ[i]? = some (.own xs)) : ∃ G', Sub G G' ∧ Stt K C G' H σ (ρ.set i (.v (.list xs))) := by
  have hi : i < ρ.length := (List.getElem?_eq_some_iff.mp e).1
  obtain ⟨x, e1, p, rfl, ⟨g, vs, hv, hd⟩, n⟩ := s.cell i _ e
  have sb : Sub G (upd G p (.lst vs)) := Sub.upd g
  refine ⟨upd G p (.lst vs), sb, ⟨fun b o z => ?_, s.g0.trans sb, s.ext, by simp [s.len], fun j cj ej => ?_, fun j l cj cl q e1' e2' h1 h2 z1 z2 => ?_, fun q hq => ?_, fun b h1 h2 => ?_⟩⟩
  · by_cases hb : b = p
    · subst hb; rw [upd_same] at z; cases z; exact hv
    · rw [upd_ne hb] at z; exact s.gh b o z
  · by_cases hj : j = i
    · subst hj
      rw [List.getElem?_set_self hi] at ej
      cases ej
      exact ⟨_, e1, _, rfl, .lst (SqL.of upd_same) (DpAll.mono sb hd)⟩
    · rw [List.getElem?_set_ne (Ne.symm hj)] at ej
      obtain ⟨y, e2, k2⟩ := s.cell j cj ej
      refine ⟨y, e2, ?_⟩
      have np : ∀ p' , y = some (.ref p') → (cont cj).isSome = true → p' ≠ p := fun p' z hc w => by
        subst w
        exact hj (s.dj j i cj _ p' ej e hc rfl (by rw [e2, z]) e1)
      cases cj with
      | un => trivial
      | v d =>
        obtain ⟨u, e, q⟩ := k2
        exact ⟨u, e, Dp.mono sb q⟩
      | own ys =>
        obtain ⟨p', e3, q, z2⟩ := k2
        exact ⟨p', e3, q.keep sb (by rw [upd_ne (np p' e3 rfl)]; exact q.1) (fun _ h => h), z2⟩
      | par ys =>
        obtain ⟨p', e3, q, z2⟩ := k2
        exact ⟨p', e3, q.keep sb (by rw [upd_ne (np p' e3 rfl)]; exact q.1) (fun _ h => h), z2⟩
      | dc ys =>
        obtain ⟨p', e3, q, z2⟩ := k2
        exact ⟨p', e3, q.keep sb (by rw [upd_ne (np p' e3 rfl)]; exact q.1) (fun _ h => h), z2⟩
  · have hj : j ≠ i := fun z => by subst z; rw [List.getElem?_set_self hi] at e1'; cases e1'; cases h1
    have hl : l ≠ i := fun z => by subst z; rw [List.getElem?_set_self hi] at e2'; cases e2'; cases h2
    rw [List.getElem?_set_ne (Ne.symm hj)] at e1'
    rw [List.getElem?_set_ne (Ne.symm hl)] at e2'
    exact s.dj j l cj cl q e1' e2' h1 h2 z1 z2
  · obtain ⟨⟨ys, e1'⟩, e2'⟩ := s.pal q hq
    have hne : q.1 ≠ i := fun z => by rw [z, e] at e1'; cases e1'
    exact ⟨⟨ys, by rw [List.getElem?_set_ne (Ne.symm hne)]; exact e1'⟩, e2'⟩
  · rw [upd_ne (fun z => h1 (by rw [z]; exact n))]
    exact s.ng0 b h1 h2
/-- a list is changed in its place -/
def setC (xs : List D) : Cell → Cell
  | .own _ => .own xs
  | .par _ => .par xs
  | c => c
theorem setC_cont {xs : List D} {c : Cell} (h : (contL c).isSome = true) : contL (setC xs c) = some xs := by
  cases c with
  | un => cases h
  | v _ => cases h
  | own _ => rfl
  | par _ => rfl
  | dc _ => cases h
theorem setC_lk {xs : List D} : ∀ c : Cell, Lk c (setC xs c)
  | .un => rfl
  | .v _ => rfl
  | .own _ => ⟨_, rfl⟩
  | .par _ => ⟨_, rfl⟩
  | .dc _ => ⟨_, rfl⟩
/-- what a place leans on is changed in its place -/
theorem Ev.writeG (s : Stt K C G H σ ρ) {i : Nat} {c c' : Cell} {p : Addr} {o' : HO} (e : ρ[i]? = some c) (hc : (cont c).isSome = true) (ep : σ[i]? = some (some (.ref p))) (lk : Lk c c')
    (hk : CellOk K C G (upd H p o') i (some (.ref p)) c') : Ev K C σ ρ G H (ρ.set i c') G (upd H p o') := by
  have hi : i < ρ.length := (List.getElem?_eq_some_iff.mp e).1
  have oa : OA σ ρ p := ⟨i, c, e, hc, ep⟩
  obtain ⟨hp, gp⟩ := s.oa_some oa
  have keep : ∀ b o, b ≠ p → H b = some o → upd H p o' b = some o := fun b o hb h => by rw [upd_ne hb]; exact h
  refine ⟨⟨fun b o z => ?_, s.g0, fun b o z hq => ?_, by simp [s.len], fun j cj ej => ?_, fun j l cj cl q e1 e2 h1 h2 z1 z2 => ?_, fun q hq => ?_, s.ng0⟩, Sub.refl G, fun b o h n => ?_, ?_, fun _ _ h => h, fun b h => ?_⟩
  · exact keep b o (fun w => by rw [w, gp] at z; cases z) (s.gh b o z)
  · have hb : b ≠ p := fun w => by
      subst w
      obtain ⟨x, e1, k⟩ := s.cell i c e
      rw [ep] at e1; cases e1
      cases c with
      | un => cases hc
      | v _ => cases hc
      | own ys =>
        obtain ⟨p', e2, _, n⟩ := k
        cases e2
        rw [n] at z; cases z
      | dc ys =>
        obtain ⟨p', e2, _, n⟩ := k
        cases e2
        rw [n] at z; cases z
      | par ys =>
        obtain ⟨p', e2, _, n⟩ := k
        cases e2
        exact hq _ n rfl
    exact keep b o hb (s.ext b o z hq)
  · by_cases hj : j = i
    · subst hj
      rw [List.getElem?_set_self hi] at ej
      cases ej
      exact ⟨_, ep, hk⟩
    · rw [List.getElem?_set_ne (Ne.symm hj)] at ej
      obtain ⟨y, e2, k2⟩ := s.cell j cj ej
      refine ⟨y, e2, ?_⟩
      have np : ∀ p' , y = some (.ref p') → (cont cj).isSome = true → p' ≠ p := fun p' z hc' w => by
        subst w
        exact hj (s.dj j i cj _ p' ej e hc' hc (by rw [e2, z]) ep)
      cases cj with
      | un => trivial
      | v d => exact k2
      | own ys =>
        obtain ⟨p', e3, q, z2⟩ := k2
        exact ⟨p', e3, q.keep (Sub.refl G) q.1 (fun o h => keep p' o (np p' e3 rfl) h), z2⟩
      | dc ys =>
        obtain ⟨p', e3, q, z2⟩ := k2
        exact ⟨p', e3, q.keep (Sub.refl G) q.1 (fun o h => keep p' o (np p' e3 rfl) h), z2⟩
      | par ys =>
        obtain ⟨p', e3, q, z2⟩ := k2
        exact ⟨p', e3, q.keep (Sub.refl G) q.1 (fun o h => keep p' o (np p' e3 rfl) h), z2⟩
  · have tr : ∀ {j : Nat} {cj : Cell}, (ρ.set i c')[j]? = some cj → (cont cj).isSome = true → ∃ c', ρ[j]? = some c' ∧ (cont c').isSome = true := fun {j cj} ej hcj => by
      by_cases hj : j = i
      · subst hj; exact ⟨c, e, hc⟩
      · rw [List.getElem?_set_ne (Ne.symm hj)] at ej; exact ⟨cj, ej, hcj⟩
    obtain ⟨c1, f1, g1⟩ := tr e1 h1
    obtain ⟨c2, f2, g2⟩ := tr e2 h2
    exact s.dj j l c1 c2 q f1 f2 g1 g2 z1 z2
  · obtain ⟨⟨ys, e1⟩, e2⟩ := s.pal q hq
    refine ⟨?_, e2⟩
    by_cases hj : q.1 = i
    · rw [hj, e] at e1
      cases e1
      obtain ⟨zs, rfl⟩ := lk
      exact ⟨zs, by rw [hj, List.getElem?_set_self hi]⟩
    · exact ⟨ys, by rw [List.getElem?_set_ne (Ne.symm hj)]; exact e1⟩
  · exact keep b o (fun w => n (w ▸ oa)) h
  · refine ⟨by simp, fun j cj ej => ?_⟩
    by_cases hj : j = i
    · subst hj
      rw [e] at ej; cases ej
      exact ⟨_, List.getElem?_set_self hi, lk⟩
    · exact ⟨cj, by rw [List.getElem?_set_ne (Ne.symm hj)]; exact ej, Lk.refl cj⟩
  · by_cases hb : b = p
    · subst hb; rw [upd_same]; simp
    · rw [upd_ne hb]; exact h
theorem contL_some {c : Cell} (h : (contL c).isSome = true) : (cont c).isSome = true := by
  cases c with
  | un => cases h
  | v _ => cases h
  | own _ => rfl
  | par _ => rfl
  | dc _ => cases h
theorem Ev.write (s : Stt K C G H σ ρ) {i : Nat} {c : Cell} {p : Addr} {xs : List D} {vs : List V} (e : ρ[i]? = some c) (hc : (contL c).isSome = true) (ep : σ[i]? = some (some (.ref p))) (hd : DpAll K G vs xs) :
    Ev K C σ ρ G H (ρ.set i (setC xs c)) G (upd H p (.lst vs)) := by
  have gp := (s.oa_some ⟨i, c, e, contL_some hc, ep⟩).2
  refine .writeG s e (contL_some hc) ep (setC_lk c) ?_
  obtain ⟨x, e1, k⟩ := s.cell i c e
  rw [ep] at e1; cases e1
  cases c with
  | un => cases hc
  | v _ => cases hc
  | dc _ => cases hc
  | own ys =>
    obtain ⟨p', e2, q, n⟩ := k
    cases e2
    exact ⟨p, rfl, ⟨gp, vs, upd_same, hd⟩, n⟩
  | par ys =>
    obtain ⟨p', e2, q, n⟩ := k
    cases e2
    exact ⟨p, rfl, ⟨gp, vs, upd_same, hd⟩, n⟩
/-- a dict is changed in its place -/
theorem Ev.writeD (s : Stt K C G H σ ρ) {i : Nat} {p : Addr} {kvs kvs' : List (Key × D)} {vs : List (Key × V)} (e : ρ[i]? = some (.dc kvs)) (ep : σ[i]? = some (some (.ref p))) (hd : DkAll K G vs kvs') :
    Ev K C σ ρ G H (ρ.set i (.dc kvs')) G (upd H p (.dK vs)) := by
  have gp := (s.oa_some ⟨i, _, e, rfl, ep⟩).2
  refine .writeG s e rfl ep ⟨_, rfl⟩ ?_
  obtain ⟨x, e1, k⟩ := s.cell i _ e
  rw [ep] at e1; cases e1
  obtain ⟨p', e2, q, n⟩ := k
  cases e2
  exact ⟨p, rfl, ⟨gp, vs, upd_same, hd⟩, n⟩
/-- the dict of a place -/
theorem Stt.dic (s : Stt K C G H σ ρ) {i : Nat} {kvs : List (Key × D)} (e : ρ[i]? = some (.dc kvs)) : ∃ p vs, σ[i]? = some (some (.ref p)) ∧ G p = none ∧ H p = some (.dK vs) ∧ DkAll K G vs kvs := by
  obtain ⟨x, e1, p, rfl, ⟨g, vs, hv, hd⟩, _⟩ := s.cell i _ e
  exact ⟨p, vs, e1, g, hv, hd⟩
end
end
end DL
/-! Statements: rules. -/
namespace DL
noncomputable section
open PySem PySem.Spec PyProof.Rows L2

theorem use_S {K : PySem.W.Frag} {C : EC} {σ : L2.St} {ρ : Env} {G H : Hp} {g : DSt} {Dn : Ends} (s : Stt K C G H σ ρ) (h : OutOk K C G Dn (g ρ)) : liftS K g Dn σ H := ⟨C, G, ρ, s, h⟩
section
variable {X : Cx} {st : Stmt} {sts : List Stmt} {g g' : DSt} {e : Expr} {f : DEx} {pos : Pos}
def sNext : DSt := fun ρ => .nx ρ
def sSeq (g g' : DSt) : DSt := fun ρ => match g ρ with
  | .nx ρ1 => g' ρ1
  | o => o
theorem ls_seq {K : PySem.W.Frag} {Dn : Ends} {σ : L2.St} {H : Hp} (h : liftS K (sSeq g g') Dn σ H) : tSeq (liftS K g) (liftS K g') Dn σ H := by
  obtain ⟨C, G, ρ, s, q⟩ := h
  refine use_S s (OutOk.seq (g := g) (g ρ) (fun ρ1 e σ1 G1 H1 s1 sb => ?_) fun ne => ?_)
  · refine use_S s1 (OutOk.sub sb ?_)
    unfold sSeq at q
    rw [e] at q
    exact q
  · unfold sSeq at q
    cases e : g ρ with
    | nx ρ1 => exact absurd e (ne ρ1)
    | bk _ => rw [e] at q; exact q
    | ct _ => rw [e] at q; exact q
    | rt _ _ => rw [e] at q; exact q
    | bad => rw [e] at q; exact q
theorem db_nil : DB X [] sNext := PSs.mono pss_nil fun Dn σ H h => by
  obtain ⟨C, G, ρ, s, q⟩ := h
  exact q σ G H s (Sub.refl G)
theorem db_cons (h : DS X st g) (k : DB X sts g') : DB X (st :: sts) (sSeq g g') := PSs.mono (pss_cons h k) fun _ _ _ => ls_seq
theorem db_one (h : DS X st g) : DB X [st] g := pss_one h
theorem ds_pass : DS X (.Pass pos) sNext := PS.mono ps_pass fun Dn σ H h => by
  obtain ⟨C, G, ρ, s, q⟩ := h
  exact q σ G H s (Sub.refl G)
def sBreak : DSt := fun ρ => .bk ρ
def sCont : DSt := fun ρ => .ct ρ
theorem ds_break : DS X (.Break pos) sBreak := PS.mono ps_break fun Dn σ H h => by
  obtain ⟨C, G, ρ, s, q⟩ := h
  exact q σ G H s (Sub.refl G)
theorem ds_cont : DS X (.Continue pos) sCont := PS.mono ps_continue fun Dn σ H h => by
  obtain ⟨C, G, ρ, s, q⟩ := h
  exact q σ G H s (Sub.refl G)
/-- never reached -/
def sBad : DSt := fun _ => .bad
theorem ds_bad : DS X st sBad := PS.mono ps_never fun Dn σ H h => by
  obtain ⟨C, G, ρ, s, q⟩ := h
  exact q
theorem db_bad : DB X sts sBad := PSs.mono pss_never fun Dn σ H h => by
  obtain ⟨C, G, ρ, s, q⟩ := h
  exact q
/-- what is known where a value has come -/
theorem RepR.toT {K : PySem.W.Frag} {C : EC} {σ : L2.St} {ρ ρ' : Env} {G H G' H' : Hp} (s : Stt K C G H σ ρ) (s' : Stt K C G' H' σ ρ') {u : V} {r : RV} (h : RepR K G' H H' σ ρ' u r) (hr : ∀ i, r = .sl i → ∃ xs, ρ'[i]? = some (.own xs)) : RepT K C G' H' σ ρ' u r := by
  cases r with
  | fz d => exact h
  | fr xs =>
    obtain ⟨p, e, n, k⟩ := h
    refine ⟨p, e, ?_, k⟩
    cases e0 : C.H0 p with
    | none => rfl
    | some o => exact absurd n (s.h0 (by rw [e0]; simp))
  | sl i =>
    obtain ⟨p, c, e, e1, e2, e3⟩ := h
    obtain ⟨x, e4, k⟩ := s'.cell i c e2
    rw [e1] at e4; cases e4
    obtain ⟨xs, e6⟩ := hr i rfl
    rw [e2] at e6; cases e6
    obtain ⟨p', e5, q, n⟩ := k
    cases e5
    exact ⟨p, xs, e, n, q, e2⟩
def sRet (f : DEx) : DSt := fun ρ => match f ρ with
  | some (.sl i, ρ1) => match ρ1[i]? with
    | some (.own _) => .rt (.sl i) ρ1
    | _ => .bad
  | some (r, ρ1) => .rt r ρ1
  | none => .bad
theorem ds_ret (he : DE X e f) : DS X (.Return (some e) pos) (sRet f) := PS.mono (ps_ret he) fun Dn σ H h => by
  obtain ⟨C, G, ρ, s, q⟩ := h
  unfold sRet at q
  cases hf : f ρ with
  | none => rw [hf] at q; exact q.elim
  | some z =>
    obtain ⟨r, ρ1⟩ := z
    rw [hf] at q
    refine use_E s hf fun u G1 H1 v1 p1 => ?_
    cases r with
    | fz d => exact q u σ G1 H1 v1.stt v1.sub (p1.toT s v1.stt fun _ z => nomatch z)
    | fr d => exact q u σ G1 H1 v1.stt v1.sub (p1.toT s v1.stt fun _ z => nomatch z)
    | sl i =>
      simp only at q
      split at q
      · rename_i xs e1
        exact q u σ G1 H1 v1.stt v1.sub (p1.toT s v1.stt fun j z => by cases z; exact ⟨_, e1⟩)
      · exact q.elim
def sRetN : DSt := fun ρ => .rt (.fz .none) ρ
theorem ds_retN : DS X (.Return none pos) sRetN := PS.mono ps_retN fun Dn σ H h => by
  obtain ⟨C, G, ρ, s, q⟩ := h
  exact q .non σ G H s (Sub.refl G) .non
def sIf (t : DTx) (g g' : DSt) : DSt := fun ρ => match t ρ with
  | some (true, ρ1) => g ρ1
  | some (false, ρ1) => g' ρ1
  | none => .bad
theorem ds_if {c : Expr} {a b : List Stmt} {t : DTx} (hc : DT X c t) (ha : DB X a g) (hb : DB X b g') : DS X (.If c a b pos) (sIf t g g') := PS.mono (ps_if hc ha hb) fun Dn σ H h => by
  obtain ⟨C, G, ρ, s, q⟩ := h
  unfold sIf at q
  cases hf : t ρ with
  | none => rw [hf] at q; exact q.elim
  | some z =>
    obtain ⟨b, ρ1⟩ := z
    rw [hf] at q
    refine use_T s hf fun G1 H1 v1 => ?_
    cases b with
    | true => exact iteT (use_S v1.stt (OutOk.sub v1.sub q))
    | false => exact iteF (use_S v1.stt (OutOk.sub v1.sub q))
def sExpr (f : DEx) : DSt := fun ρ => match f ρ with
  | some (_, ρ1) => .nx ρ1
  | none => .bad
theorem ds_expr (he : DE X e f) (hs : swapsWith e none pos.line X.env = pure false := by rfl) : DS X (.Expr e pos) (sExpr f) := PS.mono (ps_expr he hs) fun Dn σ H h => by
  obtain ⟨C, G, ρ, s, q⟩ := h
  unfold sExpr at q
  cases hf : f ρ with
  | none => rw [hf] at q; exact q.elim
  | some z =>
    obtain ⟨r, ρ1⟩ := z
    rw [hf] at q
    exact use_E s hf fun u G1 H1 v1 p1 => q σ G1 H1 v1.stt v1.sub
/-- x = e -/
def sSet (i : Nat) (f : DEx) : DSt := fun ρ => match f ρ with
  | some (.fz d, ρ1) => match put i (.v d) ρ1 with
    | some ρ2 => .nx ρ2
    | none => .bad
  | some (.fr xs, ρ1) => match put i (.own xs) ρ1 with
    | some ρ2 => .nx ρ2
    | none => .bad
  | some (.sl j, ρ1) => if i = j then .bad else match ρ1[j]? with
    | some (.own xs) => match put j .un ρ1 with
      | some ρ2 => match put i (.own xs) ρ2 with
        | some ρ3 => .nx ρ3
        | none => .bad
      | none => .bad
    | _ => .bad
  | none => .bad
theorem frn {K : PySem.W.Frag} {C : EC} {σ : L2.St} {ρ ρ' : Env} {G H G' H' : Hp} (s : Stt K C G H σ ρ) (v : Ev K C σ ρ G H ρ' G' H') {p : Addr} (n : H p = none) : C.H0 p = none ∧ ¬ OA σ ρ' p :=
  ⟨by
    cases e0 : C.H0 p with
    | none => rfl
    | some o => exact absurd n (s.h0 (by rw [e0]; simp)), fun z => (s.oa_some (z.bwd v.shp)).1 n⟩
theorem ls_set {K : PySem.W.Frag} {i : Nat} {Dn : Ends} {σ : L2.St} {H : Hp} (h : liftS K (sSet i f) Dn σ H) : tAsg (liftE K f) (gName i) Dn σ H := by
  obtain ⟨C, G, ρ, s, q⟩ := h
  unfold sSet at q
  cases hf : f ρ with
  | none => rw [hf] at q; exact q.elim
  | some z =>
    obtain ⟨r, ρ1⟩ := z
    rw [hf] at q
    refine use_E s hf fun u G1 H1 v1 p1 => ?_
    cases r with
    | fz d =>
      simp only at q
      cases e : put i (.v d) ρ1 with
      | none => rw [e] at q; exact q.elim
      | some ρ2 =>
        rw [e] at q
        exact q _ G1 H1 (v1.stt.putV e p1) v1.sub
    | fr xs =>
      simp only at q
      cases e : put i (.own xs) ρ1 with
      | none => rw [e] at q; exact q.elim
      | some ρ2 =>
        rw [e] at q
        obtain ⟨p, rfl, n, k⟩ := p1
        obtain ⟨n0, no⟩ := frn s v1 n
        exact q _ G1 H1 (v1.stt.putN e k n0 no) v1.sub
    | sl j =>
      simp only at q
      by_cases hij : i = j
      · rw [if_pos hij] at q; exact q.elim
      · rw [if_neg hij] at q
        split at q
        · rename_i xs e1
          obtain ⟨p, c, rfl, z1, z2, z3⟩ := p1
          rw [e1] at z2; cases z2
          cases e2 : put j .un ρ1 with
          | none => rw [e2] at q; exact q.elim
          | some ρ2 =>
            rw [e2] at q
            simp only at q
            cases e3 : put i (.own xs) ρ2 with
            | none => rw [e3] at q; exact q.elim
            | some ρ3 =>
              rw [e3] at q
              obtain ⟨x, w1, p', w2, w3, w4⟩ := v1.stt.cell j _ e1
              rw [z1] at w1; cases w1; cases w2
              have s2 := v1.stt.forget e2
              refine q _ G1 H1 (s2.putN e3 w3 w4 ?_) v1.sub
              rintro ⟨l, c', y1, y2, y3⟩
              obtain ⟨c0, o1, o2, rfl⟩ := put_some e2
              by_cases hl : l = j
              · subst hl
                rw [List.getElem?_set_self (List.getElem?_eq_some_iff.mp o1).1] at y1
                cases y1; cases y2
              · rw [List.getElem?_set_ne (Ne.symm hl)] at y1
                exact hl (v1.stt.dj l j c' _ p y1 e1 y2 rfl y3 z1)
        · exact q.elim
theorem ds_set {i : Nat} {x : Str} {pos' : Pos} (hN : X.N.Nodup) (hi : X.N[i]? = some x) (hx : Loc X.env.scope x) (he : DE X e f) (hs : swapsWith e (some (.Name x pos')) pos.line X.env = pure false := by rfl) (hf : X.fn x = true ∨ X.env.scope.names.lookup x = some .local := by first | exact .inl rfl | exact .inr rfl | assumption) :
    DS X (.Assign [.Name x pos'] e pos) (sSet i f) := PS.mono (ps_set hN hi hx he hs hf) fun _ _ _ => ls_set
/-- a, b = e1, e2 -/
def sPar (i j : Nat) (fs : List DEx) : DSt := fun ρ => match eArgs fs ρ with
  | some ([.fz a, .fz b], ρ1) => match put i (.v a) ρ1 with
    | some ρ2 => match put j (.v b) ρ2 with
      | some ρ3 => .nx ρ3
      | none => .bad
    | none => .bad
  | some ([.fr a, .fz b], ρ1) => match put i (.own a) ρ1 with
    | some ρ2 => match put j (.v b) ρ2 with
      | some ρ3 => .nx ρ3
      | none => .bad
    | none => .bad
  | some ([.fz a, .fr b], ρ1) => match put i (.v a) ρ1 with
    | some ρ2 => match put j (.own b) ρ2 with
      | some ρ3 => .nx ρ3
      | none => .bad
    | none => .bad
  | _ => .bad
theorem oa_put {σ : L2.St} {ρ ρ' : Env} {i : Nat} {c : Cell} {x : Option V} {p : Addr} (h : put i c ρ = some ρ') (hl : σ.length = ρ.length) (hx : x ≠ some (.ref p) ∨ cont c = none) (q : OA (σ.set i x) ρ' p) : OA σ ρ p := by
  obtain ⟨c0, e0, hp, rfl⟩ := put_some h
  have hi : i < ρ.length := (List.getElem?_eq_some_iff.mp e0).1
  obtain ⟨j, c', e, hc, z⟩ := q
  by_cases hj : j = i
  · subst hj
    rw [List.getElem?_set_self hi] at e; cases e
    rw [List.getElem?_set_self (by rw [hl]; exact hi)] at z
    rcases hx with w | w
    · exact absurd (Option.some.inj z) w
    · rw [w] at hc; cases hc
  · rw [List.getElem?_set_ne (Ne.symm hj)] at e z
    exact ⟨j, c', e, hc, z⟩
theorem ls_par {K : PySem.W.Frag} {i j : Nat} {fs : List DEx} {Dn : Ends} {σ : L2.St} {H : Hp} (h : liftS K (sPar i j fs) Dn σ H) : tPar i j (liftA K (eArgs fs)) Dn σ H := by
  obtain ⟨C, G, ρ, s, q⟩ := h
  unfold sPar at q
  cases hf : eArgs fs ρ with
  | none => rw [hf] at q; exact q.elim
  | some z =>
    obtain ⟨rs, ρ1⟩ := z
    rw [hf] at q
    refine use_A s hf fun us G1 H1 v1 p1 => ?_
    split at q
    · rename_i a b ρ1' e0
      cases e0
      match us, p1 with
      | [u, w], ⟨h1, h2, _⟩ =>
        refine ⟨u, w, rfl, ?_⟩
        split at q
        · rename_i ρ2 e1
          split at q
          · rename_i ρ3 e2
            exact q _ G1 H1 ((v1.stt.putV e1 h1).putV e2 h2) v1.sub
          · exact q.elim
        · exact q.elim
    · rename_i a b ρ1' e0
      cases e0
      match us, p1 with
      | [u, w], ⟨h1, h2, _⟩ =>
        refine ⟨u, w, rfl, ?_⟩
        split at q
        · rename_i ρ2 e1
          split at q
          · rename_i ρ3 e2
            obtain ⟨p, rfl, n, k⟩ := h1
            obtain ⟨n0, no⟩ := frn s v1 n
            exact q _ G1 H1 ((v1.stt.putN e1 k n0 no).putV e2 h2) v1.sub
          · exact q.elim
        · exact q.elim
    · rename_i a b ρ1' e0
      cases e0
      match us, p1 with
      | [u, w], ⟨h1, h2, _⟩ =>
        refine ⟨u, w, rfl, ?_⟩
        split at q
        · rename_i ρ2 e1
          split at q
          · rename_i ρ3 e2
            obtain ⟨p, rfl, n, k⟩ := h2
            obtain ⟨n0, no⟩ := frn s v1 n
            exact q _ G1 H1 ((v1.stt.putV e1 h1).putN e2 k n0 fun z => no (oa_put e1 v1.stt.len (.inr rfl) z)) v1.sub
          · exact q.elim
        · exact q.elim
    · exact q.elim
theorem ds_par {i j : Nat} {x y : Str} {a b : Expr} {fs : List DEx} {px py pt : Pos} {kt k2 pt2} (hc : X.calm = true) (hN : X.N.Nodup) (hi : X.N[i]? = some x) (hj : X.N[j]? = some y) (hij : i ≠ j)
    (hx : X.env.scope.names.lookup x = some .local) (hy : X.env.scope.names.lookup y = some .local) (ha : DA X [a, b] fs)
    (hw : swappedStores [.Tuple [.Name x px, .Name y py] kt pt] (.Tuple [a, b] k2 pt2) X.env = pure (some [x, y]) := by rfl)
    (hs : swapsWithSole [.Tuple [.Name x px, .Name y py] kt pt] (.Tuple [a, b] k2 pt2) pos.line X.env = pure false := by rfl) :
    DS X (.Assign [.Tuple [.Name x px, .Name y py] kt pt] (.Tuple [a, b] k2 pt2) pos) (sPar i j fs) := PS.mono (ps_par hc hN hi hj hij hx hy ha hw hs) fun _ _ _ => ls_par
/-- a list of its own stays from now on, ahead of a statement -/
def sFrz (i : Nat) (g : DSt) : DSt := fun ρ => match ρ[i]? with
  | some (.own xs) => g (ρ.set i (.v (.list xs)))
  | _ => g ρ
theorem ls_frz {K : PySem.W.Frag} {i : Nat} {Dn : Ends} {σ : L2.St} {H : Hp} (h : liftS K (sFrz i g) Dn σ H) : liftS K g Dn σ H := by
  obtain ⟨C, G, ρ, s, q⟩ := h
  unfold sFrz at q
  split at q
  · rename_i xs e
    obtain ⟨G', sb, s'⟩ := s.freeze e
    exact use_S s' (OutOk.sub sb q)
  · exact use_S s q
theorem ds_frz (i : Nat) (h : DS X st g) : DS X st (sFrz i g) := PS.mono h fun _ _ _ => ls_frz
theorem db_frz (i : Nat) (h : DB X sts g) : DB X sts (sFrz i g) := PSs.mono h fun _ _ _ => ls_frz

/-! ### while -/
def wN (t : DTx) (g : DSt) : Nat → Env → Option Out
  | 0, _ => none
  | n + 1, ρ => match t ρ with
    | some (true, ρ1) => match g ρ1 with
      | .nx ρ2 => wN t g n ρ2
      | .ct ρ2 => wN t g n ρ2
      | .bk ρ2 => some (.nx ρ2)
      | .rt r ρ2 => some (.rt r ρ2)
      | .bad => some .bad
    | some (false, ρ1) => some (.nx ρ1)
    | none => some .bad
open Classical in
def sWhile (t : DTx) (g : DSt) : DSt := fun ρ => if h : ∃ (n : Nat) (o : Out), wN t g n ρ = some o then h.choose_spec.choose else .bad
theorem wN_mono {t : DTx} {g : DSt} : ∀ {n m : Nat} {ρ : Env} {o : Out}, n ≤ m → wN t g n ρ = some o → wN t g m ρ = some o
  | 0, _, _, _, _, h => by cases h
  | n + 1, 0, _, _, l, _ => by omega
  | n + 1, m + 1, ρ, o, l, h => by
    unfold wN at h ⊢
    split at h
    · rename_i ρ1 e1
      split at h
      · exact wN_mono (by omega) h
      · exact wN_mono (by omega) h
      · exact h
      · exact h
      · exact h
    · exact h
    · exact h
theorem sWhile_eq {t : DTx} {g : DSt} {n : Nat} {ρ : Env} {o : Out} (h : wN t g n ρ = some o) : sWhile t g ρ = o := by
  unfold sWhile
  have ex : ∃ (n : Nat) (o : Out), wN t g n ρ = some o := ⟨n, o, h⟩
  rw [dif_pos ex]
  have k := ex.choose_spec.choose_spec
  have a := wN_mono (Nat.le_max_left n ex.choose) h
  have b := wN_mono (Nat.le_max_right n ex.choose) k
  rw [a] at b
  exact (Option.some.inj b).symm
theorem sWhile_get {t : DTx} {g : DSt} {ρ : Env} (h : sWhile t g ρ ≠ .bad) : ∃ n, wN t g n ρ = some (sWhile t g ρ) := by
  by_cases ex : ∃ (n : Nat) (o : Out), wN t g n ρ = some o
  · obtain ⟨n, o, e⟩ := ex
    exact ⟨n, by rw [sWhile_eq e]; exact e⟩
  · exact absurd (by unfold sWhile; rw [dif_neg ex]) h
theorem ls_while {K : PySem.W.Frag} {t : DTx} {Dn : Ends} {σ : L2.St} {H : Hp} (h : liftS K (sWhile t g) Dn σ H) : tWhile (liftT K t) (liftS K g) Dn σ H := by
  obtain ⟨C, G, ρ, s, q⟩ := h
  have nb : sWhile t g ρ ≠ .bad := fun z => by rw [z] at q; exact q
  obtain ⟨n, hn⟩ := sWhile_get nb
  generalize sWhile t g ρ = o at q hn
  refine ⟨fun m σ' H' => ∃ G' ρ', Stt K C G' H' σ' ρ' ∧ Sub G G' ∧ wN t g m ρ' = some o, ⟨n, G, ρ, s, Sub.refl G, hn⟩, ?_⟩
  rintro m σ1 H1 ⟨G1, ρ1, s1, sb1, e1⟩
  cases m with
  | zero => cases e1
  | succ m =>
    unfold wN at e1
    split at e1
    · rename_i ρ2 e2
      refine use_T s1 e2 fun G2 H2 v2 => iteT ⟨fun σ' H' => ∃ G' ρ', Stt K C G' H' σ' ρ' ∧ Sub G G' ∧ wN t g m ρ' = some o, fun σ' H' z => ⟨m, Nat.lt_succ_self m, z⟩, ?_⟩
      have sb2 := sb1.trans v2.sub
      refine use_S v2.stt ?_
      cases e3 : g ρ2 with
      | nx ρ3 => rw [e3] at e1; exact fun σ3 G3 H3 s3 sb3 => ⟨G3, ρ3, s3, sb2.trans sb3, e1⟩
      | ct ρ3 => rw [e3] at e1; exact fun σ3 G3 H3 s3 sb3 => ⟨G3, ρ3, s3, sb2.trans sb3, e1⟩
      | bk ρ3 =>
        rw [e3] at e1
        cases e1
        exact fun σ3 G3 H3 s3 sb3 => q σ3 G3 H3 s3 (sb2.trans sb3)
      | rt r ρ3 =>
        rw [e3] at e1
        cases e1
        exact fun u σ3 G3 H3 s3 sb3 p3 => q u σ3 G3 H3 s3 (sb2.trans sb3) p3
      | bad => rw [e3] at e1; cases e1; exact q
    · rename_i ρ2 e2
      cases e1
      exact use_T s1 e2 fun G2 H2 v2 => iteF (q σ1 G2 H2 v2.stt (sb1.trans v2.sub))
    · cases e1; exact q.elim
theorem ds_while {c : Expr} {body : List Stmt} {t : DTx} (hp : PassesOwn (model X.prog X.w) X.A X.env X.xe) (hc : DT X c t) (hb : DB X body g) : DS X (.While c body [] pos) (sWhile t g) := PS.mono (ps_while hp hc hb) fun _ _ _ => ls_while
end
end
end DL
/-! What is walked; for; comprehensions. -/
namespace DL
noncomputable section
open PySem PySem.Spec PyProof.Rows L2

structure Gives (K : PySem.W.Frag) (G : Hp) (J : It) (ds : List D) : Prop where
  go : ∀ i H, Sub G H → i < ds.length → J.go i H
  stop : ∀ H, Sub G H → J.stop ds.length H
  yld : ∀ i H x H', Sub G H → J.yld i H x H' → ∀ d, ds[i]? = some d → (H' = H ∧ Dp K G x d) ∨ ∃ T vs es, x = .ref T ∧ d = .tuple es ∧ H T = none ∧ H' = upd H T (.tup vs) ∧ DpAll K G vs es
abbrev DIt := Env → Option (List D × Env)
def liftI (K : PySem.W.Frag) (f : DIt) : TI := fun σ H R => ∃ C G ρ, Stt K C G H σ ρ ∧ ∃ ds ρ', f ρ = some (ds, ρ') ∧ ∀ J G' H', Ev K C σ ρ G H ρ' G' H' → Gives K G' J ds → R J H'
def DI (X : Cx) (tg e : Expr) (f : DIt) : Prop := PI X tg e (liftI X.K f)
theorem PI.mono {X : Cx} {tg e : Expr} {t t' : TI} (h : PI X tg e t) (w : ∀ σ H Q, t' σ H Q → t σ H Q) : PI X tg e t' :=
  ⟨fun pins s σ H Q I q => h.run pins s σ H Q I (w σ H Q q)⟩
theorem PI.either {X : Cx} {tg e : Expr} {t t' : TI} (h : PI X tg e t) (k : PI X tg e t') : PI X tg e (fun σ H R => t σ H R ∨ t' σ H R) :=
  ⟨fun pins s σ H Q I q => q.elim (fun z => h.run pins s σ H Q I z) fun z => k.run pins s σ H Q I z⟩
/-- the items of what an expression gives, a list or tuple that stays -/
def itOf : RV → Option (List D)
  | .fz (.list ds) => some ds
  | .fz (.tuple ds) => some ds
  | _ => none
def iSeq (f : DEx) : DIt := fun ρ => match f ρ with
  | some (r, ρ1) => match itOf r with
    | some ds => some (ds, ρ1)
    | none => none
  | none => none
section
variable {K : PySem.W.Frag} {G : Hp}
theorem gives_list {a : Addr} {vs : List V} {ds : List D} (h : SqL K G a vs) (hd : DpAll K G vs ds) (inj : ∀ H xs, Sub G H → SqL K H a xs → xs = vs) : Gives K G (Itl K a) ds := by
  refine ⟨fun i H s hi => ?_, fun H s => ⟨vs, SqL.mono s h, by rw [DpAll.length hd]; exact Nat.le_refl _⟩, fun i H x H' s y d hdi => .inl ?_⟩
  · obtain ⟨u, e, _⟩ := DpAll.get hd (List.getElem?_eq_getElem hi)
    exact ⟨vs, u, SqL.mono s h, e⟩
  · obtain ⟨rfl, fx⟩ := y
    obtain ⟨u, e, hu⟩ := DpAll.get hd hdi
    have ex := fx vs (SqL.mono s h)
    rw [e] at ex
    cases ex
    exact ⟨rfl, hu⟩
end
/-- no other list is read there -/
theorem gives_list' {K : PySem.W.Frag} {G : Hp} {a : Addr} {vs : List V} {ds : List D} (h : SqL K G a vs) (hd : DpAll K G vs ds) : Gives K G (Itl K a) ds := by
  refine ⟨fun i H s hi => ?_, fun H s => ⟨vs, SqL.mono s h, by rw [DpAll.length hd]; exact Nat.le_refl _⟩, fun i H x H' s y d hdi => .inl ?_⟩
  · obtain ⟨u, e, _⟩ := DpAll.get hd (List.getElem?_eq_getElem hi)
    exact ⟨vs, u, SqL.mono s h, e⟩
  · obtain ⟨rfl, fx⟩ := y
    obtain ⟨u, e, hu⟩ := DpAll.get hd hdi
    have ex := fx vs (SqL.mono s h)
    rw [e] at ex
    cases ex
    exact ⟨rfl, hu⟩
theorem gives_tup {K : PySem.W.Frag} {G : Hp} {a : Addr} {vs : List V} {ds : List D} (h : SqT K G a vs) (hd : DpAll K G vs ds) : Gives K G (Itt K a) ds := by
  refine ⟨fun i H s hi => ?_, fun H s => ⟨vs, SqT.mono s h, by rw [DpAll.length hd]; exact Nat.le_refl _⟩, fun i H x H' s y d hdi => .inl ?_⟩
  · obtain ⟨u, e, _⟩ := DpAll.get hd (List.getElem?_eq_getElem hi)
    exact ⟨vs, u, SqT.mono s h, e⟩
  · obtain ⟨rfl, fx⟩ := y
    obtain ⟨u, e, hu⟩ := DpAll.get hd hdi
    have ex := fx vs (SqT.mono s h)
    rw [e] at ex
    cases ex
    exact ⟨rfl, hu⟩
section
variable {X : Cx} {tg e : Expr} {f : DEx} {fs : List DEx} {p pos : Pos}
theorem di_seq (h : DE X e f) : DI X tg e (iSeq f) := PI.mono (PI.either (pi_list h) (pi_tup h)) fun σ H R w => by
  obtain ⟨C, G, ρ, s, ds, ρ', e, q⟩ := w
  unfold iSeq at e
  cases hf : f ρ with
  | none => rw [hf] at e; cases e
  | some z =>
    obtain ⟨r, ρ1⟩ := z
    rw [hf] at e
    simp only at e
    cases r with
    | fr _ => cases e
    | sl _ => cases e
    | fz d =>
      cases d with
      | list xs =>
        cases e
        refine .inl (use_E s hf fun u G1 H1 v1 p1 => ?_)
        cases (show Dp _ _ u (.list ds) from p1) with
        | lst a b => exact ⟨_, rfl, ⟨_, SqL.mono v1.stt.gh a⟩, q _ G1 H1 v1 (gives_list' a b)⟩
      | tuple xs =>
        cases e
        refine .inr (use_E s hf fun u G1 H1 v1 p1 => ?_)
        cases (show Dp _ _ u (.tuple ds) from p1) with
        | tup a b => exact ⟨_, rfl, ⟨_, SqT.mono v1.stt.gh a⟩, q _ G1 H1 v1 (gives_tup a b)⟩
      | none => cases e
      | bool _ => cases e
      | int _ => cases e
      | str _ => cases e
      | dict _ => cases e
/-- range -/
def rngD (lo : Int) (c : Int) (n : Nat) : List D := (List.range n).map fun k => .int (lo + (k : Nat) * c)
def bnd62 (i : Int) : Bool := dP (-(2 ^ 62) ≤ i) && dP (i < 2 ^ 62)
def rngOf : List D → Option (List D)
  | [.int j] => if bnd62 j = true then some (rngD 0 1 j.toNat) else none
  | [.int i, .int j] => if bnd62 i = true ∧ bnd62 j = true then some (rngD i 1 (j - i).toNat) else none
  | [.int i, .int j, .int c] => if dP (c ≠ 0 ∧ c.natAbs < 1073741824 ∧ Builtin.Range.small i j c = true) = true then some (rngD i c (Builtin.Range.rangeSize i j c).toNat) else none
  | _ => none
def iRange (fs : List DEx) : DIt := fun ρ => match eArgs fs ρ with
  | some (rs, ρ1) => match fzs rs with
    | some as => match rngOf as with
      | some ds => some (ds, ρ1)
      | none => none
    | none => none
  | none => none
theorem iRange_some {ρ ρ' : Env} {ds : List D} (h : iRange fs ρ = some (ds, ρ')) : ∃ rs as, eArgs fs ρ = some (rs, ρ') ∧ fzs rs = some as ∧ rngOf as = some ds := by
  unfold iRange at h
  split at h
  · rename_i rs ρ1 e1
    split at h
    · rename_i as e2
      split at h
      · rename_i ds' e3
        cases h
        exact ⟨rs, as, e1, e2, e3⟩
      · cases h
    · cases h
  · cases h
theorem rngD_get {lo c : Int} {n i : Nat} {d : D} (h : (rngD lo c n)[i]? = some d) : i < n ∧ d = .int (lo + (i : Nat) * c) := by
  unfold rngD at h
  rw [List.getElem?_map] at h
  by_cases hi : i < n
  · rw [List.getElem?_range hi] at h
    exact ⟨hi, (Option.some.inj h).symm⟩
  · rw [List.getElem?_eq_none (by simpa using hi)] at h
    cases h
theorem rngD_len (lo c : Int) (n : Nat) : (rngD lo c n).length = n := by simp [rngD]
theorem gives_rng {K : PySem.W.Frag} {G : Hp} {lo : Int} {n : Nat} : Gives K G (Itr lo n) (rngD lo 1 n) :=
  ⟨fun i H s hi => by rw [rngD_len] at hi; exact hi, fun H s => by rw [rngD_len]; exact Nat.le_refl n, fun i H x H' s y d hd => .inl (by
    obtain ⟨rfl, rfl⟩ := y
    obtain ⟨_, rfl⟩ := rngD_get hd
    refine ⟨rfl, ?_⟩
    rw [Int.mul_one]
    exact .int _)⟩
theorem gives_rngC {K : PySem.W.Frag} {G : Hp} {lo c : Int} {n : Nat} : Gives K G (Itc lo c n) (rngD lo c n) :=
  ⟨fun i H s hi => by rw [rngD_len] at hi; exact hi, fun H s => by rw [rngD_len]; exact Nat.le_refl n, fun i H x H' s y d hd => .inl (by
    obtain ⟨rfl, rfl⟩ := y
    obtain ⟨_, rfl⟩ := rngD_get hd
    exact ⟨rfl, .int _⟩)⟩
theorem dpi {K : PySem.W.Frag} {G : Hp} {u : V} {i : Int} (h : Dp K G u (.int i)) : u = .int i := by cases h; rfl
theorem dp1 {K : PySem.W.Frag} {G : Hp} {us : List V} {i : Int} (h : DpAll K G us [.int i]) : us = [.int i] := by
  cases h with
  | cons a b => cases b; rw [dpi a]
theorem dp2 {K : PySem.W.Frag} {G : Hp} {us : List V} {i j : Int} (h : DpAll K G us [.int i, .int j]) : us = [.int i, .int j] := by
  cases h with
  | cons a b => rw [dp1 b, dpi a]
theorem dp3 {K : PySem.W.Frag} {G : Hp} {us : List V} {i j k : Int} (h : DpAll K G us [.int i, .int j, .int k]) : us = [.int i, .int j, .int k] := by
  cases h with
  | cons a b => rw [dp2 b, dpi a]
theorem bnd_of {i : Int} (h : bnd62 i = true) : -(2 ^ 62) ≤ i ∧ i < 2 ^ 62 := by
  unfold bnd62 at h
  simpa [dP_iff] using h
theorem use_range {K : PySem.W.Frag} {σ : L2.St} {H : Hp} {R : It → Hp → Prop} {n : Nat} (hn : fs.length = n) (w : liftI K (iRange fs) σ H R) : ∃ C G ρ ds ρ' rs as, Stt K C G H σ ρ ∧ eArgs fs ρ = some (rs, ρ') ∧ fzs rs = some as ∧ rngOf as = some ds ∧ (∀ J G' H', Ev K C σ ρ G H ρ' G' H' → Gives K G' J ds → R J H') := by
  obtain ⟨C, G, ρ, s, ds, ρ', e, q⟩ := w
  obtain ⟨rs, as, e1, e2, e3⟩ := iRange_some e
  exact ⟨C, G, ρ, ds, ρ', rs, as, s, e1, e2, e3, q⟩
theorem eArgs_len : ∀ {fs : List DEx} {ρ ρ' : Env} {rs : List RV}, eArgs fs ρ = some (rs, ρ') → rs.length = fs.length
  | [], _, _, _, h => by cases h; rfl
  | f :: fs, ρ, ρ', rs, h => by
    unfold eArgs at h
    split at h
    · split at h
      · rename_i e2
        cases h
        rw [List.length_cons, List.length_cons, eArgs_len e2]
      · cases h
    · cases h
theorem fzs_len : ∀ {rs : List RV} {as : List D}, fzs rs = some as → as.length = rs.length
  | [], _, h => by cases h; rfl
  | .fz d :: rs, as, h => by
    unfold fzs at h
    split at h
    · rename_i e2
      cases h
      rw [List.length_cons, List.length_cons, fzs_len e2]
    · cases h
  | .fr _ :: _, _, h => by cases h
  | .sl _ :: _, _, h => by cases h
theorem di_range1 {a : Expr} {f : DEx} (hg : Gl X "range") (hm : X.mg "range" = none) (ha : DA X [a] [f]) (hs : starEach [a] X.env = [(false, eval a X.env)] := by rfl) : DI X tg (.Call (.Name "range" p) [a] [] pos) (iRange [f]) :=
  PI.mono (pi_range1 hg hm ha hs) fun σ H R w => by
    obtain ⟨C, G, ρ, ds, ρ', rs, as, s, e1, e2, e3, q⟩ := use_range rfl w
    have l1 := fzs_len e2
    rw [eArgs_len e1] at l1
    refine use_A s e1 fun us G1 H1 v1 p1 => ?_
    have d := dps_of p1 e2
    match as, l1, d, e3 with
    | [.int j], _, d, e3 =>
      simp only [rngOf] at e3
      split at e3
      · rename_i hb
        cases e3
        obtain ⟨b1, b2⟩ := bnd_of hb
        exact ⟨j, dp1 d, b1, b2, q _ G1 H1 v1 gives_rng⟩
      · cases e3
    | [.none], _, d, e3 => cases e3
    | [.bool _], _, d, e3 => cases e3
    | [.str _], _, d, e3 => cases e3
    | [.list _], _, d, e3 => cases e3
    | [.tuple _], _, d, e3 => cases e3
    | [.dict _], _, d, e3 => cases e3
theorem rng2_some {as ds : List D} (hl : as.length = 2) (h : rngOf as = some ds) : ∃ i j, as = [.int i, .int j] ∧ bnd62 i = true ∧ bnd62 j = true ∧ ds = rngD i 1 (j - i).toNat := by
  unfold rngOf at h
  split at h
  · cases hl
  · rename_i i j
    by_cases hb : bnd62 i = true ∧ bnd62 j = true
    · rw [if_pos hb] at h; cases h; exact ⟨i, j, rfl, hb.1, hb.2, rfl⟩
    · rw [if_neg hb] at h; cases h
  · cases hl
  · cases h
theorem rng3_some {as ds : List D} (hl : as.length = 3) (h : rngOf as = some ds) : ∃ i j c, as = [.int i, .int j, .int c] ∧ (c ≠ 0 ∧ c.natAbs < 1073741824 ∧ Builtin.Range.small i j c = true) ∧ ds = rngD i c (Builtin.Range.rangeSize i j c).toNat := by
  unfold rngOf at h
  split at h
  · cases hl
  · cases hl
  · rename_i i j c
    by_cases hb : dP (c ≠ 0 ∧ c.natAbs < 1073741824 ∧ Builtin.Range.small i j c = true) = true
    · rw [if_pos hb] at h; cases h; rw [dP_iff] at hb; exact ⟨i, j, c, rfl, hb, rfl⟩
    · rw [if_neg hb] at h; cases h
  · cases h
theorem di_range2 {a b : Expr} {f g : DEx} (hg : Gl X "range") (hm : X.mg "range" = none) (ha : DA X [a, b] [f, g]) (hs : starEach [a, b] X.env = (false, eval a X.env) :: [(false, eval b X.env)] := by rfl) (hs2 : starEach [b] X.env = [(false, eval b X.env)] := by rfl) :
    DI X tg (.Call (.Name "range" p) [a, b] [] pos) (iRange [f, g]) :=
  PI.mono (pi_range2 hg hm ha hs hs2) fun σ H R w => by
    obtain ⟨C, G, ρ, ds, ρ', rs, as, s, e1, e2, e3, q⟩ := use_range rfl w
    have l1 := fzs_len e2
    rw [eArgs_len e1] at l1
    obtain ⟨i, j, rfl, b1, b2, rfl⟩ := rng2_some l1 e3
    refine use_A s e1 fun us G1 H1 v1 p1 => ?_
    have d := dps_of p1 e2
    obtain ⟨x1, x2⟩ := bnd_of b1
    obtain ⟨x3, x4⟩ := bnd_of b2
    exact ⟨i, j, dp2 d, ⟨x1, x2, x3, x4⟩, q _ G1 H1 v1 gives_rng⟩
theorem di_range3 {a b c : Expr} {f g h : DEx} (hg : Gl X "range") (hm : X.mg "range" = none) (ha : DA X [a, b, c] [f, g, h])
    (hs : starEach [a, b, c] X.env = (false, eval a X.env) :: starEach [b, c] X.env := by rfl) (hpl : (backTo pos (starEach [b, c] X.env)).any (·.1) = false := by rfl) :
    DI X tg (.Call (.Name "range" p) [a, b, c] [] pos) (iRange [f, g, h]) :=
  PI.mono (pi_range3 hg hm ha hs hpl) fun σ H R w => by
    obtain ⟨C, G, ρ, ds, ρ', rs, as, s, e1, e2, e3, q⟩ := use_range rfl w
    have l1 := fzs_len e2
    rw [eArgs_len e1] at l1
    obtain ⟨i, j, c', rfl, ⟨b1, b2, b3⟩, rfl⟩ := rng3_some l1 e3
    refine use_A s e1 fun us G1 H1 v1 p1 => ?_
    have d := dps_of p1 e2
    exact ⟨i, j, c', _, dp3 d, ⟨b1, b2, b3, rangeSize_toNat i j c'⟩, q _ G1 H1 v1 gives_rngC⟩
/-- enumerate(list), zip(list, list) -/
def enumD (k : Nat) : List D → List D
  | [] => []
  | d :: ds => .tuple [.int (k : Nat), d] :: enumD (k + 1) ds
theorem enumD_len (k : Nat) (ds : List D) : (enumD k ds).length = ds.length := by
  induction ds generalizing k with
  | nil => rfl
  | cons d ds ih => rw [enumD, List.length_cons, List.length_cons, ih]
theorem enumD_get {k i : Nat} {ds : List D} {d : D} (h : (enumD k ds)[i]? = some d) : ∃ e, ds[i]? = some e ∧ d = .tuple [.int ((k + i : Nat) : Int), e] := by
  induction ds generalizing k i with
  | nil => simp [enumD] at h
  | cons x ds ih =>
    cases i with
    | zero =>
      simp [enumD] at h
      exact ⟨x, rfl, by rw [← h]; rfl⟩
    | succ i =>
      simp only [enumD, List.getElem?_cons_succ] at h
      obtain ⟨e, e1, e2⟩ := ih h
      exact ⟨e, by simpa using e1, by rw [e2, show k + 1 + i = k + (i + 1) by omega]⟩
def iEnumD (f : DEx) : DIt := fun ρ => match f ρ with
  | some (.fz (.list ds), ρ1) => some (enumD 0 ds, ρ1)
  | _ => none
theorem di_enum {tpos : Pos} {elts : List Expr} {kk : Nat} (hg : Gl X "enumerate") (hm : X.mg "enumerate" = none) (ha : DE X e f) (hs : starEach [e] X.env = [(false, eval e X.env)] := by rfl) (hs2 : starEach [e] X.env = (false, eval e X.env) :: starEach [] X.env := by rfl) :
    DI X (.Tuple elts kk tpos) (.Call (.Name "enumerate" p) [e] [] pos) (iEnumD f) :=
  PI.mono (pi_enum hg hm (da_cons ha da_nil hs2) hs) fun σ H R w => by
    obtain ⟨C, G, ρ, s, ds, ρ', e, q⟩ := w
    unfold iEnumD at e
    split at e
    · rename_i xs ρ1 e1
      cases e
      refine use_A s (rs := [.fz (.list xs)]) (ρ' := ρ') (by unfold eArgs; rw [e1]; rfl) fun us G1 H1 v1 p1 => ?_
      match us, p1 with
      | [u], ⟨h, _⟩ =>
        cases (show Dp _ _ u (.list xs) from h) with
        | @lst a vs _ h1 h2 =>
          refine ⟨a, vs, rfl, SqL.mono v1.stt.gh h1, q _ G1 H1 v1 ⟨fun i H' sb hi => ?_, fun H' sb => ⟨vs, SqL.mono sb h1, by rw [enumD_len, DpAll.length h2]; exact Nat.le_refl _⟩, fun i H' x H'' sb y d hd => .inr ?_⟩⟩
          · rw [enumD_len] at hi
            obtain ⟨w, k1, _⟩ := DpAll.get h2 (List.getElem?_eq_getElem hi)
            exact ⟨vs, w, SqL.mono sb h1, k1⟩
          · obtain ⟨T, z, rfl, nT, rfl, fz⟩ := y
            obtain ⟨e', k1, rfl⟩ := enumD_get hd
            obtain ⟨w, k2, k3⟩ := DpAll.get h2 k1
            have := fz vs (SqL.mono sb h1)
            rw [k2] at this
            cases this
            exact ⟨T, _, _, rfl, rfl, nT, by rw [Nat.zero_add], .cons (.int _) (.cons k3 .nil)⟩
    · cases e
def zipD : List D → List D → List D
  | a :: as, b :: bs => .tuple [a, b] :: zipD as bs
  | _, _ => []
theorem zipD_len (as bs : List D) : (zipD as bs).length = min as.length bs.length := by
  induction as generalizing bs with
  | nil => simp [zipD]
  | cons a as ih => cases bs with
    | nil => simp [zipD]
    | cons b bs => simp only [zipD, List.length_cons, ih]; omega
theorem zipD_get {i : Nat} {as bs : List D} {d : D} (h : (zipD as bs)[i]? = some d) : ∃ a b, as[i]? = some a ∧ bs[i]? = some b ∧ d = .tuple [a, b] := by
  induction as generalizing bs i with
  | nil => simp [zipD] at h
  | cons a as ih => cases bs with
    | nil => simp [zipD] at h
    | cons b bs => cases i with
      | zero => simp [zipD] at h; exact ⟨a, b, rfl, rfl, h.symm⟩
      | succ i => simp only [zipD, List.getElem?_cons_succ] at h; obtain ⟨x, y, h1, h2, h3⟩ := ih h; exact ⟨x, y, by simpa using h1, by simpa using h2, h3⟩
def iZipD (f g : DEx) : DIt := fun ρ => match eArgs [f, g] ρ with
  | some ([.fz (.list xs), .fz (.list ys)], ρ1) => some (zipD xs ys, ρ1)
  | _ => none
theorem di_zip {e2 : Expr} {g : DEx} {tpos : Pos} {elts : List Expr} {kk : Nat} (hg : Gl X "zip") (hm : X.mg "zip" = none) (ha : DA X [e, e2] [f, g])
    (hs : starEach [e, e2] X.env = (false, eval e X.env) :: starEach [e2] X.env := by rfl) (hpl : (backTo pos (starEach [e2] X.env)).any (·.1) = false := by rfl) :
    DI X (.Tuple elts kk tpos) (.Call (.Name "zip" p) [e, e2] [] pos) (iZipD f g) :=
  PI.mono (pi_zip hg hm ha hs hpl) fun σ H R w => by
    obtain ⟨C, G, ρ, s, ds, ρ', e, q⟩ := w
    unfold iZipD at e
    split at e
    · rename_i xs ys ρ1 e1
      cases e
      refine use_A s e1 fun us G1 H1 v1 p1 => ?_
      match us, p1 with
      | [u, w], ⟨h, k, _⟩ =>
        cases (show Dp _ _ u (.list xs) from h) with
        | @lst a vs _ h1 h2 =>
          cases (show Dp _ _ w (.list ys) from k) with
          | @lst b ws _ k1 k2 =>
            refine ⟨a, b, vs, ws, rfl, SqL.mono v1.stt.gh h1, SqL.mono v1.stt.gh k1, q _ G1 H1 v1 ⟨fun i H' sb hi => ?_, fun H' sb => ⟨vs, ws, SqL.mono sb h1, SqL.mono sb k1, by rw [zipD_len, DpAll.length h2, DpAll.length k2]; omega⟩, fun i H' x H'' sb y d hd => .inr ?_⟩⟩
            · rw [zipD_len] at hi
              obtain ⟨z1, y1, _⟩ := DpAll.get h2 (List.getElem?_eq_getElem (show i < xs.length by omega))
              obtain ⟨z2, y2, _⟩ := DpAll.get k2 (List.getElem?_eq_getElem (show i < ys.length by omega))
              exact ⟨vs, ws, z1, z2, SqL.mono sb h1, SqL.mono sb k1, y1, y2⟩
            · obtain ⟨T, z1, z2, rfl, nT, rfl, f1, f2⟩ := y
              obtain ⟨a', b', o1, o2, rfl⟩ := zipD_get hd
              obtain ⟨w1, y1, y2⟩ := DpAll.get h2 o1
              obtain ⟨w2, y3, y4⟩ := DpAll.get k2 o2
              have t1 := f1 vs (SqL.mono sb h1)
              have t2 := f2 ws (SqL.mono sb k1)
              rw [y1] at t1; rw [y3] at t2
              cases t1; cases t2
              exact ⟨T, _, _, rfl, rfl, nT, rfl, .cons y2 (.cons y4 .nil)⟩
    · cases e
end
/-! ### targets -/
inductive Tg where
  | nm (i : Nat) | tp (ts : List Tg)
mutual
def Tg.put : Tg → D → Env → Option Env
  | .nm i, d, ρ => DL.put i (.v d) ρ
  | .tp ts, d, ρ => match d with
    | .tuple ds => Tg.puts ts ds ρ
    | _ => none
def Tg.puts : List Tg → List D → Env → Option Env
  | [], [], ρ => some ρ
  | t :: ts, d :: ds, ρ => match t.put d ρ with
    | some ρ1 => Tg.puts ts ds ρ1
    | none => none
  | _, _, _ => none
end
mutual
def Tg.slots : Tg → List Nat
  | .nm i => [i]
  | .tp ts => Tg.slotss ts
def Tg.slotss : List Tg → List Nat
  | [] => []
  | t :: ts => t.slots ++ Tg.slotss ts
end
def liftG (K : PySem.W.Frag) (t : Tg) : TG := fun v σ H Q => ∃ C G ρ d ρ', Stt K C G H σ ρ ∧ Dp K G v d ∧ t.put d ρ = some ρ' ∧ ∀ σ', Stt K C G H σ' ρ' → (∀ j, j ∉ t.slots → σ'[j]? = σ[j]?) → Q σ' H
def liftGs (K : PySem.W.Frag) (ts : List Tg) : TGs := fun vs σ H Q => ∃ C G ρ ds ρ', Stt K C G H σ ρ ∧ DpAll K G vs ds ∧ Tg.puts ts ds ρ = some ρ' ∧ ∀ σ', Stt K C G H σ' ρ' → (∀ j, j ∉ Tg.slotss ts → σ'[j]? = σ[j]?) → Q σ' H
def DG (X : Cx) (e : Expr) (t : Tg) : Prop := PG X e (liftG X.K t)
def DGs (X : Cx) (es : List Expr) (ts : List Tg) : Prop := PGs X es (liftGs X.K ts)
section
variable {X : Cx} {e : Expr} {es : List Expr} {t : Tg} {ts : List Tg} {pos : Pos}
theorem PG.mono {t t' : TG} (h : PG X e t) (w : ∀ v σ H Q, t' v σ H Q → t v σ H Q) : PG X e t' := ⟨fun pins s σ H v u Q I r q => h.run pins s σ H v u Q I r (w v σ H Q q)⟩
theorem PGs.mono {t t' : TGs} (h : PGs X es t) (w : ∀ v σ H Q, t' v σ H Q → t v σ H Q) : PGs X es t' := ⟨fun pins s σ H v u Q I r q => h.run pins s σ H v u Q I r (w v σ H Q q)⟩
theorem dg_name {i : Nat} {x : Str} (hN : X.N.Nodup) (hi : X.N[i]? = some x) (hx : Loc X.env.scope x) (hf : X.fn x = true ∨ X.env.scope.names.lookup x = some .local := by first | exact .inl rfl | exact .inr rfl | assumption) : DG X (.Name x pos) (.nm i) :=
  PG.mono (pg_name hN hi hx hf) fun v σ H Q h => by
    obtain ⟨C, G, ρ, d, ρ', s, hd, e, q⟩ := h
    refine q _ (s.putV e hd) fun j hj => ?_
    rw [List.getElem?_set_ne]
    intro z
    exact hj (by rw [Tg.slots, z]; exact List.mem_singleton.mpr rfl)
theorem dgs_nil : DGs X [] [] := PGs.mono pgs_nil fun v σ H Q h => by
  obtain ⟨C, G, ρ, ds, ρ', s, hd, e, q⟩ := h
  cases ds with
  | nil =>
    cases hd
    cases e
    exact ⟨rfl, q σ s fun _ _ => rfl⟩
  | cons _ _ => cases e
theorem dgs_cons (h : DG X e t) (k : DGs X es ts) (hs : (assignEach (e :: es) X.env).map (·.2) = assign e X.env :: (assignEach es X.env).map (·.2) := by rfl) : DGs X (e :: es) (t :: ts) := PGs.mono (pgs_cons h k hs) fun v σ H Q h => by
  obtain ⟨C, G, ρ, ds, ρ', s, hd, e, q⟩ := h
  cases hd with
  | nil => cases e
  | cons h1 h2 =>
    simp only [Tg.puts] at e
    split at e
    · rename_i ρ1 e1
      exact ⟨_, _, rfl, C, G, ρ, _, ρ1, s, h1, e1, fun σ' s' o1 => ⟨C, G, ρ1, _, ρ', s', h2, e, fun σ2 s2 o2 => q σ2 s2 fun j hj => by
        rw [Tg.slotss, List.mem_append] at hj
        rw [o2 j fun z => hj (.inr z), o1 j fun z => hj (.inl z)]⟩⟩
    · cases e
theorem puts_len : ∀ {ts : List Tg} {ds : List D} {ρ ρ' : Env}, Tg.puts ts ds ρ = some ρ' → ds.length = ts.length
  | [], [], _, _, _ => rfl
  | t :: ts, d :: ds, ρ, ρ', h => by
    simp only [Tg.puts] at h
    split at h
    · rw [List.length_cons, List.length_cons, puts_len h]
    · cases h
  | [], _ :: _, _, _, h => by cases h
  | _ :: _, [], _, _, h => by cases h
theorem dg_tup {k n : Nat} (hc : X.calm = true) (h : DGs X es ts) (hl : ts.length = n := by rfl) (hn : (assignEach es X.env).length = n := by rfl) (hst : (assignEach es X.env).findIdx? (·.1) = none := by rfl) : DG X (.Tuple es k pos) (.tp ts) := PG.mono (pg_tup (n := n) hc h hn hst) fun v σ H Q h => by
  obtain ⟨C, G, ρ, d, ρ', s, hd, e, q⟩ := h
  cases d with
  | tuple ds =>
    simp only [Tg.put] at e
    cases hd with
    | tup h1 h2 => exact ⟨_, _, rfl, SqT.mono s.gh h1, by rw [DpAll.length h2, puts_len e, hl], C, G, ρ, ds, ρ', s, h2, e, q⟩
  | _ => cases e
/-- a, b = e (not both sides displays) -/
def sUnp (t : Tg) (f : DEx) : DSt := fun ρ => match f ρ with
  | some (.fz d, ρ1) => match t.put d ρ1 with
    | some ρ2 => .nx ρ2
    | none => .bad
  | _ => .bad
theorem ds_unp {tg : Expr} {f : DEx} (he : DE X e f) (hg : DG X tg t) (hs : swapsWithSole [tg] e pos.line X.env = pure false := by rfl) (hw : swappedStores [tg] e X.env = pure none := by rfl) (h1 : (assignEach [tg] X.env).map (·.2) = [assign tg X.env] := by rfl) : DS X (.Assign [tg] e pos) (sUnp t f) :=
  PS.mono (ps_asg he hg hs hw (h1 := h1)) fun Dn σ H h => by
    obtain ⟨C, G, ρ, s, q⟩ := h
    unfold sUnp at q
    split at q
    · rename_i d ρ1 e1
      split at q
      · rename_i ρ2 e2
        exact use_E s e1 fun u G1 H1 v1 p1 => ⟨C, G1, ρ1, d, ρ2, v1.stt, p1, e2, fun σ' s' _ => q σ' G1 H1 s' v1.sub⟩
      · exact q.elim
    · exact q.elim
end

/-! ### for -/
def fN (t : Tg) (g : DSt) : List D → DSt
  | [], ρ => .nx ρ
  | d :: ds, ρ => match t.put d ρ with
    | some ρ1 => match g ρ1 with
      | .nx ρ2 => fN t g ds ρ2
      | .ct ρ2 => fN t g ds ρ2
      | .bk ρ2 => .nx ρ2
      | .rt r ρ2 => .rt r ρ2
      | .bad => .bad
    | none => .bad
def sFor (it : DIt) (t : Tg) (g : DSt) : DSt := fun ρ => match it ρ with
  | some (ds, ρ1) => fN t g ds ρ1
  | none => .bad
theorem ls_for {K : PySem.W.Frag} {it : DIt} {t : Tg} {g : DSt} {Dn : Ends} {σ : L2.St} {H : Hp} (h : liftS K (sFor it t g) Dn σ H) : tFor (liftI K it) (liftG K t) (liftS K g) Dn σ H := by
  obtain ⟨C, G, ρ, s, q⟩ := h
  unfold sFor at q
  cases hi : it ρ with
  | none => rw [hi] at q; exact q.elim
  | some z =>
    obtain ⟨ds, ρ1⟩ := z
    rw [hi] at q
    simp only at q
    refine ⟨C, G, ρ, s, ds, ρ1, hi, fun J G1 H1 v1 gv => ?_⟩
    have q1 := OutOk.sub v1.sub q
    generalize fN t g ds ρ1 = o at q1
    refine ⟨fun i m σ' H' => i + m = ds.length ∧ ∃ G' ρ', Stt K C G' H' σ' ρ' ∧ Sub G1 G' ∧ OutOk K C G1 Dn (fN t g (ds.drop i) ρ'), ⟨ds.length, by omega, G1, ρ1, v1.stt, Sub.refl _, ?_⟩, ?_⟩
    · rw [List.drop_zero]
      exact OutOk.sub v1.sub q
    rintro i m σ2 H2 ⟨em, G2, ρ2, s2, sb2, q2⟩
    have sH : Sub G1 H2 := sb2.trans s2.gh
    by_cases hlt : i < ds.length
    · refine .inr ⟨gv.go i H2 sH hlt, fun σ' H' => ∃ m', m' < m ∧ (i + 1 + m' = ds.length ∧ ∃ G' ρ', Stt K C G' H' σ' ρ' ∧ Sub G1 G' ∧ OutOk K C G1 Dn (fN t g (ds.drop (i + 1)) ρ')), fun σ' H' z => z, fun x H3 y => ?_⟩
      have ed : ds[i]? = some ds[i] := List.getElem?_eq_getElem hlt
      rw [List.drop_eq_getElem_cons hlt] at q2
      unfold fN at q2
      cases ep : t.put ds[i] ρ2 with
      | none => rw [ep] at q2; exact q2.elim
      | some ρ3 =>
        rw [ep] at q2
        simp only at q2
        have step : ∀ G3, Stt K C G3 H3 σ2 ρ2 → Sub G2 G3 → Dp K G3 x ds[i] → liftG K t x σ2 H3 fun σ4 H4 => liftS K g { Dn with nx := fun σ' H' => ∃ m', m' < m ∧ (i + 1 + m' = ds.length ∧ ∃ G' ρ', Stt K C G' H' σ' ρ' ∧ Sub G1 G' ∧ OutOk K C G1 Dn (fN t g (ds.drop (i + 1)) ρ')), ct := fun σ' H' => ∃ m', m' < m ∧ (i + 1 + m' = ds.length ∧ ∃ G' ρ', Stt K C G' H' σ' ρ' ∧ Sub G1 G' ∧ OutOk K C G1 Dn (fN t g (ds.drop (i + 1)) ρ')), bk := Dn.nx } σ4 H4 := fun G3 s3 sb3 hd => by
          refine ⟨C, G3, ρ2, ds[i], ρ3, s3, hd, ep, fun σ4 s4 _ => use_S s4 ?_⟩
          have sb13 := sb2.trans sb3
          cases eg : g ρ3 with
          | nx ρ5 => rw [eg] at q2; exact fun σ5 G5 H5 s5 sb5 => ⟨m - 1, by omega, by omega, G5, ρ5, s5, sb13.trans sb5, q2⟩
          | ct ρ5 => rw [eg] at q2; exact fun σ5 G5 H5 s5 sb5 => ⟨m - 1, by omega, by omega, G5, ρ5, s5, sb13.trans sb5, q2⟩
          | bk ρ5 => rw [eg] at q2; exact fun σ5 G5 H5 s5 sb5 => q2 σ5 G5 H5 s5 (sb13.trans sb5)
          | rt r ρ5 => rw [eg] at q2; exact fun u σ5 G5 H5 s5 sb5 p5 => q2 u σ5 G5 H5 s5 (sb13.trans sb5) p5
          | bad => rw [eg] at q2; exact q2.elim
        rcases gv.yld i H2 x H3 sH y _ ed with ⟨rfl, hd⟩ | ⟨T, vs, es, rfl, e2, nT, rfl, hd⟩
        · exact step G2 s2 (Sub.refl _) (Dp.mono sb2 hd)
        · have v3 := Ev.newT (o := .tup vs) s2 nT
          refine step _ v3.stt v3.sub ?_
          rw [e2]
          exact .tup (SqT.of upd_same) (DpAll.mono (sb2.trans v3.sub) hd)
    · have ei : i = ds.length := by omega
      rw [ei] at q2 ⊢
      rw [List.drop_length] at q2
      exact .inl ⟨gv.stop H2 sH, q2 σ2 G2 H2 s2 sb2⟩
theorem ds_for {X : Cx} {tg iter : Expr} {body : List Stmt} {it : DIt} {t : Tg} {g : DSt} {pos : Pos} (hp : PassesOwn (model X.prog X.w) X.A X.env X.xe) (hc : X.calm = true) (hi : DI X tg iter it) (hg : DG X tg t) (hb : DB X body g)
    (hs : ∀ x, foldedSetIterable iter X.env x = pure x := by intro _; rfl) : DS X (.For tg iter body [] pos) (sFor it t g) := PS.mono (ps_for hp hc hi hg hb hs) fun _ _ _ => ls_for
end
end DL
/-! Comprehensions. -/
namespace DL
noncomputable section
open PySem PySem.Spec PyProof.Rows L2

def wipeD (ρ : Env) : List Nat → Env
  | [] => ρ
  | v :: vs => (wipeD ρ vs).set v .un
def unwD (ρ1 ρ4 : Env) : List Nat → Env
  | [] => ρ4
  | v :: vs => match ρ1[v]? with
    | some c => (unwD ρ1 ρ4 vs).set v c
    | none => unwD ρ1 ρ4 vs
def noC (ρ : Env) (vs : List Nat) : Bool := vs.all fun i => match ρ[i]? with
  | some (.own _) => false
  | some (.par _) => false
  | some (.dc _) => false
  | _ => true
theorem noC_at {ρ : Env} {vs : List Nat} (h : noC ρ vs = true) {j : Nat} (hj : j ∈ vs) {c : Cell} (e : ρ[j]? = some c) : cont c = none := by
  have := List.all_eq_true.mp h j hj
  rw [e] at this
  cases c with
  | un => rfl
  | v _ => rfl
  | own _ => cases this
  | par _ => cases this
  | dc _ => cases this
theorem wipeD_len (ρ : Env) : ∀ vs : List Nat, (wipeD ρ vs).length = ρ.length
  | [] => rfl
  | v :: vs => by rw [wipeD, List.length_set, wipeD_len ρ vs]
theorem wipeD_out {ρ : Env} {j : Nat} : ∀ {vs : List Nat}, j ∉ vs → (wipeD ρ vs)[j]? = ρ[j]?
  | [], _ => rfl
  | v :: vs, h => by
    rw [wipeD, List.getElem?_set_ne (fun z => h (by rw [z]; exact List.mem_cons_self))]
    exact wipeD_out fun z => h (List.mem_cons_of_mem _ z)
theorem wipeD_in {ρ : Env} {j : Nat} (hl : j < ρ.length) : ∀ {vs : List Nat}, j ∈ vs → (wipeD ρ vs)[j]? = some .un
  | v :: vs, h => by
    rw [wipeD]
    by_cases e : v = j
    · rw [e, List.getElem?_set_self (by rw [wipeD_len]; exact hl)]
    · rw [List.getElem?_set_ne e]
      rcases List.mem_cons.mp h with z | z
      · exact absurd z.symm e
      · exact wipeD_in hl z
theorem wipeS_in {σ : L2.St} {j : Nat} (hl : j < σ.length) : ∀ {vs : List Nat}, j ∈ vs → (wipe σ vs)[j]? = some none
  | v :: vs, h => by
    rw [wipe]
    by_cases e : v = j
    · rw [e, List.getElem?_set_self (by rw [wipe_length]; exact hl)]
    · rw [List.getElem?_set_ne e]
      rcases List.mem_cons.mp h with z | z
      · exact absurd z.symm e
      · exact wipeS_in hl z
theorem unwD_len (ρ1 ρ4 : Env) : ∀ vs : List Nat, (unwD ρ1 ρ4 vs).length = ρ4.length
  | [] => rfl
  | v :: vs => by
    rw [unwD]
    split
    · rw [List.length_set, unwD_len ρ1 ρ4 vs]
    · exact unwD_len ρ1 ρ4 vs
theorem unwD_out {ρ1 ρ4 : Env} {j : Nat} : ∀ {vs : List Nat}, j ∉ vs → (unwD ρ1 ρ4 vs)[j]? = ρ4[j]?
  | [], _ => rfl
  | v :: vs, h => by
    rw [unwD]
    have ih := unwD_out (ρ1 := ρ1) (ρ4 := ρ4) (j := j) (vs := vs) fun z => h (List.mem_cons_of_mem _ z)
    split
    · rw [List.getElem?_set_ne (fun z => h (by rw [z]; exact List.mem_cons_self))]
      exact ih
    · exact ih
theorem unwD_in {ρ1 ρ4 : Env} {j : Nat} (hl : ρ4.length = ρ1.length) : ∀ {vs : List Nat}, j ∈ vs → (unwD ρ1 ρ4 vs)[j]? = ρ1[j]?
  | v :: vs, h => by
    rw [unwD]
    by_cases e : v = j
    · subst e
      cases e1 : ρ1[v]? with
      | none =>
        simp only
        rw [List.getElem?_eq_none]
        rw [unwD_len, hl]
        exact List.getElem?_eq_none_iff.mp e1
      | some c =>
        simp only
        rw [List.getElem?_set_self]
        rw [unwD_len, hl]
        exact (List.getElem?_eq_some_iff.mp e1).1
    · have hj : j ∈ vs := by
        rcases List.mem_cons.mp h with z | z
        · exact absurd z.symm e
        · exact z
      split
      · rw [List.getElem?_set_ne e]
        exact unwD_in hl hj
      · exact unwD_in hl hj
section
variable {K : PySem.W.Frag} {C : EC} {σ σ' : L2.St} {ρ ρ' : Env} {G H G' H' : Hp}
theorem Stt.wipe (s : Stt K C G H σ ρ) {vs : List Nat} (h : noC ρ vs = true) : Stt K C G H (L2.wipe σ vs) (wipeD ρ vs) := by
  have back : ∀ {j : Nat} {c : Cell}, (wipeD ρ vs)[j]? = some c → (cont c).isSome = true → j ∉ vs ∧ ρ[j]? = some c := fun {j c} e hc => by
    by_cases hj : j ∈ vs
    · have hl : j < ρ.length := by rw [← wipeD_len ρ vs]; exact (List.getElem?_eq_some_iff.mp e).1
      rw [wipeD_in hl hj] at e; cases e; cases hc
    · rw [wipeD_out hj] at e; exact ⟨hj, e⟩
  refine ⟨s.gh, s.g0, s.ext, by rw [wipe_length, wipeD_len]; exact s.len, fun j c e => ?_, fun j l c d p e1 e2 h1 h2 z1 z2 => ?_, fun q hq => ?_, s.ng0⟩
  · by_cases hj : j ∈ vs
    · have hl : j < ρ.length := by rw [← wipeD_len ρ vs]; exact (List.getElem?_eq_some_iff.mp e).1
      rw [wipeD_in hl hj] at e; cases e
      exact ⟨none, wipeS_in (by rw [s.len]; exact hl) hj, trivial⟩
    · rw [wipeD_out hj] at e
      obtain ⟨x, e1, k⟩ := s.cell j c e
      exact ⟨x, by rw [wipe_out hj]; exact e1, k⟩
  · obtain ⟨n1, f1⟩ := back e1 h1
    obtain ⟨n2, f2⟩ := back e2 h2
    rw [wipe_out n1] at z1
    rw [wipe_out n2] at z2
    exact s.dj j l c d p f1 f2 h1 h2 z1 z2
  · obtain ⟨⟨xs, e1⟩, e2⟩ := s.pal q hq
    have hj : q.1 ∉ vs := fun z => by
      have := noC_at h z e1
      cases this
    exact ⟨⟨xs, by rw [wipeD_out hj]; exact e1⟩, by rw [wipe_out hj]; exact e2⟩
theorem oa_wipe {vs : List Nat} {a : Addr} (q : OA (L2.wipe σ vs) (wipeD ρ vs) a) : OA σ ρ a := by
  obtain ⟨j, c, e, hc, z⟩ := q
  by_cases hj : j ∈ vs
  · have hl : j < ρ.length := by rw [← wipeD_len ρ vs]; exact (List.getElem?_eq_some_iff.mp e).1
    rw [wipeD_in hl hj] at e; cases e; cases hc
  · rw [wipeD_out hj] at e
    rw [wipe_out hj] at z
    exact ⟨j, c, e, hc, z⟩
theorem oa_unwipe {vs : List Nat} (h : noC ρ vs = true) {a : Addr} (q : OA σ ρ a) : OA (L2.wipe σ vs) (wipeD ρ vs) a := by
  obtain ⟨j, c, e, hc, z⟩ := q
  have hj : j ∉ vs := fun w => by rw [noC_at h w e] at hc; cases hc
  exact ⟨j, c, by rw [wipeD_out hj]; exact e, hc, by rw [wipe_out hj]; exact z⟩
theorem Stt.unwipe {ρ4 : Env} {vs : List Nat} (s : Stt K C G H σ ρ) (hn : noC ρ vs = true) (s4 : Stt K C G' H' (L2.wipe σ vs) ρ4) (hs : Shp (wipeD ρ vs) ρ4) (sb : Sub G G') : Stt K C G' H' σ (unwD ρ ρ4 vs) ∧ Shp ρ (unwD ρ ρ4 vs) := by
  have hl : ρ4.length = ρ.length := by rw [hs.1, wipeD_len]
  have at_ : ∀ {j : Nat} {c : Cell}, (unwD ρ ρ4 vs)[j]? = some c → (j ∈ vs ∧ ρ[j]? = some c) ∨ (j ∉ vs ∧ ρ4[j]? = some c) := fun {j c} e => by
    by_cases hj : j ∈ vs
    · rw [unwD_in hl hj] at e; exact .inl ⟨hj, e⟩
    · rw [unwD_out hj] at e; exact .inr ⟨hj, e⟩
  refine ⟨⟨s4.gh, s4.g0, s4.ext, by rw [unwD_len, hl]; exact s.len, fun j c e => ?_, fun j l c d p e1 e2 h1 h2 z1 z2 => ?_, fun q hq => ?_, s4.ng0⟩, by rw [unwD_len, hl], fun j c e => ?_⟩
  · rcases at_ e with ⟨hj, e'⟩ | ⟨hj, e'⟩
    · obtain ⟨x, e1, k⟩ := s.cell j c e'
      refine ⟨x, e1, ?_⟩
      have hc := noC_at hn hj e'
      cases c with
      | un => trivial
      | v d => obtain ⟨u, e2, hd⟩ := k; exact ⟨u, e2, Dp.mono sb hd⟩
      | own _ => cases hc
      | par _ => cases hc
      | dc _ => cases hc
    · obtain ⟨x, e1, k⟩ := s4.cell j c e'
      rw [wipe_out hj] at e1
      exact ⟨x, e1, k⟩
  · have f : ∀ {j : Nat} {c : Cell}, (unwD ρ ρ4 vs)[j]? = some c → (cont c).isSome = true → j ∉ vs ∧ ρ4[j]? = some c := fun {j c} e hc => by
      rcases at_ e with ⟨hj, e'⟩ | h
      · rw [noC_at hn hj e'] at hc; cases hc
      · exact h
    obtain ⟨n1, f1⟩ := f e1 h1
    obtain ⟨n2, f2⟩ := f e2 h2
    exact s4.dj j l c d p f1 f2 h1 h2 (by rw [wipe_out n1]; exact z1) (by rw [wipe_out n2]; exact z2)
  · obtain ⟨⟨xs, e1⟩, e2⟩ := s4.pal q hq
    have hj : q.1 ∉ vs := fun z => by
      have hl2 : q.1 < σ.length := by rw [← wipe_length σ vs]; exact (List.getElem?_eq_some_iff.mp e2).1
      rw [wipeS_in hl2 z] at e2
      cases e2
    rw [wipe_out hj] at e2
    exact ⟨⟨xs, by rw [unwD_out hj]; exact e1⟩, e2⟩
  · by_cases hj : j ∈ vs
    · exact ⟨c, by rw [unwD_in hl hj]; exact e, Lk.refl c⟩
    · obtain ⟨c', e', l⟩ := hs.2 j c (by rw [wipeD_out hj]; exact e)
      exact ⟨c', by rw [unwD_out hj]; exact e', l⟩
/-- a list aside is written -/
theorem Stt.side (s : Stt K C G H σ ρ) {p : Addr} {o : HO} (g : G p = none) (no : ¬ OA σ ρ p) (n : C.H0 p = none) : Stt K C G (upd H p o) σ ρ := by
  refine ⟨fun b x z => ?_, s.g0, fun b x z hq => ?_, s.len, fun j c e => ?_, s.dj, s.pal, s.ng0⟩
  · rw [upd_ne (fun w => by rw [w, g] at z; cases z)]; exact s.gh b x z
  · rw [upd_ne (fun w => by rw [w, n] at z; cases z)]; exact s.ext b x z hq
  · obtain ⟨x, e1, k⟩ := s.cell j c e
    refine ⟨x, e1, ?_⟩
    have np : ∀ q, x = some (.ref q) → (cont c).isSome = true → q ≠ p := fun q z hc w => no (by
      subst w
      exact ⟨j, c, e, hc, by rw [e1, z]⟩)
    cases c with
    | un => trivial
    | v d => exact k
    | own xs =>
      obtain ⟨q, e2, w, z⟩ := k
      exact ⟨q, e2, w.keep (Sub.refl G) w.1 (fun o' h => by rw [upd_ne (np q e2 rfl)]; exact h), z⟩
    | par xs =>
      obtain ⟨q, e2, w, z⟩ := k
      exact ⟨q, e2, w.keep (Sub.refl G) w.1 (fun o' h => by rw [upd_ne (np q e2 rfl)]; exact h), z⟩
    | dc xs =>
      obtain ⟨q, e2, w, z⟩ := k
      exact ⟨q, e2, w.keep (Sub.refl G) w.1 (fun o' h => by rw [upd_ne (np q e2 rfl)]; exact h), z⟩
end
theorem put_at0 {i : Nat} {d : D} {ρ ρ' : Env} (h : put i (.v d) ρ = some ρ') (j : Nat) : (j = i → ∃ d', ρ'[j]? = some (.v d')) ∧ (j ≠ i → ρ'[j]? = ρ[j]?) := by
  obtain ⟨c0, e0, _, rfl⟩ := put_some h
  refine ⟨fun e => ⟨d, ?_⟩, fun e => List.getElem?_set_ne (Ne.symm e)⟩
  rw [e, List.getElem?_set_self (List.getElem?_eq_some_iff.mp e0).1]
mutual
theorem put_at : ∀ {t : Tg} {d : D} {ρ ρ' : Env}, t.put d ρ = some ρ' → ∀ j, (j ∈ t.slots → ∃ d', ρ'[j]? = some (.v d')) ∧ (j ∉ t.slots → ρ'[j]? = ρ[j]?)
  | .nm i, d, ρ, ρ', h, j => by
    have k := put_at0 h j
    exact ⟨fun e => k.1 (by simpa [Tg.slots] using e), fun e => k.2 (by simpa [Tg.slots] using e)⟩
  | .tp ts, d, ρ, ρ', h, j => by
    simp only [Tg.put] at h
    split at h
    · simp only [Tg.slots]
      exact puts_at h j
    · cases h
theorem puts_at : ∀ {ts : List Tg} {ds : List D} {ρ ρ' : Env}, Tg.puts ts ds ρ = some ρ' → ∀ j, (j ∈ Tg.slotss ts → ∃ d', ρ'[j]? = some (.v d')) ∧ (j ∉ Tg.slotss ts → ρ'[j]? = ρ[j]?)
  | [], [], ρ, ρ', h, j => by
    cases h
    exact ⟨fun e => by simp [Tg.slotss] at e, fun _ => rfl⟩
  | t :: ts, d :: ds, ρ, ρ', h, j => by
    simp only [Tg.puts] at h
    split at h
    · rename_i ρ1 e1
      have a := put_at e1 j
      have b := puts_at h j
      simp only [Tg.slotss, List.mem_append, not_or]
      refine ⟨fun e => ?_, fun e => (b.2 e.2).trans (a.2 e.1)⟩
      by_cases hj : j ∈ Tg.slotss ts
      · exact b.1 hj
      · rw [b.2 hj]
        rcases e with e | e
        · exact a.1 e
        · exact absurd e hj
    · cases h
  | [], _ :: _, _, _, h, _ => by cases h
  | _ :: _, [], _, _, h, _ => by cases h
end
mutual
theorem tput_len : ∀ {t : Tg} {d : D} {ρ ρ' : Env}, t.put d ρ = some ρ' → ρ'.length = ρ.length
  | .nm i, d, ρ, ρ', h => by
    obtain ⟨c0, _, _, rfl⟩ := put_some h
    exact List.length_set
  | .tp ts, d, ρ, ρ', h => by
    simp only [Tg.put] at h
    split at h
    · exact tputs_len h
    · cases h
theorem tputs_len : ∀ {ts : List Tg} {ds : List D} {ρ ρ' : Env}, Tg.puts ts ds ρ = some ρ' → ρ'.length = ρ.length
  | [], [], ρ, ρ', h => by cases h; rfl
  | t :: ts, d :: ds, ρ, ρ', h => by
    simp only [Tg.puts] at h
    split at h
    · rename_i e1
      rw [tputs_len h, tput_len e1]
    · cases h
  | [], _ :: _, _, _, h => by cases h
  | _ :: _, [], _, _, h => by cases h
end
def yesD : DTx := fun ρ => some (true, ρ)
/-- the turns -/
def lcL (t : Tg) (tt : DTx) (f : DEx) (vs : List Nat) : List D → Env → List D → Option (List D × Env)
  | [], ρ, acc => some (acc, ρ)
  | d :: ds, ρ, acc => match t.put d ρ with
    | some ρ1 => match tt ρ1 with
      | some (true, ρ2) => match eFz f ρ2 with
        | some (.fz x, ρ3) => if noC ρ3 vs = true ∧ acc.length ≤ LIM then lcL t tt f vs ds (wipeD ρ3 vs) (acc ++ [x]) else none
        | _ => none
      | some (false, ρ2) => if noC ρ2 vs = true then lcL t tt f vs ds (wipeD ρ2 vs) acc else none
      | none => none
    | none => none
def eLc (it : DIt) (t : Tg) (tt : DTx) (f : DEx) (vs : List Nat) : DEx := fun ρ => match it ρ with
  | some (ds, ρ1) => if noC ρ1 vs = true then match lcL t tt f vs ds (wipeD ρ1 vs) [] with
      | some (ys, ρ4) => some (.fr ys, unwD ρ1 ρ4 vs)
      | none => none
    else none
  | none => none
/-- between two turns -/
structure LcI (K : PySem.W.Frag) (C : EC) (σw : L2.St) (ρw : Env) (G1 H1 : Hp) (Da : Addr) (ρ : Env) (acc : List D) (G H : Hp) : Prop where
  stt : Stt K C G H σw ρ
  shp : Shp ρw ρ
  sub : Sub G1 G
  ng : ∀ a, H1 a ≠ none → G1 a = none → G a = none
  frm : ∀ a o, H1 a = some o → ¬ OA σw ρw a → H a = some o
  keepH : ∀ a, H1 a ≠ none → H a ≠ none
  own : OwnAt K G H Da acc
theorem LcI.noa {K : PySem.W.Frag} {C : EC} {σw : L2.St} {ρw ρ : Env} {G1 H1 G H : Hp} {Da : Addr} {acc : List D} (h : LcI K C σw ρw G1 H1 Da ρ acc G H) (s1 : Stt K C G1 H1 σw ρw) (n : H1 Da = none) : ¬ OA σw ρ Da := fun q => (s1.oa_some (q.bwd h.shp)).1 n
theorem LcI.step {K : PySem.W.Frag} {C : EC} {σw σ4 : L2.St} {ρw ρ2 ρ3 ρ6 : Env} {G1 H1 G2 H2 G3 H3 G6 H6 : Hp} {Da : Addr} {acc acc' : List D} {vs' : List V} {vs : List Nat} {t : Tg} {d : D}
    (s1 : Stt K C G1 H1 σw ρw) (n : H1 Da = none) (n0 : C.H0 Da = none) (h : LcI K C σw ρw G1 H1 Da ρ2 acc G2 H2) (v3 : Ev K C σw ρ2 G2 H2 ρ2 G3 H3) (ep : t.put d ρ2 = some ρ3) (s4 : Stt K C G3 H3 σ4 ρ3) (os : ∀ j, j ∉ t.slots → σ4[j]? = σw[j]?) (hsl : ∀ j ∈ t.slots, j ∈ vs)
    (v6 : Ev K C σ4 ρ3 G3 H3 ρ6 G6 H6) (hn : noC ρ6 vs = true) (hw : L2.wipe σ4 vs = σw) (hw0 : ∀ j ∈ vs, j < ρw.length → ρw[j]? = some .un) (hd : DpAll K G6 vs' acc') : H6 Da = H2 Da ∧ LcI K C σw ρw G1 H1 Da (wipeD ρ6 vs) acc' G6 (upd H6 Da (.lst vs')) := by
  obtain ⟨g2, ws, hda, hacc⟩ := id h.own
  have no2 := h.noa s1 n
  have no3 : ¬ OA σ4 ρ3 Da := by
    rintro ⟨j, c, e, hc, z⟩
    by_cases hj : j ∈ t.slots
    · obtain ⟨d', e'⟩ := (put_at ep j).1 hj
      rw [e] at e'; cases e'; cases hc
    · rw [(put_at ep j).2 hj] at e
      rw [os j hj] at z
      exact no2 ⟨j, c, e, hc, z⟩
  have d3 : H3 Da = some (.lst ws) := v3.frm _ _ hda no2
  have d6 : H6 Da = some (.lst ws) := v6.frm _ _ d3 no3
  have g3 : G3 Da = none := v3.ng _ (by rw [hda]; simp) g2
  have g6 : G6 Da = none := v6.ng _ (by rw [d3]; simp) g3
  have l4 : σ4.length = σw.length := by rw [← hw, wipe_length]
  have l3 : ρ3.length = ρ2.length := by rw [← s4.len, ← v3.stt.len, l4]
  have s7 : Stt K C G6 H6 σw (wipeD ρ6 vs) := by
    have := v6.stt.wipe hn
    rw [hw] at this
    exact this
  have shp7 : Shp ρw (wipeD ρ6 vs) := by
    refine ⟨by rw [wipeD_len, v6.shp.1, l3, h.shp.1], fun j c e => ?_⟩
    have hl : j < ρw.length := (List.getElem?_eq_some_iff.mp e).1
    by_cases hj : j ∈ vs
    · rw [hw0 j hj hl] at e
      cases e
      exact ⟨.un, wipeD_in (by rw [v6.shp.1, l3, h.shp.1]; exact hl) hj, rfl⟩
    · obtain ⟨c2, e2, k2⟩ := h.shp.2 j c e
      have e3 : ρ3[j]? = some c2 := by rw [(put_at ep j).2 fun z => hj (hsl j z)]; exact e2
      obtain ⟨c6, e6, k6⟩ := v6.shp.2 j c2 e3
      exact ⟨c6, by rw [wipeD_out hj]; exact e6, k2.trans k6⟩
  have no7 : ¬ OA σw (wipeD ρ6 vs) Da := fun q => (s1.oa_some (q.bwd shp7)).1 n
  refine ⟨d6.trans hda.symm, s7.side g6 no7 n0, shp7, (h.sub.trans v3.sub).trans v6.sub, fun a x y => v6.ng a (v3.keepH a (h.keepH a x)) (v3.ng a (h.keepH a x) (h.ng a x y)), fun a o x y => ?_, fun a x => ?_, g6, vs', upd_same, hd⟩
  · have ha : a ≠ Da := fun z => by rw [z, n] at x; cases x
    rw [upd_ne ha]
    refine v6.frm a o (v3.frm a o (h.frm a o x y) fun q => y (q.bwd h.shp)) ?_
    rintro ⟨j, c, e, hc, z⟩
    by_cases hj : j ∈ t.slots
    · obtain ⟨d', e'⟩ := (put_at ep j).1 hj
      rw [e] at e'; cases e'; cases hc
    · rw [(put_at ep j).2 hj] at e
      rw [os j hj] at z
      exact y (OA.bwd h.shp ⟨j, c, e, hc, z⟩)
  · by_cases ha : a = Da
    · rw [ha, upd_same]; simp
    · rw [upd_ne ha]; exact v6.keepH a (v3.keepH a (h.keepH a x))
theorem le_lc {K : PySem.W.Frag} {it : DIt} {t : Tg} {tt : DTx} {f : DEx} {vs : List Nat} (hsl : ∀ j ∈ t.slots, j ∈ vs) {σ : L2.St} {H : Hp} {Q : VK} (h : liftE K (eLc it t tt f vs) σ H Q) : tLc (liftI K it) (liftG K t) (liftT K tt) (liftE K (eFz f)) vs σ H Q := by
  obtain ⟨C, G, ρ, s, r, ρ', e, q⟩ := h
  unfold eLc at e
  cases hi : it ρ with
  | none => rw [hi] at e; cases e
  | some z =>
    obtain ⟨ds, ρ1⟩ := z
    rw [hi] at e
    simp only at e
    by_cases hn1 : noC ρ1 vs = true
    · rw [if_pos hn1] at e
      cases hl : lcL t tt f vs ds (wipeD ρ1 vs) [] with
      | none => rw [hl] at e; cases e
      | some z2 =>
        obtain ⟨ys, ρ4⟩ := z2
        rw [hl] at e
        cases e
        refine ⟨C, G, ρ, s, ds, ρ1, hi, fun J G1 H1 v1 gv Da nD => ?_⟩
        have s1 := v1.stt.wipe hn1
        have n0 : C.H0 Da = none := by
          cases e0 : C.H0 Da with
          | none => rfl
          | some o => exact absurd nD (v1.stt.h0 (by rw [e0]; simp))
        have gD := v1.stt.fresh0 nD
        have noD : ¬ OA (L2.wipe σ vs) (wipeD ρ1 vs) Da := fun q => (s1.oa_some q).1 nD
        have hw0 : ∀ j ∈ vs, j < (wipeD ρ1 vs).length → (wipeD ρ1 vs)[j]? = some .un := fun j hj hl => wipeD_in (by rw [← wipeD_len ρ1 vs]; exact hl) hj
        refine ⟨fun i m H => i + m = ds.length ∧ ∃ G' ρ' acc, LcI K C (L2.wipe σ vs) (wipeD ρ1 vs) G1 H1 Da ρ' acc G' H ∧ lcL t tt f vs (ds.drop i) ρ' acc = some (ys, ρ4), ⟨ds.length, by omega, G1, wipeD ρ1 vs, [], ?_, by rw [List.drop_zero]; exact hl⟩, ?_⟩
        · exact ⟨s1.side gD noD n0, Shp.refl _, Sub.refl _, fun _ _ h => h, fun a o x _ => by rw [upd_ne (fun z => by rw [z, nD] at x; cases x)]; exact x, fun a x => by
            by_cases ha : a = Da
            · rw [ha, upd_same]; simp
            · rw [upd_ne ha]; exact x, gD, [], upd_same, .nil⟩
        rintro i m H2 ⟨em, G2, ρ2, acc, I2, q2⟩
        have sH : Sub G1 H2 := I2.sub.trans I2.stt.gh
        by_cases hlt : i < ds.length
        · refine .inr ⟨gv.go i H2 sH hlt, fun H' => ∃ m', m' < m ∧ (i + 1 + m' = ds.length ∧ ∃ G' ρ' acc, LcI K C (L2.wipe σ vs) (wipeD ρ1 vs) G1 H1 Da ρ' acc G' H' ∧ lcL t tt f vs (ds.drop (i + 1)) ρ' acc = some (ys, ρ4)), fun H' z => z, fun x H3 y => ?_⟩
          have ed : ds[i]? = some ds[i] := List.getElem?_eq_getElem hlt
          rw [List.drop_eq_getElem_cons hlt] at q2
          unfold lcL at q2
          cases ep : t.put ds[i] ρ2 with
          | none => rw [ep] at q2; cases q2
          | some ρ3 =>
            rw [ep] at q2
            simp only at q2
            have step : ∀ G3, Ev K C (L2.wipe σ vs) ρ2 G2 H2 ρ2 G3 H3 → Dp K G3 x ds[i] → liftG K t x (L2.wipe σ vs) H3 fun σ2 H2' => L2.wipe σ2 vs = L2.wipe σ vs ∧ liftT K tt σ2 H2' fun b H4 =>
                if b = true then liftE K (eFz f) σ2 H4 fun y H5 => ∃ acc, H5 Da = some (.lst acc) ∧ acc.length < sizeLine ∧ (∃ m', m' < m ∧ (i + 1 + m' = ds.length ∧ ∃ G' ρ' acc', LcI K C (L2.wipe σ vs) (wipeD ρ1 vs) G1 H1 Da ρ' acc' G' (upd H5 Da (.lst (acc ++ [y]))) ∧ lcL t tt f vs (ds.drop (i + 1)) ρ' acc' = some (ys, ρ4)))
                else (∃ m', m' < m ∧ (i + 1 + m' = ds.length ∧ ∃ G' ρ' acc', LcI K C (L2.wipe σ vs) (wipeD ρ1 vs) G1 H1 Da ρ' acc' G' H4 ∧ lcL t tt f vs (ds.drop (i + 1)) ρ' acc' = some (ys, ρ4))) := fun G3 v3 hd => by
              refine ⟨C, G3, ρ2, ds[i], ρ3, v3.stt, hd, ep, fun σ4 s4 os => ?_⟩
              have l4 : σ4.length = σ.length := by
                have a1 := s4.len
                have hle : ρ3.length = ρ2.length := tput_len ep
                rw [a1, hle, I2.shp.1, wipeD_len, ← v1.stt.len]
              have hw : L2.wipe σ4 vs = L2.wipe σ vs := by
                refine List.ext_getElem? fun j => ?_
                by_cases hj : j ∈ vs
                · by_cases hl : j < σ.length
                  · rw [wipeS_in hl hj, wipeS_in (by rw [l4]; exact hl) hj]
                  · rw [List.getElem?_eq_none (by rw [wipe_length, l4]; omega), List.getElem?_eq_none (by rw [wipe_length]; omega)]
                · rw [wipe_out hj, os j fun z => hj (hsl j z)]
              refine ⟨hw, ?_⟩
              split at q2
              · rename_i ρ5 e5
                refine use_T s4 e5 fun G5 H5 v5 => iteT ?_
                split at q2
                · rename_i d6 ρ6 e6
                  by_cases hc6 : noC ρ6 vs = true ∧ acc.length ≤ LIM
                  · rw [if_pos hc6] at q2
                    refine use_E v5.stt e6 fun y G6 H6 v6 p6 => ?_
                    obtain ⟨g2, ws, hda, hacc⟩ := id I2.own
                    have v36 := v5.trans v6
                    have sb := v3.sub.trans v36.sub
                    obtain ⟨k1, k2⟩ := LcI.step (vs' := ws ++ [y]) (acc' := acc ++ [d6]) s1 nD n0 I2 v3 ep s4 os hsl v36 hc6.1 hw hw0 (DpAll.append (DpAll.mono sb hacc) (.cons p6 .nil))
                    refine ⟨ws, k1.trans hda, by rw [DpAll.length hacc]; exact lim_lt hc6.2, m - 1, by omega, by omega, G6, _, _, k2, q2⟩
                  · rw [if_neg hc6] at q2; cases q2
                · cases q2
              · rename_i ρ5 e5
                refine use_T s4 e5 fun G5 H5 v5 => iteF ?_
                by_cases hc5 : noC ρ5 vs = true
                · rw [if_pos hc5] at q2
                  obtain ⟨g2, ws, hda, hacc⟩ := id I2.own
                  have sb := v3.sub.trans v5.sub
                  obtain ⟨k1, k2⟩ := LcI.step (vs' := ws) (acc' := acc) s1 nD n0 I2 v3 ep s4 os hsl v5 hc5 hw hw0 (DpAll.mono sb hacc)
                  have eu : upd H5 Da (.lst ws) = H5 := by
                    funext b
                    by_cases hb : b = Da
                    · rw [hb, upd_same, k1, hda]
                    · rw [upd_ne hb]
                  rw [eu] at k2
                  exact ⟨m - 1, by omega, by omega, G5, _, _, k2, q2⟩
                · rw [if_neg hc5] at q2; cases q2
              · cases q2
            rcases gv.yld i H2 x H3 sH y _ ed with ⟨rfl, hd⟩ | ⟨T, ws, es, rfl, e2, nT, rfl, hd⟩
            · exact step G2 (Ev.refl I2.stt) (Dp.mono I2.sub hd)
            · have v3 := Ev.newT (o := .tup ws) I2.stt nT
              refine step _ v3 ?_
              rw [e2]
              exact .tup (SqT.of upd_same) (DpAll.mono (I2.sub.trans v3.sub) hd)
        · have ei : i = ds.length := by omega
          rw [ei] at q2 ⊢
          rw [List.drop_length] at q2
          cases q2
          refine .inl ⟨gv.stop H2 sH, ?_⟩
          obtain ⟨st, sh⟩ := v1.stt.unwipe hn1 I2.stt I2.shp I2.sub
          have ev : Ev K C σ ρ1 G1 H1 (unwD ρ1 ρ4 vs) G2 H2 := ⟨st, I2.sub, fun a o x y => I2.frm a o x fun z => y (oa_wipe z), sh, fun a x y => I2.ng a x y, I2.keepH⟩
          exact q _ G2 H2 (v1.trans ev) (RepR.lift (r := .fr ys) v1 ⟨Da, rfl, nD, I2.own⟩)
    · rw [if_neg hn1] at e; cases e
end
end DL
/-! Comprehensions in expressions; lists changed; calls of defs. -/
namespace DL
noncomputable section
open PySem PySem.Spec PyProof.Rows L2
section
variable {X : Cx} {elt tg iter : Expr} {ifs : List Expr} {scope : Scope} {own : List (Str × Nat)} {pos spos py : Pos} {it : DIt} {t : Tg} {tt : DTx} {f : DEx}
/-- the tests of a comprehension -/
def DTs (X : Cx) (ifs : List Expr) (t : DTx) : Prop := PTs X ifs (liftT X.K t)
theorem dts_nil : DTs X [] yesD := ⟨fun pins s σ H Q I h => pts_nil.run pins s σ H Q I (by
  obtain ⟨C, G, ρ, st, b, ρ', e, q⟩ := h
  cases e
  exact q G H (Ev.refl st))⟩
theorem dts_one {c : Expr} (h : DT X c tt) : DTs X [c] tt := pts_one h
theorem de_lc (hc : X.calm = true) (hN : X.N.Nodup) (hi : DI X tg iter it) (ok : BlkOk X.N X.env.scope scope own) (hsl : ∀ j ∈ t.slots, j ∈ own.map (·.2))
    (hg : ∀ (s : Shared) (H : Hp) (C : Addr) (cl : List (Str × Addr)) (fp : List Addr), DG (X.blk s H scope (compEnvC scope cl C X.env) fp) tg t) (ht : ∀ (s : Shared) (H : Hp) (C : Addr) (cl : List (Str × Addr)) (fp : List Addr), DTs (X.blk s H scope (compEnvC scope cl C X.env) fp) ifs tt)
    (he : ∀ (s : Shared) (H : Hp) (C : Addr) (cl : List (Str × Addr)) (fp : List Addr), DE (X.blk s H scope (compEnvC scope cl C X.env) fp) elt f) (hs : ∀ x, foldedSetIterable iter X.env x = pure x := by intro _; rfl) :
    DE X (.ListComp elt [⟨tg, iter, ifs, 0⟩] scope pos) (eLc it t tt f (own.map (·.2))) :=
  PE.mono (pe_lc (g := liftG X.K t) (tt := liftT X.K tt) (te := liftE X.K (eFz f)) hc hN hi ok hg ht (fun s H C cl fp => de_fz (he s H C cl fp)) hs) fun _ _ _ => le_lc hsl
theorem ds_setLc {i : Nat} {y : Str} (hc : X.calm = true) (hN : X.N.Nodup) (hy : X.N[i]? = some y) (hyl : X.env.scope.names.lookup y = some .local)
    (hsw : swapsWith (.ListComp elt [⟨tg, iter, ifs, 0⟩] scope pos) (some (.Name y py)) spos.line X.env = pure true) (hi : DI X tg iter it) (ok : BlkOk X.N X.env.scope scope own) (hsl : ∀ j ∈ t.slots, j ∈ own.map (·.2))
    (hg : ∀ (s : Shared) (H : Hp) (C : Addr) (cl : List (Str × Addr)) (fp : List Addr), DG (X.blk s H scope (compEnvC scope cl C X.env) fp) tg t) (ht : ∀ (s : Shared) (H : Hp) (C : Addr) (cl : List (Str × Addr)) (fp : List Addr), DTs (X.blk s H scope (compEnvC scope cl C X.env) fp) ifs tt)
    (he : ∀ (s : Shared) (H : Hp) (C : Addr) (cl : List (Str × Addr)) (fp : List Addr), DE (X.blk s H scope (compEnvC scope cl C X.env) fp) elt f) (hs : ∀ x, foldedSetIterable iter X.env x = pure x := by intro _; rfl) :
    DS X (.Assign [.Name y py] (.ListComp elt [⟨tg, iter, ifs, 0⟩] scope pos) spos) (sSet i (eLc it t tt f (own.map (·.2)))) :=
  PS.mono (ps_setLc (g := liftG X.K t) (tt := liftT X.K tt) (te := liftE X.K (eFz f)) hc hN hy hyl hsw hi ok hg ht (fun s H C cl fp => de_fz (he s H C cl fp)) hs) fun Dn σ H h => by
    have h2 := ls_set h
    exact le_lc hsl h2
end
/-! ### methods of a list that has a name -/
def eMth (m : List D → List D → Option (D × List D)) (i : Nat) (fs : List DEx) : DEx := fun ρ => match ρ[i]? with
  | some c0 => if (contL c0).isSome = true then match eArgs fs ρ with
      | some (rs, ρ1) => match fzs rs with
        | some as => match ρ1[i]? with
          | some c1 => match contL c1 with
            | some xs => match m xs as with
              | some (r, ys) => some (.fz r, ρ1.set i (setC ys c1))
              | none => none
            | none => none
          | none => none
        | none => none
      | none => none
    else none
  | none => none
def MthS (K : PySem.W.Frag) (r : V → List V → Hp → VK → Prop) (m : List D → List D → Option (D × List D)) : Prop := ∀ {G H l vs xs us as z ys} {Q : VK}, Sub G H → H l = some (.lst vs) → DpAll K G vs xs → DpAll K G us as → m xs as = some (z, ys) →
  (∀ u vs', Dp K G u z → DpAll K G vs' ys → Q u (upd H l (.lst vs'))) → r (.ref l) us H Q
/-- what a list's place says -/
theorem Stt.at {K : PySem.W.Frag} {C : EC} {σ : L2.St} {ρ : Env} {G H : Hp} (s : Stt K C G H σ ρ) {i : Nat} {c : Cell} {xs : List D} (e : ρ[i]? = some c) (hc : contL c = some xs) : ∃ p vs, σ[i]? = some (some (.ref p)) ∧ G p = none ∧ H p = some (.lst vs) ∧ DpAll K G vs xs := by
  obtain ⟨x, e1, k⟩ := s.cell i c e
  cases c with
  | un => cases hc
  | v _ => cases hc
  | own ys =>
    cases hc
    obtain ⟨p, rfl, ⟨g, vs, h1, h2⟩, _⟩ := k
    exact ⟨p, vs, e1, g, h1, h2⟩
  | par ys =>
    cases hc
    obtain ⟨p, rfl, ⟨g, vs, h1, h2⟩, _⟩ := k
    exact ⟨p, vs, e1, g, h1, h2⟩
  | dc _ => cases hc
section
variable {X : Cx} {m : List D → List D → Option (D × List D)} {i : Nat} {fs : List DEx} {o : Expr} {es : List Expr} {name : Str} {apos cpos : Pos} {id : String} {r : V → List V → Hp → VK → Prop}
theorem le_mth {K : PySem.W.Frag} (hm : MthS K r m) {σ : L2.St} {H : Hp} {Q : VK} (h : liftE K (eMth m i fs) σ H Q) : tBM K "list" r (tVar i) (liftA K (eArgs fs)) σ H Q := by
  obtain ⟨C, G, ρ, s, z, ρ', e, q⟩ := h
  unfold eMth at e
  split at e
  · rename_i c0 e0
    by_cases hc0 : (contL c0).isSome = true
    · rw [if_pos hc0] at e
      obtain ⟨ys0, hy0⟩ := Option.isSome_iff_exists.mp hc0
      obtain ⟨p, vs, ep, gp, hp, hd⟩ := s.at e0 hy0
      split at e
      · rename_i rs ρ1 e1
        split at e
        · rename_i as e2
          split at e
          · rename_i c1 e3
            split at e
            · rename_i xs e4
              split at e
              · rename_i z' ys e5
                cases e
                refine ⟨_, ep, .inl ⟨rfl, vs, SqL.of hp⟩, ?_⟩
                refine use_A s e1 fun us G1 H1 v1 p1 => ?_
                obtain ⟨p', vs1, ep', gp1, hp1, hd1⟩ := v1.stt.at e3 e4
                rw [ep] at ep'; cases ep'
                refine hm v1.stt.gh hp1 hd1 (dps_of p1 e2) e5 fun u vs' hu hv => ?_
                have v2 := Ev.write v1.stt e3 (by rw [e4]; rfl) ep hv
                exact q u G1 _ (v1.trans v2) hu
              · cases e
            · cases e
          · cases e
        · cases e
      · cases e
    · rw [if_neg hc0] at e; cases e
  · cases e
def mAppend : List D → List D → Option (D × List D) := fun xs as => match as with
  | [d] => if xs.length ≤ LIM then some (.none, xs ++ [d]) else none
  | _ => none
theorem ms_append {K : PySem.W.Frag} : MthS K rAppend mAppend := by
  intro G H l vs xs us as z ys Q gh hl hv hu e q
  unfold mAppend at e
  split at e
  · rename_i d
    by_cases hx : xs.length ≤ LIM
    · rw [if_pos hx] at e
      cases e
      cases hu with
      | cons h1 h2 =>
        cases h2
        exact ⟨l, vs, _, rfl, rfl, hl, by rw [DpAll.length hv]; exact lim_lt hx, q _ _ .non (DpAll.append hv (.cons h1 .nil))⟩
    · rw [if_neg hx] at e; cases e
  · cases e
theorem de_append {e : Expr} {f : DEx} (ho : PE X o (tVar i)) (ha : DA X [e] [f])
    (hbase : attributeBase o "append" X.env (eval o X.env) = eval o X.env := by rfl)
    (hfew : ((backTo cpos (starEach [e] X.env)).all (fun x => !x.1) && (backToKw cpos (keywordEach [] X.env)).all (fun x => x.1.isSome) && decide ([e].length + ([] : List Keyword).length + (if ([] : List Keyword).isEmpty then 0 else 1) < 30)) = true := by rfl)
    (hline : (apos.endLine == cpos.line) = true := by rfl) (hs : starEach (e :: []) X.env = (false, eval e X.env) :: starEach [] X.env := by rfl) (hplain : (backTo cpos (starEach [] X.env)).any (·.1) = false := by rfl) :
    DE X (.Call (.Attribute o "append" apos) [e] [] cpos) (eMth mAppend i [f]) :=
  PE.mono (pe_bm PySem.F.plainAttrs_list PySem.F.slot_list_append PySem.F.type_list_append mt_append ho ha hbase hfew hline hs hplain) fun _ _ _ => le_mth ms_append
/-- x.pop() -/
def mPop : List D → List D → Option (D × List D) := fun xs as => match as with
  | [] => match xs[xs.length - 1]? with
    | some d => some (d, xs.dropLast)
    | none => none
  | _ => none
theorem DpAll.dropLast {K : PySem.W.Frag} {G : Hp} : ∀ {us : List V} {ds : List D}, DpAll K G us ds → DpAll K G us.dropLast ds.dropLast
  | _, _, .nil => .nil
  | _, _, .cons h .nil => .nil
  | _, _, .cons h (.cons h2 t) => .cons h (DpAll.dropLast (.cons h2 t))
theorem le_pop {K : PySem.W.Frag} {σ : L2.St} {H : Hp} {Q : VK} (h : liftE K (eMth mPop i []) σ H Q) : tBM0 K "list" rPop (tVar i) σ H Q := by
  obtain ⟨C, G, ρ, s, z, ρ', e, q⟩ := h
  unfold eMth at e
  split at e
  · rename_i c0 e0
    by_cases hc0 : (contL c0).isSome = true
    · rw [if_pos hc0] at e
      obtain ⟨xs, hy0⟩ := Option.isSome_iff_exists.mp hc0
      obtain ⟨p, vs, ep, gp, hp, hd⟩ := s.at e0 hy0
      simp only [eArgs, fzs, e0, hy0, mPop] at e
      split at e
      · rename_i z' ys e5
        cases e
        split at e5
        · rename_i d e6
          cases e5
          obtain ⟨u, k1, k2⟩ := DpAll.get hd e6
          refine ⟨_, ep, .inl ⟨rfl, vs, SqL.of hp⟩, p, vs, u, rfl, rfl, hp, by rw [DpAll.length hd]; exact k1, ?_⟩
          have v2 := Ev.write s e0 hc0 ep (DpAll.dropLast hd)
          exact q u G _ v2 k2
        · cases e5
      · cases e
    · rw [if_neg hc0] at e; cases e
  · cases e
theorem de_pop (ho : PE X o (tVar i)) (hbase : attributeBase o "pop" X.env (eval o X.env) = eval o X.env := by rfl) (hline : (apos.endLine == cpos.line) = true := by rfl) :
    DE X (.Call (.Attribute o "pop" apos) [] [] cpos) (eMth mPop i []) :=
  PE.mono (pe_bm0 PySem.F.plainAttrs_list PySem.F.slot_list_pop PySem.F.type_list_pop mt_pop ho hbase hline) fun _ _ _ => le_pop
/-- x.extend(e), e a new list -/
def eExt (i : Nat) (f : DEx) : DEx := fun ρ => match ρ[i]? with
  | some c0 => if (contL c0).isSome = true then match f ρ with
      | some (.fr ys, ρ1) => match ρ1[i]? with
        | some c1 => match contL c1 with
          | some xs => if xs.length + ys.length ≤ LIM then some (.fz .none, ρ1.set i (setC (xs ++ ys) c1)) else none
          | none => none
        | none => none
      | _ => none
    else none
  | none => none
theorem de_extend {e : Expr} {f : DEx} (ho : PE X o (tVar i)) (ha : DE X e f)
    (hbase : attributeBase o "extend" X.env (eval o X.env) = eval o X.env := by rfl)
    (hfew : ((backTo cpos (starEach [e] X.env)).all (fun x => !x.1) && (backToKw cpos (keywordEach [] X.env)).all (fun x => x.1.isSome) && decide ([e].length + ([] : List Keyword).length + (if ([] : List Keyword).isEmpty then 0 else 1) < 30)) = true := by rfl)
    (hline : (apos.endLine == cpos.line) = true := by rfl) (hs : starEach (e :: []) X.env = (false, eval e X.env) :: starEach [] X.env := by rfl) (hplain : (backTo cpos (starEach [] X.env)).any (·.1) = false := by rfl) :
    DE X (.Call (.Attribute o "extend" apos) [e] [] cpos) (eExt i f) :=
  PE.mono (pe_bm PySem.F.plainAttrs_list PySem.F.slot_list_extend PySem.F.type_list_extend mt_extend ho (da_cons ha da_nil hs) hbase hfew hline hs hplain) fun σ H Q h => by
    obtain ⟨C, G, ρ, s, z, ρ', e, q⟩ := h
    unfold eExt at e
    split at e
    · rename_i c0 e0
      by_cases hc0 : (contL c0).isSome = true
      · rw [if_pos hc0] at e
        obtain ⟨ys0, hy0⟩ := Option.isSome_iff_exists.mp hc0
        obtain ⟨p, vs, ep, gp, hp, hd⟩ := s.at e0 hy0
        split at e
        · rename_i ys ρ1 e1
          split at e
          · rename_i c1 e3
            split at e
            · rename_i xs e4
              by_cases hl : xs.length + ys.length ≤ LIM
              · rw [if_pos hl] at e
                cases e
                refine ⟨_, ep, .inl ⟨rfl, vs, SqL.of hp⟩, use_A s (rs := [.fr ys]) (ρ' := ρ1) (by unfold eArgs; rw [e1]; rfl) fun us G1 H1 v1 p1 => ?_⟩
                match us, p1 with
                | [u], ⟨k, _⟩ =>
                  obtain ⟨b, rfl, nb, gb, ws, hb, hw⟩ := k
                  obtain ⟨p', vs1, ep', gp1, hp1, hd1⟩ := v1.stt.at e3 e4
                  rw [ep] at ep'; cases ep'
                  refine ⟨p, b, vs1, ws, rfl, rfl, hp1, hb, by rw [DpAll.length hd1, DpAll.length hw]; exact lim_le hl, ?_⟩
                  have v2 := Ev.write v1.stt e3 (by rw [e4]; rfl) ep (DpAll.append hd1 hw)
                  exact q _ G1 _ (v1.trans v2) .non
              · rw [if_neg hl] at e; cases e
            · cases e
          · cases e
        · cases e
      · rw [if_neg hc0] at e; cases e
    · cases e
/-- append to a list that was just made, and is not kept -/
def eAppF (f g : DEx) : DEx := fun ρ => match f ρ with
  | some (.fr xs, ρ1) => match g ρ1 with
    | some (.fz _, ρ2) => if xs.length ≤ LIM then some (.fz .none, ρ2) else none
    | _ => none
  | _ => none
theorem de_appF {e : Expr} {f g : DEx} (ho : DE X o f) (ha : DE X e g)
    (hbase : attributeBase o "append" X.env (eval o X.env) = eval o X.env := by rfl)
    (hfew : ((backTo cpos (starEach [e] X.env)).all (fun x => !x.1) && (backToKw cpos (keywordEach [] X.env)).all (fun x => x.1.isSome) && decide ([e].length + ([] : List Keyword).length + (if ([] : List Keyword).isEmpty then 0 else 1) < 30)) = true := by rfl)
    (hline : (apos.endLine == cpos.line) = true := by rfl) (hs : starEach (e :: []) X.env = (false, eval e X.env) :: starEach [] X.env := by rfl) (hplain : (backTo cpos (starEach [] X.env)).any (·.1) = false := by rfl) :
    DE X (.Call (.Attribute o "append" apos) [e] [] cpos) (eAppF f g) :=
  PE.mono (pe_bm PySem.F.plainAttrs_list PySem.F.slot_list_append PySem.F.type_list_append mt_append ho (da_cons ha da_nil hs) hbase hfew hline hs hplain) fun σ H Q h => by
    obtain ⟨C, G, ρ, s, z, ρ', e, q⟩ := h
    unfold eAppF at e
    split at e
    · rename_i xs ρ1 e1
      split at e
      · rename_i d ρ2 e2
        by_cases hl : xs.length ≤ LIM
        · rw [if_pos hl] at e
          cases e
          refine use_E s e1 fun u G1 H1 v1 p1 => ?_
          obtain ⟨p, rfl, n, g1, vs, hp, hd⟩ := id p1
          refine ⟨.inl ⟨rfl, vs, SqL.of hp⟩, use_A v1.stt (rs := [.fz d]) (ρ' := ρ') (by unfold eArgs; rw [e2]; rfl) fun us G2 H2 v2 p2 => ?_⟩
          match us, p2 with
          | [w], ⟨k, _⟩ =>
            obtain ⟨p', ep', n2, g2, vs2, hp2, hd2⟩ := RepR.step s v1 p1 v2
            cases ep'
            have v12 := v1.trans v2
            obtain ⟨n0, no⟩ := frn s v12 n
            refine ⟨p, vs2, w, rfl, rfl, hp2, by rw [DpAll.length hd2]; exact lim_lt hl, ?_⟩
            refine q _ G2 _ ⟨v12.stt.side g2 no n0, v12.sub, fun a o x y => ?_, v12.shp, v12.ng, fun a x => ?_⟩ .non
            · rw [upd_ne (fun z => by rw [z, n] at x; cases x)]; exact v12.frm a o x y
            · by_cases ha : a = p
              · rw [ha, upd_same]; simp
              · rw [upd_ne ha]; exact v12.keepH a x
        · rw [if_neg hl] at e; cases e
      · cases e
    · cases e
/-! ### x[i] = e -/
def sStore (i : Nat) (fi fv : DEx) : DSt := fun ρ => match fv ρ with
  | some (.fz d, ρ1) => match ρ1[i]? with
    | some c0 => if (contL c0).isSome = true then match fi ρ1 with
        | some (.fz (.int k), ρ2) => match ρ2[i]? with
          | some c1 => match contL c1 with
            | some xs => match ixN xs.length k with
              | some j => .nx (ρ2.set i (setC (xs.set j d) c1))
              | none => .bad
            | none => .bad
          | none => .bad
        | _ => .bad
      else .bad
    | none => .bad
  | _ => .bad
theorem ds_store {x : Str} {ei ev : Expr} {fi fv : DEx} {px ps pos : Pos} (hgs : PG X (.Subscript (.Name x px) ei ps) (gSub (tVar i) (liftE X.K fi) rSetL)) (hv : DE X ev fv)
    (hs : swapsWithSole [.Subscript (.Name x px) ei ps] ev pos.line X.env = pure false := by rfl) (hw : swappedStores [.Subscript (.Name x px) ei ps] ev X.env = pure none := by rfl) (h1 : (assignEach [.Subscript (.Name x px) ei ps] X.env).map (·.2) = [assign (.Subscript (.Name x px) ei ps) X.env] := by rfl) :
    DS X (.Assign [.Subscript (.Name x px) ei ps] ev pos) (sStore i fi fv) := PS.mono (ps_asg hv hgs hs hw (h1 := h1)) fun Dn σ H h => by
  obtain ⟨C, G, ρ, s, q⟩ := h
  unfold sStore at q
  split at q
  · rename_i d ρ1 e1
    split at q
    · rename_i c0 e0
      by_cases hc0 : (contL c0).isSome = true
      · rw [if_pos hc0] at q
        split at q
        · rename_i k ρ2 e2
          split at q
          · rename_i c1 e3
            split at q
            · rename_i xs e4
              split at q
              · rename_i j e5
                refine use_E s e1 fun u G1 H1 v1 p1 => ?_
                obtain ⟨ys0, hy0⟩ := Option.isSome_iff_exists.mp hc0
                obtain ⟨p, vs, ep, gp, hp, hd⟩ := v1.stt.at e0 hy0
                refine ⟨_, ep, use_E v1.stt e2 fun w G2 H2 v2 p2 => ?_⟩
                obtain ⟨p', vs2, ep', gp2, hp2, hd2⟩ := v2.stt.at e3 e4
                rw [ep] at ep'; cases ep'
                refine ⟨p, vs2, k, j, rfl, dpi p2, hp2, by rw [DpAll.length hd2]; exact e5, ?_⟩
                have v3 := Ev.write v2.stt e3 (by rw [e4]; rfl) ep (DpAll.set (Dp.mono v2.sub p1) j hd2)
                exact q σ G2 _ v3.stt (v1.sub.trans v2.sub)
              · exact q.elim
            · exact q.elim
          · exact q.elim
        · exact q.elim
      · rw [if_neg hc0] at q; exact q.elim
    · exact q.elim
  · exact q.elim
/-- x[k], y = e -/
def sUnpS (i : Nat) (fi : DEx) (j : Nat) (f : DEx) : DSt := fun ρ => match f ρ with
  | some (.fz (.tuple [a, b]), ρ1) => match ρ1[i]? with
    | some c0 => if (contL c0).isSome = true then match fi ρ1 with
        | some (.fz (.int k), ρ2) => match ρ2[i]? with
          | some c1 => match contL c1 with
            | some xs => match ixN xs.length k with
              | some l => match put j (.v b) (ρ2.set i (setC (xs.set l a) c1)) with
                | some ρ3 => .nx ρ3
                | none => .bad
              | none => .bad
            | none => .bad
          | none => .bad
        | _ => .bad
      else .bad
    | none => .bad
  | _ => .bad
theorem ds_unpS {x y : Str} {j : Nat} {ei ev : Expr} {fi fv : DEx} {px ps py pt pos : Pos} {kt : Nat} (hc : X.calm = true) (hgs : PG X (.Subscript (.Name x px) ei ps) (gSub (tVar i) (liftE X.K fi) rSetL)) (hg : PG X (.Name y py) (gName j)) (hv : DE X ev fv)
    (hs : swapsWithSole [.Tuple [.Subscript (.Name x px) ei ps, .Name y py] kt pt] ev pos.line X.env = pure false := by rfl) (hw : swappedStores [.Tuple [.Subscript (.Name x px) ei ps, .Name y py] kt pt] ev X.env = pure none := by rfl)
    (h1 : (assignEach [.Tuple [.Subscript (.Name x px) ei ps, .Name y py] kt pt] X.env).map (·.2) = [assign (.Tuple [.Subscript (.Name x px) ei ps, .Name y py] kt pt) X.env] := by rfl)
    (h2 : (assignEach [.Subscript (.Name x px) ei ps, .Name y py] X.env).map (·.2) = assign (.Subscript (.Name x px) ei ps) X.env :: (assignEach [.Name y py] X.env).map (·.2) := by rfl)
    (h3 : (assignEach [.Name y py] X.env).map (·.2) = assign (.Name y py) X.env :: (assignEach [] X.env).map (·.2) := by rfl)
    (hn : (assignEach [.Subscript (.Name x px) ei ps, .Name y py] X.env).length = 2 := by rfl) (hst : (assignEach [.Subscript (.Name x px) ei ps, .Name y py] X.env).findIdx? (·.1) = none := by rfl) :
    DS X (.Assign [.Tuple [.Subscript (.Name x px) ei ps, .Name y py] kt pt] ev pos) (sUnpS i fi j fv) :=
  PS.mono (ps_asg hv (pg_tup hc (pgs_cons hgs (pgs_cons hg pgs_nil h3) h2) hn hst) hs hw (h1 := h1)) fun Dn σ H h => by
  obtain ⟨C, G, ρ, s, q⟩ := h
  unfold sUnpS at q
  split at q
  · rename_i a b ρ1 e1
    split at q
    · rename_i c0 e0
      by_cases hc0 : (contL c0).isSome = true
      · rw [if_pos hc0] at q
        split at q
        · rename_i k ρ2 e2
          split at q
          · rename_i c1 e3
            split at q
            · rename_i xs e4
              split at q
              · rename_i l e5
                split at q
                · rename_i ρ3 e6
                  refine use_E s e1 fun u G1 H1 v1 p1 => ?_
                  cases (show Dp _ _ u (.tuple [a, b]) from p1) with
                  | @tup t vs0 _ ht hd0 =>
                    obtain ⟨ys0, hy0⟩ := Option.isSome_iff_exists.mp hc0
                    obtain ⟨p, vs, ep, gp, hp, hd⟩ := v1.stt.at e0 hy0
                    cases hd0 with
                    | cons ha hr =>
                      cases hr with
                      | cons hb hr =>
                        cases hr
                        refine ⟨t, _, rfl, SqT.mono v1.stt.gh ht, rfl, _, _, rfl, _, ep, use_E v1.stt e2 fun w G2 H2 v2 p2 => ?_⟩
                        obtain ⟨p', vs2, ep', gp2, hp2, hd2⟩ := v2.stt.at e3 e4
                        rw [ep] at ep'; cases ep'
                        refine ⟨p, vs2, k, l, rfl, dpi p2, hp2, by rw [DpAll.length hd2]; exact e5, _, _, rfl, rfl, ?_⟩
                        have v3 := Ev.write v2.stt e3 (by rw [e4]; rfl) ep (DpAll.set (Dp.mono v2.sub ha) l hd2)
                        exact q _ G2 _ (v3.stt.putV e6 (Dp.mono v2.sub hb)) (v1.sub.trans v2.sub)
                · exact q.elim
              · exact q.elim
            · exact q.elim
          · exact q.elim
        · exact q.elim
      · rw [if_neg hc0] at q; exact q.elim
    · exact q.elim
  · exact q.elim
end
end
end DL
/-! Built-in functions, isinstance, slices, repr. -/
namespace DL
noncomputable section
open PySem PySem.Spec PyProof.Rows L2

theorem v1_of {K : PySem.W.Frag} {G H : Hp} {us : List V} {d : D} (h : Views K G H us [d]) : ∃ u, us = [u] ∧ View K G H u d := by
  cases h with
  | cons a b => cases b; exact ⟨_, rfl, a⟩
theorem v2_of {K : PySem.W.Frag} {G H : Hp} {us : List V} {d e : D} (h : Views K G H us [d, e]) : ∃ u w, us = [u, w] ∧ View K G H u d ∧ View K G H w e := by
  cases h with
  | cons a b => obtain ⟨w, rfl, k⟩ := v1_of b; exact ⟨_, _, rfl, a, k⟩
def intsOf : List D → Option (List Int)
  | [] => some []
  | .int i :: ds => match intsOf ds with
    | some is => some (i :: is)
    | none => none
  | _ :: _ => none
def boolsOf : List D → Option (List Bool)
  | [] => some []
  | .bool i :: ds => match boolsOf ds with
    | some is => some (i :: is)
    | none => none
  | _ :: _ => none
theorem intsOf_map : ∀ {ds : List D} {is : List Int}, intsOf ds = some is → ds = is.map .int
  | [], _, h => by cases h; rfl
  | .int i :: ds, is, h => by
    unfold intsOf at h
    split at h
    · rename_i is' e; cases h; rw [List.map_cons, ← intsOf_map e]
    · cases h
  | .none :: _, _, h => by cases h
  | .bool _ :: _, _, h => by cases h
  | .str _ :: _, _, h => by cases h
  | .list _ :: _, _, h => by cases h
  | .tuple _ :: _, _, h => by cases h
  | .dict _ :: _, _, h => by cases h
theorem map_intsOf : ∀ is : List Int, intsOf (is.map .int) = some is
  | [] => rfl
  | i :: is => by rw [List.map_cons, intsOf, map_intsOf is]
theorem boolsOf_map : ∀ {ds : List D} {is : List Bool}, boolsOf ds = some is → ds = is.map .bool
  | [], _, h => by cases h; rfl
  | .bool i :: ds, is, h => by
    unfold boolsOf at h
    split at h
    · rename_i is' e; cases h; rw [List.map_cons, ← boolsOf_map e]
    · cases h
  | .none :: _, _, h => by cases h
  | .int _ :: _, _, h => by cases h
  | .str _ :: _, _, h => by cases h
  | .list _ :: _, _, h => by cases h
  | .tuple _ :: _, _, h => by cases h
  | .dict _ :: _, _, h => by cases h
theorem map_boolsOf : ∀ is : List Bool, boolsOf (is.map .bool) = some is
  | [] => rfl
  | i :: is => by rw [List.map_cons, boolsOf, map_boolsOf is]
theorem dpa_ints {K : PySem.W.Frag} {G : Hp} : ∀ {us : List V} {is : List Int}, DpAll K G us (is.map .int) → us = is.map V.int
  | _, [], h => by cases h; rfl
  | _, i :: is, h => by
    cases h with
    | cons a b => rw [List.map_cons, dpa_ints b, dpi a]
theorem dpa_bools {K : PySem.W.Frag} {G : Hp} : ∀ {us : List V} {is : List Bool}, DpAll K G us (is.map .bool) → us = is.map V.bl
  | _, [], h => by cases h; rfl
  | _, i :: is, h => by
    cases h with
    | cons a b => rw [List.map_cons, dpa_bools b, dp_bl a]
theorem ints_dpa {K : PySem.W.Frag} {G : Hp} : ∀ is : List Int, DpAll K G (is.map V.int) (is.map .int)
  | [] => .nil
  | i :: is => .cons (.int i) (ints_dpa is)
/-- len -/
def oLen : List D → Option OR
  | [.list xs] => some (.at (.int (xs.length : Nat)))
  | [.tuple xs] => some (.at (.int (xs.length : Nat)))
  | [.str z] => if z.length ≤ LIM then some (.at (.int (z.length : Nat))) else none
  | _ => none
def rLenD (K : PySem.W.Frag) : List V → Hp → VK → Prop := fun xs H Q => ∃ x n, xs = [x] ∧ LenV K x H n ∧ Q (.int n) H
theorem cs_len {K : PySem.W.Frag} : CallS K (rLenD K) oLen := by
  intro C σ ρ G H us ds z Q s vs e fin
  unfold oLen at e
  split at e
  · cases e
    obtain ⟨u, rfl, v⟩ := v1_of vs
    obtain ⟨p, ws, rfl, h1, h2⟩ := v.list s.gh
    exact ⟨_, _, rfl, .inl ⟨ws, h1, (DpAll.length h2).symm⟩, Fin.at s fin (.int _)⟩
  · cases e
    obtain ⟨u, rfl, v⟩ := v1_of vs
    obtain ⟨p, ws, rfl, h1, h2⟩ := v.tuple s.gh
    exact ⟨_, _, rfl, .inr ⟨ws, h1, (DpAll.length h2).symm⟩, Fin.at s fin (.int _)⟩
  · rename_i z'
    by_cases hl : z'.length ≤ LIM
    · rw [if_pos hl] at e
      cases e
      obtain ⟨u, rfl, v⟩ := v1_of vs
      obtain rfl := v.str
      exact ⟨_, _, rfl, ⟨lim_le hl, rfl⟩, Fin.at s fin (.int _)⟩
    · rw [if_neg hl] at e; cases e
  · cases e
def oAbs : List D → Option OR
  | [.int i] => some (.at (.int (if i < 0 then -i else i)))
  | _ => none
theorem cs_abs {K : PySem.W.Frag} : CallS K (fun xs H Q => ∃ i, xs = [.int i] ∧ Q (.int (if i < 0 then -i else i)) H) oAbs := by
  intro C σ ρ G H us ds z Q s vs e fin
  unfold oAbs at e
  split at e
  · cases e
    obtain ⟨u, rfl, v⟩ := v1_of vs
    obtain rfl := v.int
    exact ⟨_, rfl, Fin.at s fin (.int _)⟩
  · cases e
def oInt : List D → Option OR
  | [.int i] => some (.at (.int i))
  | [.bool b] => some (.at (.int (if b then 1 else 0)))
  | _ => none
theorem cs_int {K : PySem.W.Frag} : CallS K (fun xs H Q => (∃ i, xs = [.int i] ∧ Q (.int i) H) ∨ ∃ k, xs = [.bl k] ∧ Q (.int (if k then 1 else 0)) H) oInt := by
  intro C σ ρ G H us ds z Q s vs e fin
  unfold oInt at e
  split at e
  · cases e
    obtain ⟨u, rfl, v⟩ := v1_of vs
    obtain rfl := v.int
    exact .inl ⟨_, rfl, Fin.at s fin (.int _)⟩
  · cases e
    obtain ⟨u, rfl, v⟩ := v1_of vs
    obtain rfl := v.bl
    exact .inr ⟨_, rfl, Fin.at s fin (.int _)⟩
  · cases e
/-- max, min of two, of a list -/
def maxI : List Int → Int
  | [] => 0
  | x :: xs => xs.foldl max x
def minI : List Int → Int
  | [] => 0
  | x :: xs => xs.foldl min x
theorem foldl_max_ge (xs : List Int) : ∀ x, x ≤ xs.foldl max x ∧ ∀ y ∈ xs, y ≤ xs.foldl max x := by
  induction xs with
  | nil => exact fun x => ⟨Int.le_refl x, fun y h => by cases h⟩
  | cons a xs ih =>
    intro x
    have h := ih (max x a)
    refine ⟨Int.le_trans (Int.le_max_left x a) h.1, fun y hy => ?_⟩
    rcases List.mem_cons.mp hy with rfl | hy
    · exact Int.le_trans (Int.le_max_right x y) h.1
    · exact h.2 y hy
theorem foldl_max_mem (xs : List Int) : ∀ x, xs.foldl max x = x ∨ xs.foldl max x ∈ xs := by
  induction xs with
  | nil => exact fun x => .inl rfl
  | cons a xs ih =>
    intro x
    rw [List.foldl_cons]
    rcases ih (max x a) with h | h
    · rw [h]
      rcases Int.le_total x a with k | k
      · rw [Int.max_eq_right k]; exact .inr List.mem_cons_self
      · rw [Int.max_eq_left k]; exact .inl rfl
    · exact .inr (List.mem_cons_of_mem _ h)
theorem foldl_min_le (xs : List Int) : ∀ x, xs.foldl min x ≤ x ∧ ∀ y ∈ xs, xs.foldl min x ≤ y := by
  induction xs with
  | nil => exact fun x => ⟨Int.le_refl x, fun y h => by cases h⟩
  | cons a xs ih =>
    intro x
    have h := ih (min x a)
    refine ⟨Int.le_trans h.1 (Int.min_le_left x a), fun y hy => ?_⟩
    rcases List.mem_cons.mp hy with rfl | hy
    · exact Int.le_trans h.1 (Int.min_le_right x y)
    · exact h.2 y hy
theorem foldl_min_mem (xs : List Int) : ∀ x, xs.foldl min x = x ∨ xs.foldl min x ∈ xs := by
  induction xs with
  | nil => exact fun x => .inl rfl
  | cons a xs ih =>
    intro x
    rw [List.foldl_cons]
    rcases ih (min x a) with h | h
    · rw [h]
      rcases Int.le_total x a with k | k
      · rw [Int.min_eq_left k]; exact .inl rfl
      · rw [Int.min_eq_right k]; exact .inr List.mem_cons_self
    · exact .inr (List.mem_cons_of_mem _ h)
theorem maxI_ge {xs : List Int} : ∀ y ∈ xs, y ≤ maxI xs := by
  intro y hy
  cases xs with
  | nil => cases hy
  | cons x xs =>
    have h := foldl_max_ge xs x
    rcases List.mem_cons.mp hy with rfl | hy
    · exact h.1
    · exact h.2 y hy
theorem maxI_mem {xs : List Int} (h : xs ≠ []) : maxI xs ∈ xs := by
  cases xs with
  | nil => exact absurd rfl h
  | cons x xs =>
    rcases foldl_max_mem xs x with e | e
    · show xs.foldl max x ∈ _
      rw [e]; exact List.mem_cons_self
    · exact List.mem_cons_of_mem _ e
theorem minI_le {xs : List Int} : ∀ y ∈ xs, minI xs ≤ y := by
  intro y hy
  cases xs with
  | nil => cases hy
  | cons x xs =>
    have h := foldl_min_le xs x
    rcases List.mem_cons.mp hy with rfl | hy
    · exact h.1
    · exact h.2 y hy
theorem minI_mem {xs : List Int} (h : xs ≠ []) : minI xs ∈ xs := by
  cases xs with
  | nil => exact absurd rfl h
  | cons x xs =>
    rcases foldl_min_mem xs x with e | e
    · show xs.foldl min x ∈ _
      rw [e]; exact List.mem_cons_self
    · exact List.mem_cons_of_mem _ e
def oMax : List D → Option OR
  | [.int i, .int j] => some (.at (.int (if j > i then j else i)))
  | [.list xs] => match intsOf xs with
    | some (i :: is) => some (.at (.int (maxI (i :: is))))
    | _ => none
  | _ => none
def oMin : List D → Option OR
  | [.int i, .int j] => some (.at (.int (if j < i then j else i)))
  | [.list xs] => match intsOf xs with
    | some (i :: is) => some (.at (.int (minI (i :: is))))
    | _ => none
  | _ => none
theorem CallR.either {X : Cx} {f : Value} {r r' : List V → Hp → VK → Prop} (h : CallR X f r) (h' : CallR X f r') : CallR X f (fun vs H Q => r vs H Q ∨ r' vs H Q) := by
  intro pins s σ H xs us Q I rx q
  rcases q with q | q
  · exact h pins s σ H xs us Q I rx q
  · exact h' pins s σ H xs us Q I rx q
theorem cs_max {K : PySem.W.Frag} : CallS K (fun xs H Q => (∃ i j, xs = [.int i, .int j] ∧ Q (.int (if j > i then j else i)) H) ∨ rMax K xs H Q) oMax := by
  intro C σ ρ G H us ds z Q s vs e fin
  unfold oMax at e
  split at e
  · cases e
    obtain ⟨u, w, rfl, a, b⟩ := v2_of vs
    obtain rfl := a.int
    obtain rfl := b.int
    exact .inl ⟨_, _, rfl, Fin.at s fin (.int _)⟩
  · rename_i xs
    split at e
    · rename_i i is hi
      cases e
      obtain ⟨u, rfl, v⟩ := v1_of vs
      obtain ⟨p, ws, rfl, h1, h2⟩ := v.list s.gh
      rw [intsOf_map hi] at h2
      rw [dpa_ints h2] at h1
      refine .inr ⟨p, i :: is, rfl, h1, Nat.succ_pos _, fun m hm hy => ?_⟩
      have em : m = maxI (i :: is) := Int.le_antisymm (maxI_ge m hm) (hy _ (maxI_mem (List.cons_ne_nil i is)))
      rw [em]
      exact Fin.at s fin (.int _)
    · cases e
  · cases e
theorem cs_min {K : PySem.W.Frag} : CallS K (fun xs H Q => (∃ i j, xs = [.int i, .int j] ∧ Q (.int (if j < i then j else i)) H) ∨ rMin K xs H Q) oMin := by
  intro C σ ρ G H us ds z Q s vs e fin
  unfold oMin at e
  split at e
  · cases e
    obtain ⟨u, w, rfl, a, b⟩ := v2_of vs
    obtain rfl := a.int
    obtain rfl := b.int
    exact .inl ⟨_, _, rfl, Fin.at s fin (.int _)⟩
  · rename_i xs
    split at e
    · rename_i i is hi
      cases e
      obtain ⟨u, rfl, v⟩ := v1_of vs
      obtain ⟨p, ws, rfl, h1, h2⟩ := v.list s.gh
      rw [intsOf_map hi] at h2
      rw [dpa_ints h2] at h1
      refine .inr ⟨p, i :: is, rfl, h1, Nat.succ_pos _, fun m hm hy => ?_⟩
      have em : m = minI (i :: is) := Int.le_antisymm (hy _ (minI_mem (List.cons_ne_nil i is))) (minI_le m hm)
      rw [em]
      exact Fin.at s fin (.int _)
    · cases e
  · cases e
def oSum : List D → Option OR
  | [.list xs] => match intsOf xs with
    | some is => some (.at (.int is.sum))
    | none => none
  | _ => none
theorem cs_sum {K : PySem.W.Frag} : CallS K (rSum K) oSum := by
  intro C σ ρ G H us ds z Q s vs e fin
  unfold oSum at e
  split at e
  · split at e
    · rename_i is hi
      cases e
      obtain ⟨u, rfl, v⟩ := v1_of vs
      obtain ⟨p, ws, rfl, h1, h2⟩ := v.list s.gh
      rw [intsOf_map hi] at h2
      rw [dpa_ints h2] at h1
      exact ⟨p, is, rfl, h1, Fin.at s fin (.int _)⟩
    · cases e
  · cases e
def oAll : List D → Option OR
  | [.list xs] => match boolsOf xs with
    | some is => some (.at (.bool (is.all id)))
    | none => none
  | _ => none
def oAny : List D → Option OR
  | [.list xs] => match boolsOf xs with
    | some is => some (.at (.bool (is.any id)))
    | none => none
  | _ => none
theorem cs_all {K : PySem.W.Frag} : CallS K (rAll K) oAll := by
  intro C σ ρ G H us ds z Q s vs e fin
  unfold oAll at e
  split at e
  · split at e
    · rename_i is hi
      cases e
      obtain ⟨u, rfl, v⟩ := v1_of vs
      obtain ⟨p, ws, rfl, h1, h2⟩ := v.list s.gh
      rw [boolsOf_map hi] at h2
      rw [dpa_bools h2] at h1
      exact ⟨p, is, rfl, h1, Fin.at s fin (.bl _)⟩
    · cases e
  · cases e
theorem cs_any {K : PySem.W.Frag} : CallS K (rAny K) oAny := by
  intro C σ ρ G H us ds z Q s vs e fin
  unfold oAny at e
  split at e
  · split at e
    · rename_i is hi
      cases e
      obtain ⟨u, rfl, v⟩ := v1_of vs
      obtain ⟨p, ws, rfl, h1, h2⟩ := v.list s.gh
      rw [boolsOf_map hi] at h2
      rw [dpa_bools h2] at h1
      exact ⟨p, is, rfl, h1, Fin.at s fin (.bl _)⟩
    · cases e
  · cases e
/-- sorted of ints -/
def sortI (is : List Int) : List Int := is.mergeSort fun a b => decide (a ≤ b)
theorem sortI_perm (is : List Int) : (sortI is).Perm is := List.mergeSort_perm is _
theorem sortI_sorted (is : List Int) : (sortI is).Pairwise (· ≤ ·) := by
  have h := List.pairwise_mergeSort (le := fun a b : Int => decide (a ≤ b)) (fun a b c h1 h2 => by
    simp only [decide_eq_true_eq] at *
    omega) (fun a b => by
    simp only [Bool.or_eq_true, decide_eq_true_eq]
    omega) is
  exact h.imp fun h => by simpa using h
theorem sortI_eq {is js : List Int} (h : js.Perm is) (k : js.Pairwise (· ≤ ·)) : js = sortI is := PySem.W.ksm_same (h.trans (sortI_perm is).symm) k (sortI_sorted is)
def oSorted : List D → Option OR
  | [.list xs] => match intsOf xs with
    | some is => some (.nl ((sortI is).map .int))
    | none => none
  | _ => none
theorem cs_sorted {K : PySem.W.Frag} : CallS K (rSortedI K) oSorted := by
  intro C σ ρ G H us ds z Q s vs e fin
  unfold oSorted at e
  split at e
  · split at e
    · rename_i is hi
      cases e
      obtain ⟨u, rfl, v⟩ := v1_of vs
      obtain ⟨p, ws, rfl, h1, h2⟩ := v.list s.gh
      rw [intsOf_map hi] at h2
      rw [dpa_ints h2] at h1
      refine ⟨p, is, rfl, h1, fun ns' q hp hs hq => ?_⟩
      rw [sortI_eq hp hs]
      exact Fin.nl s fin (ints_dpa _) q hq
    · cases e
  · cases e
/-- list(x), tuple(x) -/
def oList : List D → Option OR
  | [.list xs] => some (.nl xs)
  | [.tuple xs] => some (.nl xs)
  | _ => none
theorem dpa_own {K : PySem.W.Frag} {G H : Hp} {u : V} {xs : List D} (h : View K G H u (.list xs)) (gh : Sub G H) : ∃ p vs, u = .ref p ∧ SqL K H p vs ∧ DpAll K G vs xs := h.list gh
theorem cs_list {K : PySem.W.Frag} : CallS K (fun xs H Q => ∃ p ys, xs = [.ref p] ∧ (SqL K H p ys ∨ SqT K H p ys) ∧ ∀ l, H l = none → Q (.ref l) (upd H l (.lst ys))) oList := by
  intro C σ ρ G H us ds z Q s vs e fin
  unfold oList at e
  split at e
  · cases e
    obtain ⟨u, rfl, v⟩ := v1_of vs
    obtain ⟨p, ws, rfl, h1, h2⟩ := v.list s.gh
    exact ⟨p, ws, rfl, .inl h1, Fin.nl s fin h2⟩
  · cases e
    obtain ⟨u, rfl, v⟩ := v1_of vs
    obtain ⟨p, ws, rfl, h1, h2⟩ := v.tuple s.gh
    exact ⟨p, ws, rfl, .inr h1, Fin.nl s fin h2⟩
  · cases e
def oTuple : List D → Option OR
  | [.list xs] => some (.nt xs)
  | [.tuple xs] => some (.at (.tuple xs))
  | _ => none
theorem cs_tuple {K : PySem.W.Frag} : CallS K (fun xs H Q => ∃ p ys, xs = [.ref p] ∧ ((SqL K H p ys ∧ ∀ l, H l = none → Q (.ref l) (upd H l (.tup ys))) ∨ (SqT K H p ys ∧ Q (.ref p) H))) oTuple := by
  intro C σ ρ G H us ds z Q s vs e fin
  unfold oTuple at e
  split at e
  · cases e
    obtain ⟨u, rfl, v⟩ := v1_of vs
    obtain ⟨p, ws, rfl, h1, h2⟩ := v.list s.gh
    exact ⟨p, ws, rfl, .inl ⟨h1, Fin.nt s fin h2⟩⟩
  · cases e
    obtain ⟨u, rfl, v⟩ := v1_of vs
    rcases v with v | ⟨p, ys, _, e, _⟩
    · cases id v with
      | tup a b => exact ⟨_, _, rfl, .inr ⟨SqT.mono s.gh a, Fin.at s fin v⟩⟩
    · cases e
  · cases e
def oStr : List D → Option OR
  | [.int i] => if dP (i.natAbs.log2 < 1920) = true then some (.at (.str (toString i))) else none
  | _ => none
theorem cs_str {K : PySem.W.Frag} : CallS K (fun xs H Q => ∃ i, xs = [.int i] ∧ i.natAbs.log2 < 1920 ∧ Q (.str (toString i)) H) oStr := by
  intro C σ ρ G H us ds z Q s vs e fin
  unfold oStr at e
  split at e
  · rename_i i
    by_cases hl : dP (i.natAbs.log2 < 1920) = true
    · rw [if_pos hl] at e
      cases e
      obtain ⟨u, rfl, v⟩ := v1_of vs
      obtain rfl := v.int
      rw [dP_iff] at hl
      exact ⟨_, rfl, hl, Fin.at s fin (.str _)⟩
    · rw [if_neg hl] at e; cases e
  · cases e
def oDivmod : List D → Option OR
  | [.int i, .int j] => if dP (0 < j ∧ j.natAbs.log2 < 9000) = true then some (.nt [.int (i / j), .int (i % j)]) else none
  | _ => none
theorem cs_divmod {K : PySem.W.Frag} : CallS K (fun xs H Q => ∃ i j, xs = [.int i, .int j] ∧ CDivP i j ∧ ∀ p, H p = none → Q (.ref p) (upd H p (.tup [.int (i / j), .int (i % j)]))) oDivmod := by
  intro C σ ρ G H us ds z Q s vs e fin
  unfold oDivmod at e
  split at e
  · rename_i i j
    by_cases hl : dP (0 < j ∧ j.natAbs.log2 < 9000) = true
    · rw [if_pos hl] at e
      cases e
      obtain ⟨u, w, rfl, a, b⟩ := v2_of vs
      obtain rfl := a.int
      obtain rfl := b.int
      rw [dP_iff] at hl
      exact ⟨i, j, rfl, ⟨hl.1, PyProof.noPylong_of_log2 hl.2⟩, Fin.nt s fin (.cons (.int _) (.cons (.int _) .nil))⟩
    · rw [if_neg hl] at e; cases e
  · cases e
/-! ### repr -/
def oRepr : List D → Option OR
  | [d] => if dP (d.showable = true ∧ d.hasDict = false ∧ d.depth ≤ 64 ∧ d.shown.length ≤ sizeLine) = true then some (.at (.str d.shown)) else none
  | _ => none
def rRepr (K : PySem.W.Frag) : List V → Hp → VK → Prop := fun xs H Q => ∃ v d, xs = [v] ∧ Dp K H v d ∧ (d.showable = true ∧ d.hasDict = false ∧ d.depth ≤ 64 ∧ d.shown.length ≤ sizeLine) ∧ Q (.str d.shown) H
theorem cs_repr {K : PySem.W.Frag} : CallS K (rRepr K) oRepr := by
  intro C σ ρ G H us ds z Q s vs e fin
  unfold oRepr at e
  split at e
  · rename_i d
    by_cases hl : dP (d.showable = true ∧ d.hasDict = false ∧ d.depth ≤ 64 ∧ d.shown.length ≤ sizeLine) = true
    · rw [if_pos hl] at e
      cases e
      obtain ⟨u, rfl, v⟩ := v1_of vs
      rw [dP_iff] at hl
      exact ⟨u, d, rfl, v.dp s.gh, hl, Fin.at s fin (.str _)⟩
    · rw [if_neg hl] at e; cases e
  · cases e
mutual
theorem plain_noDict : ∀ d : D, d.hasDict = false → d.plain = true
  | .none, _ => by rw [PyData.plain]
  | .bool _, _ => by rw [PyData.plain]
  | .int _, _ => by rw [PyData.plain]
  | .str _, _ => by rw [PyData.plain]
  | .list xs, h => by rw [PyData.plain]; exact plainAll_noDict xs (by rwa [PyData.hasDict] at h)
  | .tuple xs, h => by rw [PyData.plain]; exact plainAll_noDict xs (by rwa [PyData.hasDict] at h)
  | .dict _, h => by rw [PyData.hasDict] at h; cases h
theorem plainAll_noDict : ∀ xs : List D, PyData.hasDictAll xs = false → PyData.plainAll xs = true
  | [], _ => by rw [PyData.plainAll]
  | x :: xs, h => by
    rw [PyData.hasDictAll, Bool.or_eq_false_iff] at h
    rw [PyData.plainAll, plain_noDict x h.1, plainAll_noDict xs h.2]; rfl
end
theorem cr_repr {X : Cx} (hg : X.A.guards = some []) (hr : Room 0 X.A) : CallR X (.builtin "repr") (rRepr X.K) := by
  intro pins s σ H xs us Q I r h
  obtain ⟨v, d, rfl, hd, ⟨h1, h2, h3, h4⟩, q⟩ := h
  obtain ⟨u, rfl, ru⟩ := vals1 r
  obtain ⟨as, rd⟩ := L2.Dp.reads I d v u (hd.hand (plain_noDict d h2)) ru
  have hu := hr.un
  have room : X.A.units + (d.depth + 1) < cLine := by omega
  cases hd with
  | non =>
    cases ru
    rw [PyData.shown_none] at q
    exact PySem.P.repr_of_none ⟨.str _, H, I.tok _, ⟨_, rfl⟩, q⟩
  | bl b =>
    cases ru
    rw [PyData.shown_bool] at q
    refine PySem.P.repr_of_bool ⟨.str _, H, I.tok _, ⟨_, rfl⟩, ?_⟩
    cases b <;> exact q
  | int i =>
    obtain ⟨t, rfl⟩ := ru
    rw [PyData.shown_int] at q
    refine PySem.P.repr_of_int ?_ ⟨.str _, H, I.tok _, ⟨_, rfl⟩, q⟩
    simpa [PyData.showable] using h1
  | str x =>
    obtain ⟨t, rfl⟩ := ru
    rw [PyData.shown_str] at q
    exact PySem.P.repr_of_str ⟨.str _, H, I.tok _, ⟨_, rfl⟩, q⟩
  | lst a b =>
    cases ru
    exact repr_of_reads' rd h1 (PyData.noDict_hsm h2) hg room (fun _ _ e => e) (fun h' u' tk hk => ⟨.str _, H, I.kept hk, ⟨_, rfl⟩, q⟩) h4
  | tup a b =>
    cases ru
    exact repr_of_reads' rd h1 (PyData.noDict_hsm h2) hg room (fun _ _ e => e) (fun h' u' tk hk => ⟨.str _, H, I.kept hk, ⟨_, rfl⟩, q⟩) h4
  | dct _ _ _ => rw [PyData.hasDict] at h2; cases h2
/-! ### isinstance -/
def tyN : D → String
  | .none => "NoneType"
  | .bool _ => "bool"
  | .int _ => "int"
  | .str _ => "str"
  | .list _ => "list"
  | .tuple _ => "tuple"
  | .dict _ => "dict"
theorem tyX_of {K : PySem.W.Frag} {G H : Hp} {u : V} {d : D} (h : View K G H u d) (gh : Sub G H) : TyX K H u (.type (tyN d)) := by
  have hd := h.dp gh
  cases hd with
  | non => exact .base .non
  | bl b => exact .base (.bl b)
  | int i => exact .base (.int i)
  | str x => exact .base (.str x)
  | lst a b =>
    rcases a with (a | ⟨o, a⟩) | ⟨o, its, n, a, a2, _⟩
    · exact .base (.lst a)
    · exact .base (.frz a)
    · exact .kList a a2
  | tup a b =>
    rcases a with (a | ⟨o, a⟩) | ⟨o, its, n, a, a2, _⟩
    · exact .base (.tup a)
    · exact .fTuple a
    · exact .kTuple a a2
  | dct a _ _ => exact .fDict a
def eIsi (T : String) (f : DEx) : DEx := fun ρ => match f ρ with
  | some (r, ρ1) => match deref ρ1 r with
    | some d => match kitB (tyN d) T with
      | some b => some (.fz (.bool b), ρ1)
      | none => none
    | none => none
  | none => none
/-- of some types -/
def kitAnyB (t : String) : List String → Option Bool
  | [] => some false
  | T :: Ts => match kitB t T, kitAnyB t Ts with
    | some a, some b => some (a || b)
    | _, _ => none
def eIsiT (Ts : List String) (f : DEx) : DEx := fun ρ => match f ρ with
  | some (r, ρ1) => match deref ρ1 r with
    | some d => match kitAnyB (tyN d) Ts with
      | some b => some (.fz (.bool b), ρ1)
      | none => none
    | none => none
  | none => none
section
variable {X : Cx} {e : Expr} {f : DEx} {T : String} {y : Str} {p p2 pos : Pos}
theorem de_isi (hg : Gl X "isinstance") (hm : X.mg "isinstance" = none) (hg2 : Gl X y) (hm2 : X.mg y = none) (hv : bootBuiltins y = some (.type T)) (he : DE X e f) (hn : y ≠ "__name__" := by decide) (hdb : (y == ("__debug__" : Str)) = false := by decide)
    (hs : starEach [e, .Name y p2] X.env = (false, eval e X.env) :: starEach [.Name y p2] X.env := by rfl) (hs2 : starEach [.Name y p2] X.env = (false, eval (.Name y p2) X.env) :: starEach [] X.env := by rfl) (hpl : (backTo pos (starEach [.Name y p2] X.env)).any (·.1) = false := by rfl) :
    DE X (.Call (.Name "isinstance" p) [e, .Name y p2] [] pos) (eIsi T f) :=
  PE.mono (pe_callB call_isi hg hm PyProof.Rows.boot_isinstance (pa_cons he (pa_cons (pe_bltn (v := .ty T) hg2 hm2 hv rfl hn hdb) pa_nil hs2) hs) (by decide) (by decide) hs hpl) fun σ H Q h => by
    obtain ⟨C, G, ρ, s, r, ρ', e, q⟩ := h
    unfold eIsi at e
    split at e
    · rename_i r1 ρ1 e1
      split at e
      · rename_i d e2
        split at e
        · rename_i b e3
          cases e
          exact use_E s e1 fun u G1 H1 v1 p1 => ⟨u, .ty T, .type (tyN d), .type T, b, rfl, .ty T, tyX_of (view_of v1.stt p1 e2) v1.stt.gh, kit_ty e3, q _ G1 H1 v1 (.bl b)⟩
        · cases e
      · cases e
    · cases e
theorem kitAnyB_ok {K : PySem.W.Frag} {t : String} : ∀ {Ts : List String} {b : Bool}, kitAnyB t Ts = some b → PySem.W.kitAny K (.type t) (Ts.map .type) = some b
  | [], b, h => by cases h; rfl
  | T :: Ts, b, h => by
    unfold kitAnyB at h
    split at h
    · rename_i a c e1 e2
      cases h
      refine kitAny_cons (kit_ty e1) (fun ha => ?_) fun ha => by rw [ha]; rfl
      rw [ha, Bool.false_or]
      exact kitAnyB_ok e2
    · cases h
theorem cls_all : ∀ Ts : List String, Paired ClsV (Ts.map V.ty) (Ts.map Value.type)
  | [] => .nil
  | T :: Ts => .cons (.ty T) (cls_all Ts)
/-- the names of built-in types, as arguments -/
theorem de_isiT {es : List Expr} {Ts : List String} {x1 : Nat} {pt : Pos} (hg : Gl X "isinstance") (hm : X.mg "isinstance" = none) (hT : PA X es (fun _ H Q => Q (Ts.map V.ty) H)) (hTl : Ts.length ≤ 100) (he : DE X e f)
    (hs : starEach [e, .Tuple es x1 pt] X.env = (false, eval e X.env) :: starEach [.Tuple es x1 pt] X.env := by rfl) (hs2 : starEach [.Tuple es x1 pt] X.env = (false, eval (.Tuple es x1 pt) X.env) :: starEach [] X.env := by rfl) (hpl : (backTo pos (starEach [.Tuple es x1 pt] X.env)).any (·.1) = false := by rfl) :
    DE X (.Call (.Name "isinstance" p) [e, .Tuple es x1 pt] [] pos) (eIsiT Ts f) :=
  PE.mono (pe_callB call_isiT hg hm PyProof.Rows.boot_isinstance (pa_cons he (pa_cons (pe_tup hT) pa_nil hs2) hs) (by decide) (by decide) hs hpl) fun σ H Q h => by
    obtain ⟨C, G, ρ, s, r, ρ', e, q⟩ := h
    unfold eIsiT at e
    split at e
    · rename_i r1 ρ1 e1
      split at e
      · rename_i d e2
        split at e
        · rename_i b e3
          cases e
          refine use_E s e1 fun u G1 H1 v1 p1 => ⟨by rw [List.length_map]; exact Nat.le_trans hTl (by decide), fun tp nt => ?_⟩
          have v2 := v1.trans (Ev.newL (o := .tup (Ts.map V.ty)) v1.stt nt)
          refine ⟨u, tp, Ts.map V.ty, .type (tyN d), Ts.map Value.type, b, rfl, upd_same, cls_all Ts, ?_, kitAnyB_ok e3, q _ G1 _ v2 (.bl b)⟩
          have w := view_of v1.stt p1 e2
          have vw : View X.K G1 (upd H1 tp (.tup (Ts.map V.ty))) u d := by
            rcases w with w | ⟨p', xs, rfl, rfl, w⟩
            · exact .inl w
            · obtain ⟨g, vs, h1, h2⟩ := w
              exact .inr ⟨p', xs, rfl, rfl, g, vs, by rw [upd_ne (fun z => by rw [z, nt] at h1; cases h1)]; exact h1, h2⟩
          exact tyX_of vw (v1.stt.gh.trans (Sub.upd nt))
        · cases e
      · cases e
    · cases e
theorem pa_tys_nil : PA X [] (fun _ H Q => Q (([] : List String).map V.ty) H) := PA.mono pa_nil fun _ _ _ h => h
theorem pa_tys_cons {es : List Expr} {Ts : List String} (hg2 : Gl X y) (hm2 : X.mg y = none) (hv : bootBuiltins y = some (.type T)) (ht : PA X es (fun _ H Q => Q (Ts.map V.ty) H)) (hn : y ≠ "__name__" := by decide) (hdb : (y == ("__debug__" : Str)) = false := by decide)
    (hs : starEach (.Name y p :: es) X.env = (false, eval (.Name y p) X.env) :: starEach es X.env := by rfl) : PA X (.Name y p :: es) (fun _ H Q => Q ((T :: Ts).map V.ty) H) :=
  PA.mono (pa_cons (pe_bltn (v := .ty T) hg2 hm2 hv rfl hn hdb) ht hs) fun _ _ _ h => h
end
/-! ### o[lo:hi] -/
def oPart (f : Option DEx) : Env → Option (Option Int × Env) := fun ρ => match f with
  | none => some (none, ρ)
  | some f => match f ρ with
    | some (.fz (.int i), ρ1) => some (some i, ρ1)
    | _ => none
def liftO (K : PySem.W.Frag) (f : Env → Option (Option Int × Env)) : TO := fun σ H Q => ∃ C G ρ, Stt K C G H σ ρ ∧ ∃ o ρ', f ρ = some (o, ρ') ∧ ∀ G' H', Ev K C σ ρ G H ρ' G' H' → Q o H'
def DP (X : Cx) (e : Option Expr) (f : Option DEx) : Prop := PO X e (liftO X.K (oPart f))
theorem PO.mono {X : Cx} {e : Option Expr} {t t' : TO} (h : PO X e t) (w : ∀ σ H Q, t' σ H Q → t σ H Q) : PO X e t' :=
  ⟨fun pins s σ H Q I q => h.run pins s σ H Q I (w σ H Q q)⟩
section
variable {X : Cx} {e : Expr} {f : DEx}
theorem dp_none : DP X none none := PO.mono po_none fun σ H Q h => by
  obtain ⟨C, G, ρ, s, o, ρ', e, q⟩ := h
  cases e
  exact q G H (Ev.refl s)
theorem dp_some (h : DE X e f) : DP X (some e) (some f) := PO.mono (po_some h) fun σ H Q h => by
  obtain ⟨C, G, ρ, s, o, ρ', e, q⟩ := h
  simp only [oPart] at e
  split at e
  · rename_i i ρ1 e1
    cases e
    exact use_E s e1 fun u G1 H1 v1 p1 => ⟨i, dpi p1, q G1 H1 v1⟩
  · cases e
def cutD {α : Type} (xs : List α) (lo hi : Option Int) : List α := (xs.drop (HT.sIx xs.length 0 lo)).take (HT.sIx xs.length xs.length hi - HT.sIx xs.length 0 lo)
/-- a slice: of a list a new one; of a tuple a tuple -/
def eSl (f : DEx) (lo hi : Option DEx) : DEx := fun ρ => match f ρ with
  | some (r, ρ1) => match oPart lo ρ1 with
    | some (l, ρ2) => match oPart hi ρ2 with
      | some (h, ρ3) => match deref ρ3 r with
        | some (.list xs) => some (.fr (cutD xs l h), ρ3)
        | some (.tuple xs) => some (.fz (.tuple (cutD xs l h)), ρ3)
        | some (.str z) => if z.length ≤ LIM then some (.fz (.str (cutS z l h)), ρ3) else none
        | _ => none
      | none => none
    | none => none
  | none => none
theorem cut_dpa {K : PySem.W.Frag} {G : Hp} {us : List V} {ds : List D} (h : DpAll K G us ds) (lo hi : Option Int) : DpAll K G (cutV us lo hi) (cutD ds lo hi) := by
  unfold cutV cutD
  rw [DpAll.length h]
  exact DpAll.take _ (DpAll.drop _ h)
def rSlD (K : PySem.W.Frag) : V → Option Int → Option Int → Hp → VK → Prop := fun x lo hi H Q => rSlL K x lo hi H Q ∨ (rSlA K x lo hi H Q ∨ rSlS x lo hi H Q)
theorem sl_all : SlR X (rSlD X.K) := SlR.or sl_list (SlR.or sl_tupA sl_str)
theorem le_sl {K : PySem.W.Frag} {lo hi : Option DEx} {σ : L2.St} {H : Hp} {Q : VK} (h : liftE K (eSl f lo hi) σ H Q) : tSl (rSlD K) (liftE K f) (liftO K (oPart lo)) (liftO K (oPart hi)) σ H Q := by
  obtain ⟨C, G, ρ, s, r, ρ', e, q⟩ := h
  unfold eSl at e
  split at e
  · rename_i r1 ρ1 e1
    split at e
    · rename_i l ρ2 e2
      split at e
      · rename_i h ρ3 e3
        refine use_E s e1 fun u G1 H1 v1 p1 => ⟨C, G1, ρ1, v1.stt, l, ρ2, e2, fun G2 H2 v2 => ⟨C, G2, ρ2, v2.stt, h, ρ3, e3, fun G3 H3 v3 => ?_⟩⟩
        have v23 := v2.trans v3
        have v13 := v1.trans v23
        have p3 := p1.step s v1 v23
        split at e
        · rename_i xs e4
          cases e
          obtain ⟨p, ws, rfl, h1, h2⟩ := (view_of v3.stt p3 e4).list v3.stt.gh
          refine .inl ⟨p, ws, rfl, h1, fun p' n => ?_⟩
          exact q _ G3 _ (v13.trans (Ev.newL v3.stt n)) (RepR.lift (r := .fr _) v13 ⟨p', rfl, n, v3.stt.fresh0 n, _, upd_same, cut_dpa h2 l h⟩)
        · rename_i xs e4
          cases e
          have w := view_of v3.stt p3 e4
          rcases w with w | ⟨_, _, _, z, _⟩
          · cases id w with
            | @tup a vs _ a1 a2 =>
              refine .inr (.inl ⟨a, vs, rfl, SqT.mono v3.stt.gh a1, fun hz => ?_, fun hz p' n => ?_⟩)
              · have ew : cutD xs l h = xs := by
                  unfold cutD
                  rw [← DpAll.length a2, hz.1, hz.2, List.drop_zero, Nat.sub_zero, DpAll.length a2]
                  exact List.take_length
                rw [ew] at q
                exact q _ G3 H3 v13 w
              · have v4 := Ev.newT (o := .tup (cutV vs l h)) v3.stt n
                exact q _ _ _ (v13.trans v4) (.tup (SqT.of upd_same) (DpAll.mono (Sub.upd (v3.stt.fresh0 n)) (cut_dpa a2 l h)))
          · cases z
        · rename_i z e4
          by_cases hl : z.length ≤ LIM
          · rw [if_pos hl] at e
            cases e
            obtain rfl := (view_of v3.stt p3 e4).str
            exact .inr (.inr ⟨z, rfl, lim_le hl, q _ G3 H3 v13 (.str _)⟩)
          · rw [if_neg hl] at e; cases e
        · cases e
      · cases e
    · cases e
  · cases e
theorem de_sl {lo hi : Option Expr} {flo fhi : Option DEx} {p2 pos : Pos} (he : DE X e f) (hl : DP X lo flo) (hh : DP X hi fhi) : DE X (.Subscript e (.Slice lo hi none p2) pos) (eSl f flo fhi) :=
  PE.mono (pe_slice sl_all he hl hh) fun _ _ _ => le_sl
end
end
end DL
/-! Defs of data, their calls; the law's end. -/
namespace DL
noncomputable section
open PySem PySem.Spec PyProof.Rows L2

def RepF (K : PySem.W.Frag) (G' H H' : Hp) (u : V) : RV → Prop
  | .fz d => Dp K G' u d
  | .fr xs => ∃ p, u = .ref p ∧ H p = none ∧ OwnAt K G' H' p xs
  | .sl _ => False
/-- a def of data -/
def spA (K : PySem.W.Frag) (F : List D → Option RV) : Sp := fun vs H Q _ => ∃ G ds r, Sub G H ∧ DpAll K G vs ds ∧ F ds = some r ∧ ∀ u G' H', Sub G G' → Sub G' H' → Sub H H' → NewG G H G' → RepF K G' H H' u r → Q u H'
/-- a def that changes its first argument, a list -/
def spB (K : PySem.W.Frag) (F : List D → List D → Option (RV × List D)) : Sp := fun vs H Q _ => ∃ G p vs' xs ds r ys, vs = .ref p :: vs' ∧ Sub G H ∧ OwnAt K G H p xs ∧ DpAll K G vs' ds ∧ F xs ds = some (r, ys) ∧
  ∀ u G' H', Sub G G' → Sub G' H' → (∀ a o, H a = some o → a ≠ p → H' a = some o) → NewG G H G' → OwnAt K G' H' p ys → RepF K G' H H' u r → Q u H'
theorem sub_none {H H' : Hp} (h : Sub H H') (a : Addr) (x : H a ≠ none) : H' a ≠ none := by
  cases e : H a with
  | none => exact absurd e x
  | some o => rw [h a o e]; simp
/-! ### calls -/
def eCallA (F : List D → Option RV) (dd : List D) (fs : List DEx) : DEx := fun ρ => match eArgs fs ρ with
  | some (rs, ρ1) => match fzs rs with
    | some ds => match F (ds ++ dd) with
      | some (.fz d) => some (.fz d, ρ1)
      | some (.fr xs) => some (.fr xs, ρ1)
      | _ => none
    | none => none
  | none => none
theorem le_callA {K : PySem.W.Frag} {F : List D → Option RV} {dd : List D} {dvs : List V} {fs : List DEx} (hdd : ∀ G, DpAll K G dvs dd) {σ : L2.St} {H : Hp} {Q : VK} (h : liftE K (eCallA F dd fs) σ H Q) : tCall (spA K F) dvs NoX (liftA K (eArgs fs)) σ H Q := by
  obtain ⟨C, G, ρ, s, r', ρ', e, q⟩ := h
  unfold eCallA at e
  split at e
  · rename_i rs ρ1 e1
    split at e
    · rename_i ds e2
      split at e
      · rename_i d e3
        cases e
        refine use_A s e1 fun us G1 H1 v1 p1 => ⟨G1, ds ++ dd, .fz d, v1.stt.gh, DpAll.append (dps_of p1 e2) (hdd G1), e3, fun u G2 H2 a b c n r => ?_⟩
        exact q u G2 H2 (v1.trans (Ev.more v1.stt b a (fun p x y => n p x y) c)) r
      · rename_i xs e3
        cases e
        refine use_A s e1 fun us G1 H1 v1 p1 => ⟨G1, ds ++ dd, .fr xs, v1.stt.gh, DpAll.append (dps_of p1 e2) (hdd G1), e3, fun u G2 H2 a b c n r => ?_⟩
        exact q u G2 H2 (v1.trans (Ev.more v1.stt b a (fun p x y => n p x y) c)) (RepR.lift (r := .fr xs) v1 r)
      · cases e
    · cases e
  · cases e
/-- .. some arguments are lists that may be changed later: what comes back is flat -/
def flatR : RV → Bool
  | .fz d => flatD d
  | .fr xs => xs.all flatD
  | .sl _ => false
theorem flat_any {K : PySem.W.Frag} {G G' : Hp} {u : V} {d : D} (h : Dp K G u d) (f : flatD d = true) : Dp K G' u d := by
  cases h with
  | non => exact .non
  | bl b => exact .bl b
  | int i => exact .int i
  | str x => exact .str x
  | lst _ _ => cases f
  | tup _ _ => cases f
  | dct _ _ _ => cases f
theorem flat_all {K : PySem.W.Frag} {G G' : Hp} : ∀ {us : List V} {ds : List D}, DpAll K G us ds → ds.all flatD = true → DpAll K G' us ds
  | _, _, .nil, _ => .nil
  | _, _, .cons h t, f => by
    rw [List.all_cons, Bool.and_eq_true] at f
    exact .cons (flat_any h f.1) (flat_all t f.2)
def eCallV (F : List D → Option RV) (dd : List D) (fs : List DEx) : DEx := fun ρ => match eArgs fs ρ with
  | some (rs, ρ1) => match derefs ρ1 rs with
    | some ds => match F (ds ++ dd) with
      | some r => if flatR r = true then some (r, ρ1) else none
      | _ => none
    | none => none
  | none => none
theorem Views.dpa {K : PySem.W.Frag} {G H : Hp} (gh : Sub G H) : ∀ {us : List V} {ds : List D}, Views K G H us ds → DpAll K H us ds
  | _, _, .nil => .nil
  | _, _, .cons h t => .cons (h.dp gh) (Views.dpa gh t)
theorem le_callV {K : PySem.W.Frag} {F : List D → Option RV} {dd : List D} {dvs : List V} {fs : List DEx} (hdd : ∀ G, DpAll K G dvs dd) {σ : L2.St} {H : Hp} {Q : VK} (h : liftE K (eCallV F dd fs) σ H Q) : tCall (spA K F) dvs NoX (liftA K (eArgs fs)) σ H Q := by
  obtain ⟨C, G, ρ, s, r', ρ', e, q⟩ := h
  unfold eCallV at e
  split at e
  · rename_i rs ρ1 e1
    split at e
    · rename_i ds e2
      split at e
      · rename_i r e3
        by_cases hf : flatR r = true
        · rw [if_pos hf] at e
          cases e
          refine use_A s e1 fun us G1 H1 v1 p1 => ⟨H1, ds ++ dd, r', Sub.refl H1, DpAll.append (Views.dpa v1.stt.gh (views_of v1.stt p1 e2)) (hdd H1), e3, fun u G2 H2 a b c n k => ?_⟩
          have v2 : Ev K C σ ρ' G1 H1 ρ' G1 H2 := Ev.more v1.stt (v1.stt.gh.trans c) (Sub.refl G1) (fun _ _ h => h) c
          refine q u G1 H2 (v1.trans v2) ?_
          cases r' with
          | fz d => exact flat_any k hf
          | sl _ => cases hf
          | fr xs =>
            obtain ⟨p, e, np, g, vs, hp, hd⟩ := k
            exact RepR.lift (r := .fr xs) v1 ⟨p, e, np, v1.stt.fresh0 np, vs, hp, flat_all hd hf⟩
        · rw [if_neg hf] at e; cases e
      · cases e
    · cases e
  · cases e
/-- a def that changes its first argument -/
def eCallB (F : List D → List D → Option (RV × List D)) (fs : List DEx) : DEx := fun ρ => match eArgs fs ρ with
  | some (.sl i :: rs, ρ1) => match fzs rs with
    | some ds => match ρ1[i]? with
      | some c => match contL c with
        | some xs => match F xs ds with
          | some (.fz d, ys) => some (.fz d, ρ1.set i (setC ys c))
          | some (.fr zs, ys) => some (.fr zs, ρ1.set i (setC ys c))
          | _ => none
        | none => none
      | none => none
    | none => none
  | some (.fr xs :: rs, ρ1) => match fzs rs with
    | some ds => match F xs ds with
      | some (.fz d, _) => some (.fz d, ρ1)
      | some (.fr zs, _) => some (.fr zs, ρ1)
      | _ => none
    | none => none
  | _ => none
section
variable {K : PySem.W.Frag} {C : EC} {σ : L2.St} {ρ : Env} {G H G' H' : Hp}
theorem back_at {p : Addr} {vs ws : List V} (hp : H p = some (.lst vs)) (hk : ∀ a o, H a = some o → a ≠ p → H' a = some o) (hp' : H' p = some (.lst ws)) : Sub H (upd H' p (.lst vs)) ∧ upd (upd H' p (.lst vs)) p (.lst ws) = H' := by
  refine ⟨fun a o e => ?_, ?_⟩
  · by_cases ha : a = p
    · subst ha; rw [upd_same, ← hp]; exact e
    · rw [upd_ne ha]; exact hk a o e ha
  · rw [upd_upd]
    funext b
    by_cases hb : b = p
    · subst hb; rw [upd_same, hp']
    · rw [upd_ne hb]
theorem Ev.callB (s : Stt K C G H σ ρ) {i : Nat} {c : Cell} {p : Addr} {ys : List D} (e : ρ[i]? = some c) (hc : (contL c).isSome = true) (ep : σ[i]? = some (some (.ref p))) (g : Sub G G') (gh : Sub G' H') (hk : ∀ a o, H a = some o → a ≠ p → H' a = some o) (n : NewG G H G') (ow : OwnAt K G' H' p ys) :
    Ev K C σ ρ G H (ρ.set i (setC ys c)) G' H' := by
  obtain ⟨xs, hx⟩ := Option.isSome_iff_exists.mp hc
  obtain ⟨p', vs, ep', gp, hp, hd⟩ := s.at e hx
  rw [ep] at ep'; cases ep'
  obtain ⟨g', ws, hp', hw⟩ := ow
  obtain ⟨k1, k2⟩ := back_at hp hk hp'
  have v1 : Ev K C σ ρ G H ρ G' (upd H' p (.lst vs)) := Ev.more s (fun a o z => by
    rw [upd_ne (fun w => by rw [w, g'] at z; cases z)]; exact gh a o z) g (fun a x y => n a x y) k1
  have v2 := Ev.write v1.stt e hc ep hw
  rw [k2] at v2
  exact v1.trans v2
end
theorem le_callB {K : PySem.W.Frag} {F : List D → List D → Option (RV × List D)} {fs : List DEx} {σ : L2.St} {H : Hp} {Q : VK} (h : liftE K (eCallB F fs) σ H Q) : tCall (spB K F) [] NoX (liftA K (eArgs fs)) σ H Q := by
  obtain ⟨C, G, ρ, s, r', ρ', e, q⟩ := h
  unfold eCallB at e
  split at e
  · rename_i i rs ρ1 e1
    split at e
    · rename_i ds e2
      split at e
      · rename_i c e3
        split at e
        · rename_i xs e4
          have main : ∀ r ys, F xs ds = some (r, ys) → r' = r → ρ' = ρ1.set i (setC ys c) → (∀ j, r ≠ .sl j) → tCall (spB K F) [] NoX (liftA K (eArgs fs)) σ H Q := fun r ys e5 er ee nsl => by
            subst er ee
            refine use_A s e1 fun us G1 H1 v1 p1 => ?_
            match us, p1 with
            | u0 :: us, ⟨⟨p, c', h1, h2, h3, h4⟩, pr⟩ =>
              subst h1
              obtain ⟨p', vs, ep', gp, hp, hd⟩ := v1.stt.at e3 e4
              rw [h2] at ep'; cases ep'
              have hds := dps_of pr e2
              refine ⟨G1, p, us, xs, ds, r', ys, by rw [List.append_nil], v1.stt.gh, ⟨gp, vs, hp, hd⟩, hds, e5, fun u G2 H2 a b k n ow r => ?_⟩
              have v2 := Ev.callB v1.stt e3 (by rw [e4]; rfl) h2 a b k n ow
              refine q u G2 H2 (v1.trans v2) ?_
              cases r' with
              | fz d => exact r
              | fr zs => exact RepR.lift (r := .fr zs) v1 r
              | sl j => exact absurd rfl (nsl j)
          split at e
          · rename_i d ys e5
            cases e
            exact main _ _ e5 rfl rfl (fun _ z => nomatch z)
          · rename_i zs ys e5
            cases e
            exact main _ _ e5 rfl rfl (fun _ z => nomatch z)
          · cases e
        · cases e
      · cases e
    · cases e
  · rename_i xs rs ρ1 e1
    split at e
    · rename_i ds e2
      have main : ∀ r ys, F xs ds = some (r, ys) → r' = r → ρ' = ρ1 → (∀ j, r ≠ .sl j) → tCall (spB K F) [] NoX (liftA K (eArgs fs)) σ H Q := fun r ys e5 er ee nsl => by
        subst er ee
        refine use_A s e1 fun us G1 H1 v1 p1 => ?_
        match us, p1 with
        | u0 :: us, ⟨⟨p, h1, np, gp, vs, hp, hd⟩, pr⟩ =>
          subst h1
          have hds := dps_of pr e2
          obtain ⟨n0, no⟩ := frn s v1 np
          refine ⟨G1, p, us, xs, ds, r', ys, by rw [List.append_nil], v1.stt.gh, ⟨gp, vs, hp, hd⟩, hds, e5, fun u G2 H2 a b k n ow r => ?_⟩
          obtain ⟨g', ws, hp', hw⟩ := ow
          obtain ⟨k1, k2⟩ := back_at hp k hp'
          have v2 : Ev K C σ ρ' G1 H1 ρ' G2 (upd H2 p (.lst vs)) := Ev.more v1.stt (fun x o z => by
            rw [upd_ne (fun w => by rw [w, g'] at z; cases z)]; exact b x o z) a (fun x y z => n x y z) k1
          have st := Stt.side (o := .lst ws) v2.stt g' no n0
          rw [k2] at st
          refine q u G2 H2 ⟨st, v1.sub.trans a, fun x o y z => ?_, v1.shp, fun x y z => n x (v1.keepH x y) (v1.ng x y z), fun x y => ?_⟩ ?_
          · have hx : x ≠ p := fun w => by rw [w, np] at y; cases y
            exact k x o (v1.frm x o y z) hx
          · by_cases hx : x = p
            · rw [hx, hp']; simp
            · cases ex : H1 x with
              | none => exact absurd ex (v1.keepH x y)
              | some o => rw [k x o ex hx]; simp
          · cases r' with
            | fz d => exact r
            | fr zs => exact RepR.lift (r := .fr zs) v1 r
            | sl j => exact absurd rfl (nsl j)
      split at e
      · rename_i d ys e5
        cases e
        exact main _ _ e5 rfl rfl (fun _ z => nomatch z)
      · rename_i zs ys e5
        cases e
        exact main _ _ e5 rfl rfl (fun _ z => nomatch z)
      · cases e
    · cases e
  · cases e
section
variable {X : Cx} {k : Nat} {f : Addr} {fd : FuncData} {ps ks : List Str} {x : Str} {p pos : Pos} {e : Expr} {es : List Expr} {fs : List DEx} {F : List D → Option RV} {F2 : List D → List D → Option (RV × List D)} {dd : List D} {dvs : List V} {dus : List Value}
theorem de_callA (Fn : FnG X.prog X.w X.K X.mg X.base k f fd ps (spA X.K F)) (hgd : X.A.guards = some []) (hr : Room k X.A) (hg : Gl X x) (hm : X.mg x = some (.ref f)) (hk : PySem.W.keepIn X.K (.ref f) = true) (hb : Binds X.K fd ps dus) (hd : Vals dvs dus) (hdd : ∀ G, DpAll X.K G dvs dd)
    (ha : DA X (e :: es) fs) (hdb : (x == ("__debug__" : Str)) = false := by decide) (he : starEach (e :: es) X.env = (false, eval e X.env) :: starEach es X.env := by rfl) (hpl : (backTo pos (starEach es X.env)).any (·.1) = false := by rfl) :
    DE X (.Call (.Name x p) (e :: es) [] pos) (eCallA F dd fs) := PE.mono (pe_callG Fn hgd hr hg hm hk hb hd ha hdb he hpl) fun _ _ _ => le_callA hdd
theorem de_callV (Fn : FnG X.prog X.w X.K X.mg X.base k f fd ps (spA X.K F)) (hgd : X.A.guards = some []) (hr : Room k X.A) (hg : Gl X x) (hm : X.mg x = some (.ref f)) (hk : PySem.W.keepIn X.K (.ref f) = true) (hb : Binds X.K fd ps dus) (hd : Vals dvs dus) (hdd : ∀ G, DpAll X.K G dvs dd)
    (ha : DA X (e :: es) fs) (hdb : (x == ("__debug__" : Str)) = false := by decide) (he : starEach (e :: es) X.env = (false, eval e X.env) :: starEach es X.env := by rfl) (hpl : (backTo pos (starEach es X.env)).any (·.1) = false := by rfl) :
    DE X (.Call (.Name x p) (e :: es) [] pos) (eCallV F dd fs) := PE.mono (pe_callG Fn hgd hr hg hm hk hb hd ha hdb he hpl) fun _ _ _ => le_callV hdd
theorem de_callB (Fn : FnG X.prog X.w X.K X.mg X.base k f fd ps (spB X.K F2)) (hgd : X.A.guards = some []) (hr : Room k X.A) (hg : Gl X x) (hm : X.mg x = some (.ref f)) (hk : PySem.W.keepIn X.K (.ref f) = true) (hb : Binds X.K fd ps [])
    (ha : DA X (e :: es) fs) (hdb : (x == ("__debug__" : Str)) = false := by decide) (he : starEach (e :: es) X.env = (false, eval e X.env) :: starEach es X.env := by rfl) (hpl : (backTo pos (starEach es X.env)).any (·.1) = false := by rfl) :
    DE X (.Call (.Name x p) (e :: es) [] pos) (eCallB F2 fs) := PE.mono (pe_callG Fn hgd hr hg hm hk hb .nil ha hdb he hpl) fun _ _ _ => le_callB
theorem de_call0 (Fn : FnG X.prog X.w X.K X.mg X.base k f fd ps (spA X.K F)) (hgd : X.A.guards = some []) (hr : Room k X.A) (hg : Gl X x) (hm : X.mg x = some (.ref f)) (hk : PySem.W.keepIn X.K (.ref f) = true) (hb : Binds X.K fd ps dus) (hd : Vals dvs dus) (hdd : ∀ G, DpAll X.K G dvs dd)
    (hdb : (x == ("__debug__" : Str)) = false := by decide) : DE X (.Call (.Name x p) [] [] pos) (eCallA F dd []) := PE.mono (pe_call0G Fn hgd hr hg hm hk hb hd hdb) fun σ H Q h => by
  obtain ⟨C, G, ρ, s, r', ρ', e, q⟩ := h
  unfold eCallA at e
  simp only [eArgs, fzs, List.nil_append] at e
  split at e
  · rename_i d e3
    cases e
    exact ⟨G, dd, .fz d, s.gh, hdd G, e3, fun u G2 H2 a b c n r => q u G2 H2 (Ev.more s b a (fun p x y => n p x y) c) r⟩
  · rename_i xs e3
    cases e
    exact ⟨G, dd, .fr xs, s.gh, hdd G, e3, fun u G2 H2 a b c n r => q u G2 H2 (Ev.more s b a (fun p x y => n p x y) c) r⟩
  · cases e
/-! calls by keywords: the values in the written sequence, then put in the parameters' -/
def DK (X : Cx) (kws : List Keyword) (fs : List DEx) : Prop := PK X kws (liftA X.K (eArgs fs))
theorem PK.mono {kws : List Keyword} {t t' : TA} (h : PK X kws t) (w : ∀ σ H Q, t' σ H Q → t σ H Q) : PK X kws t' :=
  ⟨fun pos pins s σ H Q I q => h.run pos pins s σ H Q I (w σ H Q q)⟩
theorem dk_nil : DK X [] [] := PK.mono pk_nil fun σ H Q h => by
  obtain ⟨C, G, ρ, s, rs, ρ', e, q⟩ := h
  cases e
  exact q [] G H (Ev.refl s) trivial
theorem dk_cons {nm : Option Str} {kpos : Pos} {kws : List Keyword} {g : DEx} (ha : DE X e g) (hr : DK X kws fs) : DK X (⟨nm, e, kpos⟩ :: kws) (g :: fs) := PK.mono (pk_cons ha hr) fun σ H Q h => by
  obtain ⟨C, G, ρ, s, rs, ρ', e, q⟩ := h
  unfold eArgs at e
  cases hf : g ρ with
  | none => rw [hf] at e; cases e
  | some z1 =>
    obtain ⟨r1, ρ1⟩ := z1
    rw [hf] at e
    simp only at e
    cases hg : eArgs fs ρ1 with
    | none => rw [hg] at e; cases e
    | some z2 =>
      obtain ⟨t, ρ2⟩ := z2
      rw [hg] at e
      cases e
      refine use_E s hf fun x G1 H1 v1 p1 => use_A v1.stt hg fun us G2 H2 v2 p2 => ?_
      exact q (x :: us) G2 H2 (v1.trans v2) ⟨p1.step s v1 v2, RepRs.lift v1 p2⟩
theorem eArgs_app : ∀ (fs gs : List DEx) (ρ : Env), eArgs (fs ++ gs) ρ = match eArgs fs ρ with
    | some (rs, ρ1) => match eArgs gs ρ1 with
      | some (ts, ρ2) => some (rs ++ ts, ρ2)
      | none => none
    | none => none
  | [], gs, ρ => by
    simp only [List.nil_append, eArgs]
    cases eArgs gs ρ with
    | none => rfl
    | some z => rfl
  | f :: fs, gs, ρ => by
    simp only [List.cons_append, eArgs]
    cases f ρ with
    | none => rfl
    | some z =>
      obtain ⟨r, ρ1⟩ := z
      simp only
      rw [eArgs_app fs gs ρ1]
      cases eArgs fs ρ1 with
      | none => rfl
      | some z =>
        obtain ⟨rs, ρ2⟩ := z
        simp only
        cases eArgs gs ρ2 with
        | none => rfl
        | some z => rfl
theorem RepRs.append {K : PySem.W.Frag} {G' H H' : Hp} {σ : L2.St} {ρ' : Env} : ∀ {us vs : List V} {rs ts : List RV}, RepRs K G' H H' σ ρ' us rs → RepRs K G' H H' σ ρ' vs ts → RepRs K G' H H' σ ρ' (us ++ vs) (rs ++ ts)
  | [], _, [], _, _, k => k
  | _ :: _, _, _ :: _, _, ⟨h, t⟩, k => ⟨h, RepRs.append t k⟩
  | [], _, _ :: _, _, h, _ => h.elim
  | _ :: _, _, [], _, h, _ => h.elim
theorem RepRs.step {K : PySem.W.Frag} {C : EC} {σ : L2.St} {ρ ρ1 ρ2 : Env} {G H G1 H1 G2 H2 : Hp} (s : Stt K C G H σ ρ) (a : Ev K C σ ρ G H ρ1 G1 H1) (b : Ev K C σ ρ1 G1 H1 ρ2 G2 H2) : ∀ {us : List V} {rs : List RV}, RepRs K G1 H H1 σ ρ1 us rs → RepRs K G2 H H2 σ ρ2 us rs
  | [], [], _ => trivial
  | _ :: _, _ :: _, ⟨h, t⟩ => ⟨h.step s a b, RepRs.step s a b t⟩
theorem RepRs.length {K : PySem.W.Frag} {G' H H' : Hp} {σ : L2.St} {ρ' : Env} : ∀ {us : List V} {rs : List RV}, RepRs K G' H H' σ ρ' us rs → us.length = rs.length
  | [], [], _ => rfl
  | _ :: _, _ :: _, ⟨_, t⟩ => congrArg (· + 1) (RepRs.length t)
/-- a permutation of the values -/
def eCallK (F : List D → Option RV) (pm : List D → List D) (fs : List DEx) : DEx := fun ρ => match eArgs fs ρ with
  | some (rs, ρ1) => match fzs rs with
    | some ds => match F (pm ds) with
      | some (.fz d) => some (.fz d, ρ1)
      | some (.fr xs) => some (.fr xs, ρ1)
      | _ => none
    | none => none
  | none => none
theorem le_callK {K : PySem.W.Frag} {n : Nat} {gV : List V → List V} {pm : List D → List D} {fs gs : List DEx} (hn : fs.length = n) (hpm : ∀ G us ds, us.length = n + gs.length → DpAll K G us ds → DpAll K G (gV us) (pm ds)) {σ : L2.St} {H : Hp} {Q : VK} (h : liftE K (eCallK F pm (fs ++ gs)) σ H Q) :
    tCallKG (spA K F) n gs.length gV (liftA K (eArgs fs)) (liftA K (eArgs gs)) σ H Q := by
  obtain ⟨C, G, ρ, s, r', ρ', e, q⟩ := h
  unfold eCallK at e
  rw [eArgs_app] at e
  cases h1 : eArgs fs ρ with
  | none => rw [h1] at e; cases e
  | some z1 =>
    obtain ⟨rs, ρ1⟩ := z1
    rw [h1] at e
    simp only at e
    cases h2 : eArgs gs ρ1 with
    | none => rw [h2] at e; cases e
    | some z2 =>
      obtain ⟨ts, ρ2⟩ := z2
      rw [h2] at e
      simp only at e
      split at e
      · rename_i ds e2
        refine use_A s h1 fun us G1 H1 v1 p1 => use_A v1.stt h2 fun ws G2 H2 v2 p2 => ?_
        have l1 : us.length = n := by rw [p1.length, eArgs_len h1, hn]
        have l2 : ws.length = gs.length := by rw [p2.length, eArgs_len h2]
        have pa := RepRs.append (RepRs.step s v1 v2 p1) (RepRs.lift v1 p2)
        have hds := dps_of pa e2
        have hpd := hpm G2 (us ++ ws) ds (by rw [List.length_append, l1, l2]) hds
        have v12 := v1.trans v2
        refine ⟨l1, l2, ?_⟩
        split at e
        · rename_i d e3
          cases e
          exact ⟨G2, pm ds, .fz d, v12.stt.gh, hpd, e3, fun u G3 H3 a b c m r => q u G3 H3 (v12.trans (Ev.more v12.stt b a (fun p x y => m p x y) c)) r⟩
        · rename_i xs e3
          cases e
          exact ⟨G2, pm ds, .fr xs, v12.stt.gh, hpd, e3, fun u G3 H3 a b c m r => q u G3 H3 (v12.trans (Ev.more v12.stt b a (fun p x y => m p x y) c)) (RepR.lift (r := .fr xs) v12 r)⟩
        · cases e
      · cases e
theorem de_callK {n : Nat} {kws : List Keyword} {gs : List DEx} {g : List Value → List Value} {gV : List V → List V} {pm : List D → List D} (Fn : FnG X.prog X.w X.K X.mg X.base k f fd ps (spA X.K F)) (hgd : X.A.guards = some []) (hr : Room k X.A) (hg : Gl X x) (hm : X.mg x = some (.ref f)) (hk : PySem.W.keepIn X.K (.ref f) = true) (hb : KBd X.K fd ps n ks g gV)
    (ha : DA X (e :: es) fs) (hkw : DK X kws gs) (hn : fs.length = n) (hl : gs.length = ks.length) (hpm : ∀ G us ds, us.length = n + gs.length → DpAll X.K G us ds → DpAll X.K G (gV us) (pm ds))
    (hall : (backToKw pos (keywordEach kws X.env)).all (·.1.isSome) = true := by rfl) (hks : (backToKw pos (keywordEach kws X.env)).filterMap (·.1) = ks := by rfl)
    (hdb : (x == ("__debug__" : Str)) = false := by decide) (he : starEach (e :: es) X.env = (false, eval e X.env) :: starEach es X.env := by rfl)
    (hpl : ((backTo pos (starEach (e :: es) X.env)).any (·.1) || (backToKw pos (keywordEach kws X.env)).any (·.1.isNone)) = false := by rfl) :
    DE X (.Call (.Name x p) (e :: es) kws pos) (eCallK F pm (fs ++ gs)) := PE.mono (pe_callKG Fn hgd hr hg hm hk hb ha hkw hall hks hdb he hpl) fun _ _ _ h => hl ▸ le_callK hn hpm h
theorem de_callK0 {kws : List Keyword} {gs : List DEx} {g : List Value → List Value} {gV : List V → List V} {pm : List D → List D} (Fn : FnG X.prog X.w X.K X.mg X.base k f fd ps (spA X.K F)) (hgd : X.A.guards = some []) (hr : Room k X.A) (hg : Gl X x) (hm : X.mg x = some (.ref f)) (hk : PySem.W.keepIn X.K (.ref f) = true) (hb : KBd X.K fd ps 0 ks g gV)
    (hkw : DK X kws gs) (hl : gs.length = ks.length) (hpm : ∀ G us ds, us.length = 0 + gs.length → DpAll X.K G us ds → DpAll X.K G (gV us) (pm ds))
    (hall : (backToKw pos (keywordEach kws X.env)).all (·.1.isSome) = true := by rfl) (hks : (backToKw pos (keywordEach kws X.env)).filterMap (·.1) = ks := by rfl)
    (hdb : (x == ("__debug__" : Str)) = false := by decide)
    (hpl : ((backTo pos (starEach [] X.env)).any (·.1) || (backToKw pos (keywordEach kws X.env)).any (·.1.isNone)) = false := by rfl) :
    DE X (.Call (.Name x p) [] kws pos) (eCallK F pm gs) := PE.mono (pe_callK0 Fn hgd hr hg hm hk hb hkw hall hks hdb hpl) fun σ H Q h => by
  have h2 := le_callK (fs := []) (n := 0) rfl hpm h
  rw [hl] at h2
  obtain ⟨C, G, ρ, s, rs, ρ', e, q⟩ := h2
  cases e
  exact q [] G H (Ev.refl s) trivial
end
/-! ### a def of data, by its body -/
def finF : Out → Option RV
  | .rt (.fz d) _ => some (.fz d)
  | .rt (.fr xs) _ => some (.fr xs)
  | .rt (.sl i) ρ => match ρ[i]? with
    | some (.own xs) => some (.fr xs)
    | _ => none
  | .nx _ => some (.fz .none)
  | _ => none
def mkA (np n : Nat) (g : DSt) (ds : List D) : Option RV := if ds.length = np then finF (g (ds.map Cell.v ++ List.replicate (n - np) Cell.un)) else none
def outB : Out → Option (List D)
  | .rt _ ρ => match ρ[(0 : Nat)]? with
    | some (.par xs) => some xs
    | _ => none
  | .nx ρ => match ρ[(0 : Nat)]? with
    | some (.par xs) => some xs
    | _ => none
  | _ => none
def mkB (np n : Nat) (g : DSt) (xs ds : List D) : Option (RV × List D) := if ds.length + 1 = np then
    match g (Cell.par xs :: (ds.map Cell.v ++ List.replicate (n - np) Cell.un)) with
    | o => match finF o, outB o with
      | some r, some ys => some (r, ys)
      | _, _ => none
  else none
theorem start_at {N : List Str} {vs : List V} {i : Nat} (h : vs.length ≤ N.length) (hi : i < N.length) : (L2.start N vs)[i]? = if i < vs.length then (vs[i]?).map some else some none := by
  unfold L2.start
  by_cases hv : i < vs.length
  · rw [if_pos hv, List.getElem?_append_left (by simpa using hv), List.getElem?_map]
  · rw [if_neg hv, List.getElem?_append_right (by simpa using hv), List.getElem?_replicate, if_pos (by simp; omega)]
theorem start_len {N : List Str} {vs : List V} (h : vs.length ≤ N.length) : (L2.start N vs).length = N.length := by
  unfold L2.start
  simp
  omega
theorem sttA {K : PySem.W.Frag} {G H : Hp} {N : List Str} {vs : List V} {ds : List D} (gh : Sub G H) (hd : DpAll K G vs ds) (hl : vs.length ≤ N.length) : Stt K ⟨H, G, []⟩ G H (L2.start N vs) (ds.map Cell.v ++ List.replicate (N.length - ds.length) Cell.un) := by
  have l := DpAll.length hd
  have at_ : ∀ {i : Nat} {c : Cell}, (ds.map Cell.v ++ List.replicate (N.length - ds.length) Cell.un)[i]? = some c → (∃ d, ds[i]? = some d ∧ c = .v d) ∨ (ds.length ≤ i ∧ i < N.length ∧ c = .un) := fun {i c} e => by
    by_cases hi : i < ds.length
    · rw [List.getElem?_append_left (by simpa using hi), List.getElem?_map, List.getElem?_eq_getElem hi] at e
      cases e
      exact .inl ⟨_, List.getElem?_eq_getElem hi, rfl⟩
    · rw [List.getElem?_append_right (by simpa using hi), List.getElem?_replicate] at e
      split at e
      · rename_i hlt
        cases e
        simp at hlt
        exact .inr ⟨by omega, by omega, rfl⟩
      · cases e
  refine ⟨gh, Sub.refl G, fun a o e _ => e, by rw [start_len hl, List.length_append, List.length_map, List.length_replicate]; omega, fun i c e => ?_, fun i j c e p h1 h2 k1 k2 _ _ => ?_, fun q hq => by simp at hq, fun a h1 h2 => h2⟩
  · rcases at_ e with ⟨d, h1, rfl⟩ | ⟨h1, h2, rfl⟩
    · obtain ⟨u, e2, hu⟩ := DpAll.get hd h1
      have hi : i < vs.length := (List.getElem?_eq_some_iff.mp e2).1
      exact ⟨some u, by rw [start_at hl (by omega), if_pos hi, e2]; rfl, u, rfl, hu⟩
    · exact ⟨none, by rw [start_at hl h2, if_neg (by omega)], trivial⟩
  · rcases at_ h1 with ⟨d, _, rfl⟩ | ⟨_, _, rfl⟩ <;> cases k1
theorem sttB {K : PySem.W.Frag} {G H : Hp} {N : List Str} {p : Addr} {vs : List V} {xs ds : List D} (gh : Sub G H) (ow : OwnAt K G H p xs) (hd : DpAll K G vs ds) (hl : vs.length + 1 ≤ N.length) : Stt K ⟨H, G, [(0, p)]⟩ G H (L2.start N (.ref p :: vs)) (Cell.par xs :: (ds.map Cell.v ++ List.replicate (N.length - (ds.length + 1)) Cell.un)) := by
  have l := DpAll.length hd
  have hl' : (V.ref p :: vs).length ≤ N.length := by simpa using hl
  have at_ : ∀ {i : Nat} {c : Cell}, (Cell.par xs :: (ds.map Cell.v ++ List.replicate (N.length - (ds.length + 1)) Cell.un))[i]? = some c → (i = 0 ∧ c = .par xs) ∨ (∃ j d, i = j + 1 ∧ ds[j]? = some d ∧ c = .v d) ∨ (ds.length + 1 ≤ i ∧ i < N.length ∧ c = .un) := fun {i c} e => by
    cases i with
    | zero => simp at e; exact .inl ⟨rfl, e.symm⟩
    | succ i =>
      rw [List.getElem?_cons_succ] at e
      by_cases hi : i < ds.length
      · rw [List.getElem?_append_left (by simpa using hi), List.getElem?_map, List.getElem?_eq_getElem hi] at e
        cases e
        exact .inr (.inl ⟨i, _, rfl, List.getElem?_eq_getElem hi, rfl⟩)
      · rw [List.getElem?_append_right (by simpa using hi), List.getElem?_replicate] at e
        split at e
        · rename_i hlt
          cases e
          simp at hlt
          exact .inr (.inr ⟨by omega, by omega, rfl⟩)
        · cases e
  have z0 : (L2.start N (.ref p :: vs))[0]? = some (some (.ref p)) := by rw [start_at hl' (by omega), if_pos (by simp)]; rfl
  refine ⟨gh, Sub.refl G, fun a o e _ => e, by rw [start_len hl', List.length_cons, List.length_append, List.length_map, List.length_replicate]; omega, fun i c e => ?_, fun i j c e q h1 h2 k1 k2 _ _ => ?_, fun q hq => ?_, fun a h1 h2 => h2⟩
  · rcases at_ e with ⟨rfl, rfl⟩ | ⟨j, d, rfl, h1, rfl⟩ | ⟨h1, h2, rfl⟩
    · exact ⟨_, z0, p, rfl, ow, by simp⟩
    · obtain ⟨u, e2, hu⟩ := DpAll.get hd h1
      have hi : j < vs.length := (List.getElem?_eq_some_iff.mp e2).1
      exact ⟨some u, by rw [start_at hl' (by omega), if_pos (by simpa using hi), List.getElem?_cons_succ, e2]; rfl, u, rfl, hu⟩
    · exact ⟨none, by rw [start_at hl' h2, if_neg (by simp; omega)], trivial⟩
  · have f : ∀ {i : Nat} {c : Cell}, (Cell.par xs :: (ds.map Cell.v ++ List.replicate (N.length - (ds.length + 1)) Cell.un))[i]? = some c → (cont c).isSome = true → i = 0 := fun {i c} e hc => by
      rcases at_ e with ⟨rfl, rfl⟩ | ⟨j, d, rfl, h1, rfl⟩ | ⟨h1, h2, rfl⟩
      · rfl
      · cases hc
      · cases hc
    rw [f h1 k1, f h2 k2]
  · simp at hq
    subst hq
    exact ⟨⟨xs, rfl⟩, z0⟩
theorem repF_of {K : PySem.W.Frag} {C : EC} {G H : Hp} {σ : L2.St} {ρ : Env} {u : V} {r r' : RV} (s : Stt K C G H σ ρ) (h : RepT K C G H σ ρ u r) (e : finF (.rt r ρ) = some r') : RepF K G C.H0 H u r' := by
  cases r with
  | fz d => cases e; exact h
  | fr xs => cases e; exact h
  | sl i =>
    obtain ⟨p, xs, e1, e2, e3, e4⟩ := h
    simp only [finF, e4] at e
    cases e
    exact ⟨p, e1, e2, e3⟩
section
variable {P : Program} {w : World} {K : PySem.W.Frag} {mg : Str → Option Value} {B : Heap} {k : Nat} {x qual : Str} {st : Stmt} {f : Addr} {fd : FuncData} {N ps : List Str} {g : DSt}
/-- what a def's body is -/
def Body (P : Program) (w : World) (K : PySem.W.Frag) (mg : Str → Option Value) (B : Heap) (k : Nat) (qual : Str) (st : Stmt) (f : Addr) (N : List Str) (g : DSt) : Prop :=
  ∀ (cd : Value) (A : Around) (ou : List PySem.Env) (s : Shared) (H : Hp), A.guards = some [] → Room k (A.deeper (envOfC qual (defScope st) s.heap.objs.size f cd)) → DB (cxOf CX0 P w K mg B N qual (defScope st) f cd A ou s H NoX).nox (defBody st) g
theorem fnA (F : Fun K x qual st f fd) (S : FnScope N ps (defScope st)) (hb : Body P w K mg B k qual st f N g) : FnG P w K mg B (k + 1) f fd ps (spA K (mkA ps.length N.length g)) := by
  have hpN : ps.length ≤ N.length := by
    have := congrArg List.length S.pre
    rw [List.length_take] at this
    omega
  refine fnG F S (fun vs H Q E h => ?_) fun cd A ou s H vs Q hgd hr h => ?_
  · obtain ⟨G, ds, r, _, hd, e, _⟩ := h
    unfold mkA at e
    split at e
    · rename_i hl; rw [DpAll.length hd, hl]
    · cases e
  · obtain ⟨G, ds, r, gh, hd, e, q⟩ := h
    unfold mkA at e
    split at e
    · rename_i hl
      have lv : vs.length = ps.length := by rw [DpAll.length hd, hl]
      have s0 := sttA (N := N) gh hd (by rw [lv]; exact hpN)
      rw [hl] at s0
      refine ⟨_, hb cd A ou s H hgd hr, ⟨H, G, []⟩, G, _, s0, ?_⟩
      have done : ∀ {u : V} {σ' : L2.St} {G' H' : Hp} {ρ' : Env}, Stt K ⟨H, G, []⟩ G' H' σ' ρ' → RepF K G' H H' u r → Q u H' := fun {u σ' G' H' ρ'} s' k => q u G' H' s'.g0 s'.gh (fun a o z => s'.ext a o z (fun _ hm => by simp at hm)) s'.ng0 k
      generalize g (ds.map Cell.v ++ List.replicate (N.length - ps.length) Cell.un) = o at e
      cases o with
      | nx ρ1 => cases e; exact fun σ' G' H' s' _ => done s' .non
      | rt r1 ρ1 => exact fun u σ' G' H' s' _ k => done s' (repF_of s' k e)
      | bk _ => cases e
      | ct _ => cases e
      | bad => cases e
    · cases e
theorem fnB (F : Fun K x qual st f fd) (S : FnScope N ps (defScope st)) (hb : Body P w K mg B k qual st f N g) : FnG P w K mg B (k + 1) f fd ps (spB K (mkB ps.length N.length g)) := by
  have hpN : ps.length ≤ N.length := by
    have := congrArg List.length S.pre
    rw [List.length_take] at this
    omega
  refine fnG F S (fun vs H Q E h => ?_) fun cd A ou s H vs Q hgd hr h => ?_
  · obtain ⟨G, p, vs', xs, ds, r, ys, rfl, _, _, hd, e, _⟩ := h
    unfold mkB at e
    split at e
    · rename_i hl; rw [List.length_cons, DpAll.length hd, hl]
    · cases e
  · obtain ⟨G, p, vs', xs, ds, r, ys, rfl, gh, ow, hd, e, q⟩ := h
    unfold mkB at e
    split at e
    · rename_i hl
      have lv : vs'.length + 1 = ps.length := by rw [DpAll.length hd, hl]
      have s0 := sttB (N := N) gh ow hd (by rw [lv]; exact hpN)
      rw [hl] at s0
      refine ⟨_, hb cd A ou s H hgd hr, ⟨H, G, [(0, p)]⟩, G, _, s0, ?_⟩
      have done : ∀ {u : V} {σ' : L2.St} {G' H' : Hp} {ρ' : Env}, Stt K ⟨H, G, [(0, p)]⟩ G' H' σ' ρ' → ρ'[0]? = some (.par ys) → RepF K G' H H' u r → Q u H' := fun {u σ' G' H' ρ'} s' e0 k => by
        obtain ⟨_, z0⟩ := s'.pal (0, p) (by simp)
        obtain ⟨x, e1, p', e2, ow', _⟩ := s'.cell 0 _ e0
        rw [z0] at e1; cases e1; cases e2
        exact q u G' H' s'.g0 s'.gh (fun a o z ne => s'.ext a o z (fun y hy => by simp at hy; rw [hy]; exact Ne.symm ne)) s'.ng0 ow' k
      generalize g (Cell.par xs :: (ds.map Cell.v ++ List.replicate (N.length - ps.length) Cell.un)) = o at e
      simp only at e
      split at e
      · rename_i r1 ys1 e1 e2
        cases e
        cases o with
        | nx ρ1 =>
          cases e1
          simp only [outB] at e2
          split at e2
          · rename_i e0
            cases e2
            exact fun σ' G' H' s' _ => done s' e0 .non
          · cases e2
        | rt r1 ρ1 =>
          simp only [outB] at e2
          split at e2
          · rename_i e0
            cases e2
            exact fun u σ' G' H' s' _ k => done s' e0 (repF_of s' k e1)
          · cases e2
        | bk _ => cases e1
        | ct _ => cases e1
        | bad => cases e1
      · cases e
    · cases e
end
end
end DL
/-! The top's defs; the law's end. -/
namespace DL
noncomputable section
open PySem PySem.Spec PyProof.Rows L2

section
variable {P : Program} {w : World} {K : PySem.W.Frag} {mg : Str → Option Value} {B : Heap} {k : Nat} {x qual : Str} {st : Stmt} {f : Addr} {fd : FuncData} {N ps : List Str} {g : DSt} {dvs : List V}
/-- a def of the text, with its defaults -/
abbrev Dfn (K : PySem.W.Frag) (x : Str) (st : Stmt) (dvs : List V) (f : Addr) (fd : FuncData) : Prop := FunD K x x (defArgs st) (defBody st) (defScope st) dvs [] f fd
/-- as one without defaults, for its body's sake -/
theorem fnG' {sp : Sp} (F : Dfn K x st dvs f fd) (S : FnScope N ps (defScope st))
    (hlen : ∀ vs H Q E, sp vs H Q E → vs.length = ps.length)
    (hb : ∀ (cd : Value) (A : Around) (ou : List PySem.Env) (s : Shared) (H : Hp) (vs : List V) (Q : VK), A.guards = some [] → Room k (A.deeper (envOfC x (defScope st) s.heap.objs.size f cd)) → sp vs H Q NoX →
      ∃ t, PSs (cxOf CX0 P w K mg B N x (defScope st) f cd A ou s H NoX).nox (defBody st) t ∧ t { nx := fun _ H' => Q .non H', rt := Q } (L2.start N vs) H) : FnG P w K mg B (k + 1) f fd ps sp := by
  obtain ⟨oc, od, dV, kV, doc, pm, an, cdv, ct, osl, rfl, lk, hcd, _, _⟩ := F.ex
  refine ⟨hlen, fun A ou s H ar us vs Q hgd hr e0 hbd rv hs => ?_⟩
  have kin : K.In s.heap := e0.mod.kin.keeps fun b o e => (e0.bs b o e).1
  have hkd : ∀ y ∈ ps.zip us, (defScope st).names.lookup y.1 = some .local ∨ ((defScope st).names.lookup y.1 = some .cell ∧ ((cellsFrom (s.heap.objs.size + 1) (defScope st).names []).lookup y.1).isSome = true) := by
    rintro ⟨n, v⟩ hy
    have hm := S.par n (List.of_mem_zip hy).1
    rcases hm with z | z
    · exact Or.inl z
    · exact Or.inr ⟨z, PySem.W.cellsFrom_some _ _ _ (Or.inl z)⟩
  refine codeAny_call_function hr.depth (kin _ _ lk) rfl S.co S.gen rfl (PySem.W.codeRec_of kin hcd) (hbd _ _ _ _ ?_)
  refine wpAny_newFunctionEnv_cells S.kind hkd fun ev hev s1 ic => ?_
  subst hev
  have nol : s.heap.NoLimit := e0.mod.nolimit.keeps fun b o e => (e0.bs b o e).1
  refine ⟨nol.keeps ic.toInCall.keep, codeAny_func ?_⟩
  obtain ⟨t, ht, hq⟩ := hb cdv A ou s H vs Q hgd (hr.deeper _) hs
  have J := inv_start (CX := CX0) (E := NoX) S hr.hd e0 (hlen _ _ _ _ hs) rv ic
  have done : ∀ {σ' : L2.St} {H' : Hp} {v : V} {u : Value} {s' : Shared}, Inv (cxOf CX0 P w K mg B N x (defScope st) f cdv A ou s H NoX) [] σ' H' s' → RelV v u → Q v H' → CE ou P w H s Q u s' := fun {σ' H' v u s'} I r q => ⟨v, H', I.os, I.bare, I.base, I.hok, r, q⟩
  refine wpAny_mono (ht.nox.run [] s1 (L2.start N vs) H _ J hq) (fun fl s' hs' => ?_) fun e s' hs' => hs'
  cases fl with
  | next => obtain ⟨σ', H', I, q⟩ := hs'; exact done (v := V.non) (u := Value.none) I rfl q
  | ret u => obtain ⟨v, σ', H', I, r, q⟩ := hs'; exact done I r q
  | brk => obtain ⟨_, _, _, q⟩ := hs'; exact q.elim
  | cont => obtain ⟨_, _, _, q⟩ := hs'; exact q.elim
/-- its bindings by place -/
theorem dfn_b0 (F : Dfn K x st [] f fd) (h : ∀ (kV doc pm : Value) (an : Option Addr) (cdv ct : Value) (us : List Value), us.length = ps.length → bindArgs (PySem.W.fnOf x x (defArgs st) (defBody st) (defScope st) .none kV doc pm an cdv ct) ⟨us, []⟩ = pure (ps.zip us)) : Binds K fd ps [] := F.bindsN h
/-- .. by keywords -/
theorem dfn_kb (F : Dfn K x st [] f fd) {n : Nat} {ks : List Str} {g : List Value → List Value} {gV : List V → List V}
    (h : ∀ (kV doc pm : Value) (an : Option Addr) (cdv ct : Value) (us ws : List Value), us.length = n → ws.length = ks.length → bindArgs (PySem.W.fnOf x x (defArgs st) (defBody st) (defScope st) .none kV doc pm an cdv ct) ⟨us, ks.zip ws⟩ = pure (ps.zip (g (us ++ ws))))
    (ln : ∀ us : List Value, us.length = n + ks.length → (g us).length = ps.length) (rel : ∀ {vs : List V} {us : List Value}, us.length = n + ks.length → Vals vs us → Vals (gV vs) (g us)) : KBd K fd ps n ks g gV := by
  obtain ⟨oc, od, dV, kV, doc, pm, an, cdv, ct, osl, rfl, lk, hcd, hD, _⟩ := F.ex
  rcases hD with ⟨_, rfl⟩ | ⟨e, _⟩
  · exact ⟨fun s us ws _ h1 h2 => .of_eq (h kV doc pm an cdv ct us ws h1 h2), ln, rel⟩
  · exact absurd rfl e
theorem fnA' (F : Dfn K x st dvs f fd) (S : FnScope N ps (defScope st)) (hb : Body P w K mg B k x st f N g) : FnG P w K mg B (k + 1) f fd ps (spA K (mkA ps.length N.length g)) := by
  have hpN : ps.length ≤ N.length := by
    have := congrArg List.length S.pre
    rw [List.length_take] at this
    omega
  refine fnG' F S (fun vs H Q E h => ?_) fun cd A ou s H vs Q hgd hr h => ?_
  · obtain ⟨G, ds, r, _, hd, e, _⟩ := h
    unfold mkA at e
    split at e
    · rename_i hl; rw [DpAll.length hd, hl]
    · cases e
  · obtain ⟨G, ds, r, gh, hd, e, q⟩ := h
    unfold mkA at e
    split at e
    · rename_i hl
      have lv : vs.length = ps.length := by rw [DpAll.length hd, hl]
      have s0 := sttA (N := N) gh hd (by rw [lv]; exact hpN)
      rw [hl] at s0
      refine ⟨_, hb cd A ou s H hgd hr, ⟨H, G, []⟩, G, _, s0, ?_⟩
      have done : ∀ {u : V} {σ' : L2.St} {G' H' : Hp} {ρ' : Env}, Stt K ⟨H, G, []⟩ G' H' σ' ρ' → RepF K G' H H' u r → Q u H' := fun {u σ' G' H' ρ'} s' k => q u G' H' s'.g0 s'.gh (fun a o z => s'.ext a o z (fun _ hm => by simp at hm)) s'.ng0 k
      generalize g (ds.map Cell.v ++ List.replicate (N.length - ps.length) Cell.un) = o at e
      cases o with
      | nx ρ1 => cases e; exact fun σ' G' H' s' _ => done s' .non
      | rt r1 ρ1 => exact fun u σ' G' H' s' _ k => done s' (repF_of s' k e)
      | bk _ => cases e
      | ct _ => cases e
      | bad => cases e
    · cases e
theorem fnB' (F : Dfn K x st dvs f fd) (S : FnScope N ps (defScope st)) (hb : Body P w K mg B k x st f N g) : FnG P w K mg B (k + 1) f fd ps (spB K (mkB ps.length N.length g)) := by
  have hpN : ps.length ≤ N.length := by
    have := congrArg List.length S.pre
    rw [List.length_take] at this
    omega
  refine fnG' F S (fun vs H Q E h => ?_) fun cd A ou s H vs Q hgd hr h => ?_
  · obtain ⟨G, p, vs', xs, ds, r, ys, rfl, _, _, hd, e, _⟩ := h
    unfold mkB at e
    split at e
    · rename_i hl; rw [List.length_cons, DpAll.length hd, hl]
    · cases e
  · obtain ⟨G, p, vs', xs, ds, r, ys, rfl, gh, ow, hd, e, q⟩ := h
    unfold mkB at e
    split at e
    · rename_i hl
      have lv : vs'.length + 1 = ps.length := by rw [DpAll.length hd, hl]
      have s0 := sttB (N := N) gh ow hd (by rw [lv]; exact hpN)
      rw [hl] at s0
      refine ⟨_, hb cd A ou s H hgd hr, ⟨H, G, [(0, p)]⟩, G, _, s0, ?_⟩
      have done : ∀ {u : V} {σ' : L2.St} {G' H' : Hp} {ρ' : Env}, Stt K ⟨H, G, [(0, p)]⟩ G' H' σ' ρ' → ρ'[(0 : Nat)]? = some (.par ys) → RepF K G' H H' u r → Q u H' := fun {u σ' G' H' ρ'} s' e0 k => by
        obtain ⟨_, z0⟩ := s'.pal (0, p) (by simp)
        obtain ⟨x, e1, p', e2, ow', _⟩ := s'.cell 0 _ e0
        rw [z0] at e1; cases e1; cases e2
        exact q u G' H' s'.g0 s'.gh (fun a o z ne => s'.ext a o z (fun y hy => by simp at hy; rw [hy]; exact Ne.symm ne)) s'.ng0 ow' k
      generalize g (Cell.par xs :: (ds.map Cell.v ++ List.replicate (N.length - ps.length) Cell.un)) = o at e
      simp only at e
      split at e
      · rename_i r1 ys1 e1 e2
        cases e
        cases o with
        | nx ρ1 =>
          cases e1
          simp only [outB] at e2
          split at e2
          · rename_i e0
            cases e2
            exact fun σ' G' H' s' _ => done s' e0 .non
          · cases e2
        | rt r1 ρ1 =>
          simp only [outB] at e2
          split at e2
          · rename_i e0
            cases e2
            exact fun u σ' G' H' s' _ k => done s' e0 (repF_of s' k e1)
          · cases e2
        | bk _ => cases e1
        | ct _ => cases e1
        | bad => cases e1
      · cases e
    · cases e
end

/-! ### the law -/
/-- what is tracked at the law's entry: the script, unless it is one of the top's own lists -/
def Hs (K : PySem.W.Frag) (a : Addr) (vs : List Value) (ns : List Int) : Hp := fun b => if b = a ∧ K.lookup a = none then some (.frz { cls := .type "list", data := .seq vs.toArray } (.lst (ns.map V.int))) else none
theorem Hs_some {K : PySem.W.Frag} {a b : Addr} {vs : List Value} {ns : List Int} {u : HO} (h : Hs K a vs ns b = some u) : b = a ∧ K.lookup a = none ∧ u = .frz { cls := .type "list", data := .seq vs.toArray } (.lst (ns.map V.int)) := by
  unfold Hs at h
  by_cases c : b = a ∧ K.lookup a = none
  · rw [if_pos c] at h
    exact ⟨c.1, c.2, (Option.some.inj h).symm⟩
  · rw [if_neg c] at h; cases h
theorem law_end {P : Program} {w : World} {K : PySem.W.Frag} {mg mb : Str → Option Value} {k : Nat} {fa a : Addr} {fd : FuncData} {x : Str} {F : List D → Option RV} {s : Shared} {vs : List Value} {ns : List Int}
    (kin : K.In s.heap) (hm : s.heap.Ns mainGlobals mg) (hb : s.heap.Ns builtinsNs mb) (hbb : ∀ y : Str, y ≠ "__name__" → mb y = bootBuiltins y) (nl : s.heap.NoLimit) (hg : s.gens = #[])
    (ha : s.heap.get? a = some { cls := .type "list", data := .seq vs.toArray }) (ia : IntsAre vs ns) (hl : ns.length ≤ sizeLine) (hr : Room k callerA)
    (FF : ∀ B : Heap, K.In B → B.Ns mainGlobals mg → FnG P w K mg B k fa fd [x] (spA K F)) (bnd : ∀ (s : Shared) (u : Value), BindsTo s fd ⟨[u], []⟩ [(x, u)])
    (law : F [.list (ns.map .int)] = some (.fz (.bool true))) :
    codeAny (model P w) callerA (.call (.ref fa) ⟨[.ref a], []⟩) (fun r s' => r = .ok (.ret (.bool true)) ∧ OldK s.heap s'.heap ∧ s'.os = s.os ∧ AllBare s'.gens) s := by
  have rv := vals_ints ia
  have ln := ia.length
  have hok : HOk P w (Hs K a vs ns) s.heap := fun b u e => by
    obtain ⟨rfl, _, rfl⟩ := Hs_some e
    exact ⟨ha, by rw [List.length_map]; exact hl, vs, _, rv, ha⟩
  have free : ∀ {b : Addr} {o : Obj} {es : Array DictEntry} {ep : Nat}, s.heap.get? b = some o → o.data = .dict es ep → Hs K a vs ns b = none := fun {b o es ep} e d => by
    cases q : Hs K a vs ns b with
    | none => rfl
    | some u =>
      obtain ⟨rfl, _, _⟩ := Hs_some q
      rw [ha] at e
      cases e
      cases (show Data.seq vs.toArray _ = Data.dict es ep from d)
  have ns' : ∀ {b : Addr} {m : Str → Option Value}, s.heap.Ns b m → (hidT s.heap (Hs K a vs ns)).Ns b m := fun {b m} q => by
    obtain ⟨o, es, ep, e, d, r⟩ := q
    exact ⟨o, es, ep, hidT_get e (free e d), d, r⟩
  have kb : K.In (hidT s.heap (Hs K a vs ns)) := fun b o e => hidT_get (kin b o e) (by
    cases q : Hs K a vs ns b with
    | none => rfl
    | some u =>
      obtain ⟨rfl, z, _⟩ := Hs_some q
      rw [z] at e; cases e)
  have hM : Mod K mg (hidT s.heap (Hs K a vs ns)) := by
    obtain ⟨mc, z1, z2⟩ := nl
    exact ⟨kb, ns' hm, ⟨mb, ns' hb, hbb⟩, mc, ns' z1, z2⟩
  have e0 : Env0 P w K mg (hidT s.heap (Hs K a vs ns)) callerA [] s (Hs K a vs ns) :=
    ⟨rfl, hM, fun b o e => of_hidT e, Nat.le_of_eq (hidT_size _ _), trivial, fun b hb => by simp [frs] at hb, hok, .of_eq hg⟩
  have sq : SqL K (Hs K a vs ns) a (ns.map V.int) := by
    cases q : K.lookup a with
    | none => exact .inl (.inr ⟨{ cls := .type "list", data := .seq vs.toArray }, if_pos ⟨rfl, q⟩⟩)
    | some o =>
      have z := kin a o q
      rw [ha] at z
      cases z
      exact .inr ⟨_, vs.toArray, _, q, rfl, rfl, rfl, by rw [List.size_toArray, ln]; exact hl, by simpa using rv⟩
  have hsp : spA K F [.ref a] (Hs K a vs ns) (fun v _ => v = .bl true) NoX :=
    ⟨Hs K a vs ns, [.list (ns.map .int)], .fz (.bool true), Sub.refl _, .cons (.lst sq (ints_dpa ns)) .nil, law, fun u G' H' _ _ _ _ r => dp_bl r⟩
  refine codeAny_mono ((FF _ kb (ns' hm)).run callerA [] s _ ⟨[.ref a], []⟩ [.ref a] [.ref a] _ rfl hr e0 (bnd s (.ref a)) (.cons rfl .nil) hsp) fun r s' h => ?_
  match r, h with
  | .ok (.ret u), ⟨v, H', hos, hbare, un, hok', rel, hv⟩ =>
    obtain rfl : v = .bl true := hv
    obtain rfl : u = Value.bool true := rel
    refine ⟨rfl, OldK.of_keep fun b o e => ?_, hos, hbare⟩
    cases q : Hs K a vs ns b with
    | none => exact un.keep b o e q (by simp [frs]) (by simp)
    | some u =>
      obtain ⟨rfl, z, rfl⟩ := Hs_some q
      rw [ha] at e
      cases e
      exact (hok' _ _ (un.frzs _ _ _ q)).1
/-- the goal behind the head -/
theorem walkG {l : PySem.W.OpenLaw} {n k : Nat} {q : Program} {loose : List Str} {XP : (Str → Option Value) → Heap → Prop} {YP : World → Heap → Prop} {d : DefRec} {x : Str}
    (hn : l.most = some n) (hn2 : n ≤ sizeLine) (hdf : d.params.defaults = []) (hr : Room k callerA)
    (F : ∀ (w : World) (mg : Str → Option Value) (fa : Addr) (h : Heap), YP w h → h.Ns mainGlobals mg → mg d.name = some (.ref fa) →
      ∃ (K : PySem.W.Frag) (fd : FuncData) (Fl : List D → Option RV), K.In h ∧ (∀ (s : Shared) (u : Value), BindsTo s fd ⟨[u], []⟩ [(x, u)]) ∧
        (∀ ns : List Int, ns.length ≤ n → (∀ z ∈ ns, Builtin.Int.intBits z ≤ 1048576) → Fl [.list (ns.map .int)] = some (.fz (.bool true))) ∧
        ∀ B : Heap, K.In B → B.Ns mainGlobals mg → FnG l.prog w K mg B k fa fd [x] (spA K Fl)) :
    PySem.W.WalkO q loose XP YP l.row.toRowW d [] (fun f vs => PySem.call f vs) := by
  refine Att.attach_callB hn hdf fun w s₀ s mg mb fa o pm cd doc a vs ns G Y ho hd hcd hmg hobj hints hlen hbits hg => ?_
  obtain ⟨K, fd, Fl, kin, hb, hlaw, hF⟩ := F w mg fa _ Y G.T.g hmg
  exact law_end kin G.T.g G.T.b G.T.builtins G.T.nolimit hg hobj hints (Nat.le_trans hlen hn2) hr hF hb (hlaw ns hlen hbits)
end
end DL
/-! What a def's callers want of it, in one; more rules. -/
namespace DL
noncomputable section
open PySem PySem.Spec PyProof.Rows L2

/-- a def stands under its name -/
def D0 (K : PySem.W.Frag) (mg : Str → Option Value) (st : Stmt) (x : Str) (dvs : List V) : Prop := ∃ f fd, Dfn K x st dvs f fd ∧ mg x = some (.ref f)
def CA (P : Program) (w : World) (K : PySem.W.Frag) (mg : Str → Option Value) (B : Heap) (k : Nat) (st : Stmt) (x : Str) (ps : List Str) (dvs : List V) (dd : List D) (F : List D → Option RV) : Prop :=
  ∃ f fd, Dfn K x st dvs f fd ∧ FnG P w K mg B k f fd ps (spA K F) ∧ mg x = some (.ref f) ∧ ∀ G, DpAll K G dvs dd
def CB (P : Program) (w : World) (K : PySem.W.Frag) (mg : Str → Option Value) (B : Heap) (k : Nat) (st : Stmt) (x : Str) (ps : List Str) (dvs : List V) (dd : List D) (F : List D → List D → Option (RV × List D)) : Prop :=
  ∃ f fd, Dfn K x st dvs f fd ∧ FnG P w K mg B k f fd ps (spB K F) ∧ mg x = some (.ref f) ∧ ∀ G, DpAll K G dvs dd
theorem _root_.L2.FunD.same {K : PySem.W.Frag} {x q : Str} {pa : Arguments} {b : List Stmt} {sc : Scope} {dv : List V} {kw : List (Str × V)} {f : Addr} {fd fd' : FuncData} (h : FunD K x q pa b sc dv kw f fd) (h' : FunD K x q pa b sc dv kw f fd') : fd = fd' := by
  obtain ⟨oc, od, dV, kV, doc, pm, an, cdv, ct, osl, rfl, lk, _⟩ := h.ex
  obtain ⟨oc', od', dV', kV', doc', pm', an', cdv', ct', osl', rfl, lk', _⟩ := h'.ex
  rw [lk] at lk'
  have e := Option.some.inj lk'
  injection e with _ _ e2 _
  injection e2
section
variable {P : Program} {w : World} {K : PySem.W.Frag} {mg : Str → Option Value} {B : Heap} {k : Nat} {x : Str} {st : Stmt} {N ps : List Str} {g : DSt} {dvs : List V} {dd : List D}
theorem mkCA (h0 : D0 K mg st x dvs) (S : FnScope N ps (defScope st)) (hdd : ∀ G, DpAll K G dvs dd)
    (hb : ∀ (f : Addr) (fd : FuncData), Body P w K mg B k x st f N g) : CA P w K mg B (k + 1) st x ps dvs dd (mkA ps.length N.length g) := by
  obtain ⟨f, fd, F, hm⟩ := h0
  exact ⟨f, fd, F, fnA' F S (hb f fd), hm, hdd⟩
theorem mkCB (h0 : D0 K mg st x dvs) (S : FnScope N ps (defScope st)) (hdd : ∀ G, DpAll K G dvs dd)
    (hb : ∀ (f : Addr) (fd : FuncData), Body P w K mg B k x st f N g) : CB P w K mg B (k + 1) st x ps dvs dd (mkB ps.length N.length g) := by
  obtain ⟨f, fd, F, hm⟩ := h0
  exact ⟨f, fd, F, fnB' F S (hb f fd), hm, hdd⟩
end
/-- values put into another sequence -/
def permL {α : Type} (d : α) (ix : List Nat) (l : List α) : List α := ix.map fun i => l.getD i d
theorem Vals.perm {vs : List V} {us : List Value} (h : Vals vs us) : ∀ ix : List Nat, Vals (permL V.non ix vs) (permL Value.none ix us)
  | [] => .nil
  | i :: ix => .cons (by
      show RelV (vs.getD i V.non) (us.getD i Value.none)
      rw [List.getD_eq_getElem?_getD, List.getD_eq_getElem?_getD]
      cases e : vs[i]? with
      | none => rw [Vals.none_of h e]; rfl
      | some v =>
        obtain ⟨u, e2, r⟩ := h.get e
        rw [e2]; exact r) (Vals.perm h ix)
theorem DpAll.perm {K : PySem.W.Frag} {G : Hp} {us : List V} {ds : List D} (h : DpAll K G us ds) : ∀ ix : List Nat, DpAll K G (permL V.non ix us) (permL PyData.none ix ds)
  | [] => .nil
  | i :: ix => .cons (by
      show Dp K G (us.getD i V.non) (ds.getD i PyData.none)
      rw [List.getD_eq_getElem?_getD, List.getD_eq_getElem?_getD]
      cases e : ds[i]? with
      | none =>
        have : us[i]? = none := by
          rw [List.getElem?_eq_none_iff] at e ⊢
          rw [DpAll.length h]; exact e
        rw [this]; exact .non
      | some d =>
        obtain ⟨u, e2, r⟩ := DpAll.get h e
        rw [e2]; exact r) (DpAll.perm h ix)
section
variable {X : Cx} {k : Nat} {x : Str} {st : Stmt} {ps : List Str} {p pos : Pos} {e : Expr} {es : List Expr} {fs : List DEx} {F : List D → Option RV} {F2 : List D → List D → Option (RV × List D)} {dd : List D} {dvs : List V}
/-- f(e, ..) of a def without defaults -/
theorem de_cA (c : CA X.prog X.w X.K X.mg X.base k st x ps [] dd F) (hgd : X.A.guards = some []) (hr : Room k X.A) (hg : Gl X x) (ha : DA X (e :: es) fs)
    (hb : ∀ (kV doc pm : Value) (an : Option Addr) (cdv ct : Value) (us : List Value), us.length = ps.length → bindArgs (PySem.W.fnOf x x (defArgs st) (defBody st) (defScope st) .none kV doc pm an cdv ct) ⟨us, []⟩ = pure (ps.zip us) := by
      intro kV doc pm an cdv ct us hl
      first
        | (match us, hl with | [_], _ => rfl)
        | (match us, hl with | [_, _], _ => rfl)
        | (match us, hl with | [_, _, _], _ => rfl)
        | (match us, hl with | [_, _, _, _], _ => rfl)
        | (match us, hl with | [_, _, _, _, _], _ => rfl))
    (hdb : (x == ("__debug__" : Str)) = false := by decide) (he : starEach (e :: es) X.env = (false, eval e X.env) :: starEach es X.env := by rfl) (hpl : (backTo pos (starEach es X.env)).any (·.1) = false := by rfl) :
    DE X (.Call (.Name x p) (e :: es) [] pos) (eCallA F [] fs) := by
  obtain ⟨f, fd, D1, Fn, hm, _⟩ := c
  exact de_callA Fn hgd hr hg hm D1.kp (D1.bindsN hb) .nil (fun _ => .nil) ha hdb he hpl
theorem de_cV (c : CA X.prog X.w X.K X.mg X.base k st x ps [] dd F) (hgd : X.A.guards = some []) (hr : Room k X.A) (hg : Gl X x) (ha : DA X (e :: es) fs)
    (hb : ∀ (kV doc pm : Value) (an : Option Addr) (cdv ct : Value) (us : List Value), us.length = ps.length → bindArgs (PySem.W.fnOf x x (defArgs st) (defBody st) (defScope st) .none kV doc pm an cdv ct) ⟨us, []⟩ = pure (ps.zip us) := by
      intro kV doc pm an cdv ct us hl
      first
        | (match us, hl with | [_], _ => rfl)
        | (match us, hl with | [_, _], _ => rfl)
        | (match us, hl with | [_, _, _], _ => rfl)
        | (match us, hl with | [_, _, _, _], _ => rfl)
        | (match us, hl with | [_, _, _, _, _], _ => rfl))
    (hdb : (x == ("__debug__" : Str)) = false := by decide) (he : starEach (e :: es) X.env = (false, eval e X.env) :: starEach es X.env := by rfl) (hpl : (backTo pos (starEach es X.env)).any (·.1) = false := by rfl) :
    DE X (.Call (.Name x p) (e :: es) [] pos) (eCallV F [] fs) := by
  obtain ⟨f, fd, D1, Fn, hm, _⟩ := c
  exact de_callV Fn hgd hr hg hm D1.kp (D1.bindsN hb) .nil (fun _ => .nil) ha hdb he hpl
theorem de_c0 (c : CA X.prog X.w X.K X.mg X.base k st x ps [] dd F) (hgd : X.A.guards = some []) (hr : Room k X.A) (hg : Gl X x)
    (hb : ∀ (kV doc pm : Value) (an : Option Addr) (cdv ct : Value) (us : List Value), us.length = ps.length → bindArgs (PySem.W.fnOf x x (defArgs st) (defBody st) (defScope st) .none kV doc pm an cdv ct) ⟨us, []⟩ = pure (ps.zip us) := by
      intro kV doc pm an cdv ct us hl
      match us, hl with | [], _ => rfl)
    (hdb : (x == ("__debug__" : Str)) = false := by decide) : DE X (.Call (.Name x p) [] [] pos) (eCallA F [] []) := by
  obtain ⟨f, fd, D1, Fn, hm, _⟩ := c
  exact de_call0 Fn hgd hr hg hm D1.kp (D1.bindsN hb) .nil (fun _ => .nil) hdb
/-- .. some of whose defaults fill up -/
theorem de_cAd {n j : Nat} (c : CA X.prog X.w X.K X.mg X.base k st x ps dvs dd F) (hgd : X.A.guards = some []) (hr : Room k X.A) (hg : Gl X x) (hn : dvs ≠ [] ∧ n + (dvs.length - j) = ps.length)
    (hb : ∀ (T : Addr) (kV doc pm : Value) (an : Option Addr) (cdv ct : Value) (us its : List Value), us.length = n → its.length = dvs.length →
      ∃ q, bindArgs (PySem.W.fnOf x x (defArgs st) (defBody st) (defScope st) (.ref T) kV doc pm an cdv ct) ⟨us, []⟩ = seqItems? (.ref T) >>= q ∧ q (some its.toArray) = pure (ps.zip (us ++ its.drop j)))
    (ha : DA X (e :: es) fs) (hdb : (x == ("__debug__" : Str)) = false := by decide) (he : starEach (e :: es) X.env = (false, eval e X.env) :: starEach es X.env := by rfl) (hpl : (backTo pos (starEach es X.env)).any (·.1) = false := by rfl) :
    DE X (.Call (.Name x p) (e :: es) [] pos) (eCallA F (dd.drop j) fs) := by
  obtain ⟨f, fd, D1, Fn, hm, hdd⟩ := c
  obtain ⟨ds, h1, h2⟩ := D1.binds1 n j hn.1 hn.2 hb
  exact de_callA Fn hgd hr hg hm D1.kp h2 h1 (fun G => DpAll.drop j (hdd G)) ha hdb he hpl
theorem de_cB (c : CB X.prog X.w X.K X.mg X.base k st x ps [] dd F2) (hgd : X.A.guards = some []) (hr : Room k X.A) (hg : Gl X x) (ha : DA X (e :: es) fs)
    (hb : ∀ (kV doc pm : Value) (an : Option Addr) (cdv ct : Value) (us : List Value), us.length = ps.length → bindArgs (PySem.W.fnOf x x (defArgs st) (defBody st) (defScope st) .none kV doc pm an cdv ct) ⟨us, []⟩ = pure (ps.zip us) := by
      intro kV doc pm an cdv ct us hl
      first
        | (match us, hl with | [_], _ => rfl)
        | (match us, hl with | [_, _], _ => rfl)
        | (match us, hl with | [_, _, _], _ => rfl)
        | (match us, hl with | [_, _, _, _], _ => rfl)
        | (match us, hl with | [_, _, _, _, _], _ => rfl))
    (hdb : (x == ("__debug__" : Str)) = false := by decide) (he : starEach (e :: es) X.env = (false, eval e X.env) :: starEach es X.env := by rfl) (hpl : (backTo pos (starEach es X.env)).any (·.1) = false := by rfl) :
    DE X (.Call (.Name x p) (e :: es) [] pos) (eCallB F2 fs) := by
  obtain ⟨f, fd, D1, Fn, hm, _⟩ := c
  exact de_callB Fn hgd hr hg hm D1.kp (D1.bindsN hb) ha hdb he hpl
/-- keywords -/
theorem de_cK {n : Nat} {ks : List Str} {ix : List Nat} {kws : List Keyword} {gs : List DEx} (c : CA X.prog X.w X.K X.mg X.base k st x ps [] dd F) (hgd : X.A.guards = some []) (hr : Room k X.A) (hg : Gl X x)
    (hb : ∀ (kV doc pm : Value) (an : Option Addr) (cdv ct : Value) (us ws : List Value), us.length = n → ws.length = ks.length → bindArgs (PySem.W.fnOf x x (defArgs st) (defBody st) (defScope st) .none kV doc pm an cdv ct) ⟨us, ks.zip ws⟩ = pure (ps.zip (permL Value.none ix (us ++ ws))))
    (ha : DA X (e :: es) fs) (hkw : DK X kws gs) (hn : fs.length = n := by rfl) (hl : gs.length = ks.length := by rfl) (hix : ix.length = ps.length := by rfl)
    (hall : (backToKw pos (keywordEach kws X.env)).all (·.1.isSome) = true := by rfl) (hks : (backToKw pos (keywordEach kws X.env)).filterMap (·.1) = ks := by rfl)
    (hdb : (x == ("__debug__" : Str)) = false := by decide) (he : starEach (e :: es) X.env = (false, eval e X.env) :: starEach es X.env := by rfl)
    (hpl : ((backTo pos (starEach (e :: es) X.env)).any (·.1) || (backToKw pos (keywordEach kws X.env)).any (·.1.isNone)) = false := by rfl) :
    DE X (.Call (.Name x p) (e :: es) kws pos) (eCallK F (permL PyData.none ix) (fs ++ gs)) := by
  obtain ⟨f, fd, D1, Fn, hm, _⟩ := c
  exact de_callK Fn hgd hr hg hm D1.kp (dfn_kb (g := permL Value.none ix) (gV := permL V.non ix) D1 hb (fun us _ => by simp [permL, hix]) (fun _ r => Vals.perm r ix)) ha hkw hn hl (fun G us ds _ h => DpAll.perm h ix) hall hks hdb he hpl
theorem de_cK0 {ks : List Str} {ix : List Nat} {kws : List Keyword} {gs : List DEx} (c : CA X.prog X.w X.K X.mg X.base k st x ps [] dd F) (hgd : X.A.guards = some []) (hr : Room k X.A) (hg : Gl X x)
    (hb : ∀ (kV doc pm : Value) (an : Option Addr) (cdv ct : Value) (us ws : List Value), us.length = 0 → ws.length = ks.length → bindArgs (PySem.W.fnOf x x (defArgs st) (defBody st) (defScope st) .none kV doc pm an cdv ct) ⟨us, ks.zip ws⟩ = pure (ps.zip (permL Value.none ix (us ++ ws))))
    (hkw : DK X kws gs) (hl : gs.length = ks.length := by rfl) (hix : ix.length = ps.length := by rfl)
    (hall : (backToKw pos (keywordEach kws X.env)).all (·.1.isSome) = true := by rfl) (hks : (backToKw pos (keywordEach kws X.env)).filterMap (·.1) = ks := by rfl)
    (hdb : (x == ("__debug__" : Str)) = false := by decide)
    (hpl : ((backTo pos (starEach [] X.env)).any (·.1) || (backToKw pos (keywordEach kws X.env)).any (·.1.isNone)) = false := by rfl) :
    DE X (.Call (.Name x p) [] kws pos) (eCallK F (permL PyData.none ix) gs) := by
  obtain ⟨f, fd, D1, Fn, hm, _⟩ := c
  exact de_callK0 Fn hgd hr hg hm D1.kp (dfn_kb (g := permL Value.none ix) (gV := permL V.non ix) D1 hb (fun us _ => by simp [permL, hix]) (fun _ r => Vals.perm r ix)) hkw hl (fun G us ds _ h => DpAll.perm h ix) hall hks hdb hpl
/-- x = [..], from now on it stays -/
theorem ds_then_frz (i : Nat) {st : Stmt} {g : DSt} (h : DS X st g) : DS X st (sSeq g (sFrz i sNext)) := PS.mono h fun Dn σ H q => by
  have q2 := ls_seq q
  obtain ⟨C, G, ρ, s, o⟩ := q2
  refine ⟨C, G, ρ, s, ?_⟩
  generalize g ρ = z at o
  cases z with
  | nx ρ1 =>
    exact fun σ1 G1 H1 s1 sb => by
      have k := o σ1 G1 H1 s1 sb
      have k2 : liftS X.K (sFrz i sNext) Dn σ1 H1 := k
      obtain ⟨C2, G2, ρ2, s2, o2⟩ := ls_frz k2
      exact o2 σ1 G2 H1 s2 (Sub.refl G2)
  | bk _ => exact o
  | ct _ => exact o
  | rt _ _ => exact o
  | bad => exact o
/-- -a -/
def eNeg (f : DEx) : DEx := fun ρ => match f ρ with
  | some (.fz (.int i), ρ1) => some (.fz (.int (-i)), ρ1)
  | _ => none
theorem de_neg {a : Expr} {f : DEx} (ha : DE X a f) : DE X (.UnaryOp .USub a pos) (eNeg f) := PE.mono (pe_un un_neg ha) fun σ H Q h => by
  obtain ⟨C, G, ρ, s, r, ρ', e, q⟩ := h
  unfold eNeg at e
  split at e
  · rename_i i ρ1 e1
    cases e
    exact use_E s e1 fun u G1 H1 v1 p1 => ⟨i, dpi p1, q _ G1 H1 v1 (.int _)⟩
  · cases e
end
end
end DL
namespace DL
noncomputable section
open PySem PySem.Spec PyProof.Rows L2
/-! a, b, c = e1, e2, e3 of three local names: stored from the last -/
def tPar3 (i j l : Nat) (ta : TA) : TS := fun Dn σ H => ta σ H fun vs H1 => ∃ u v w, vs = [u, v, w] ∧ Dn.nx (((σ.set i (some u)).set j (some v)).set l (some w)) H1
theorem vals3 {x y z : V} {us : List Value} (r : Vals [x, y, z] us) : ∃ a b c, us = [a, b, c] ∧ RelV x a ∧ RelV y b ∧ RelV z c := by
  cases r with
  | cons p q =>
    obtain ⟨b, c, rfl, h1, h2⟩ := vals2 q
    exact ⟨_, b, c, rfl, p, h1, h2⟩
section
variable {X : Cx}
theorem ps_par3 {i j l : Nat} {x y z : Str} {a b c : Expr} {ta : TA} {px py pz pt pos : Pos} {kt k2 pt2} (hc : X.calm = true) (hN : X.N.Nodup) (hi : X.N[i]? = some x) (hj : X.N[j]? = some y) (hl : X.N[l]? = some z) (hij : i ≠ j) (hil : i ≠ l) (hjl : j ≠ l)
    (hx : X.env.scope.names.lookup x = some .local) (hy : X.env.scope.names.lookup y = some .local) (hz : X.env.scope.names.lookup z = some .local) (ha : PA X [a, b, c] ta)
    (hw : swappedStores [.Tuple [.Name x px, .Name y py, .Name z pz] kt pt] (.Tuple [a, b, c] k2 pt2) X.env = pure (some [x, y, z]))
    (hs : swapsWithSole [.Tuple [.Name x px, .Name y py, .Name z pz] kt pt] (.Tuple [a, b, c] k2 pt2) pos.line X.env = pure false) :
    PS X (.Assign [.Tuple [.Name x px, .Name y py, .Name z pz] kt pt] (.Tuple [a, b, c] k2 pt2) pos) (tPar3 i j l ta) := by
  refine ⟨fun pins s σ H Dn I h => ?_⟩
  rw [exec_Assign_arm]
  refine wpAny_bind (wpAny_standAt ?_)
  rw [hs]
  refine wpAny_bind (wpAny_pure ?_)
  rw [if_neg (by decide)]
  refine wpAny_bind (Tuple_ (thn (ha.run _ pins s σ H _ I h) fun us s1 ⟨vs, H1, I1, r1, u, v, w, e1, q1⟩ => ?_))
  subst e1
  obtain ⟨u1, u2, u3, rfl, ru, rv, rw'⟩ := vals3 r1
  refine wpAny_newObj_type ?_ (by show 3 ≤ sizeLine; decide)
  have I2 : Inv X pins σ H1 { s1 with heap := s1.heap.push { cls := .type "tuple", data := .seq [u1, u2, u3].toArray } } := I1.kept (t' := s1.toks) fun b o e => Heap.get?_push_of_some _ e
  rw [hw]
  refine wpAny_bind (wpAny_pure ?_)
  show wpAny (model X.prog X.w) X.A (do rule "assign.swapped-stores"; let items ← unpackItems (.ref s1.heap.objs.size) 3 none; assignInOrder [fun q => bindName X.env z q, fun q => bindName X.env y q, fun q => bindName X.env x q] items.reverse; pure Flow.next) _ _ _
  refine wpAny_bind (wpAny_rule (wpAny_bind (unpackItems_tuple (items := #[u1, u2, u3]) (I.ok.hd hc) (IsTup.new s1.heap _) fun h' hx' => ?_)))
  have I3 := I2.kept (h' := h') (t' := s1.toks) fun b o e => hx' b o (Nat.ne_of_lt (Heap.lt_size e)) e
  show wpAny _ _ (assignInOrder [fun q => bindName X.env z q, fun q => bindName X.env y q, fun q => bindName X.env x q] [u3, u2, u1] >>= fun _ => pure Flow.next) _ _ _
  refine wpAny_bind (assignInOrder_cons (wpAny_bindName (store_ok I3 hN hl (.inl hz) rw' (fun s2 I4 => ?_) (.inr hz))))
  refine assignInOrder_cons (wpAny_bindName (store_ok I4 hN hj (.inl hy) rv (fun s3 I5 => ?_) (.inr hy)))
  refine assignInOrder_cons (wpAny_bindName (store_ok I5 hN hi (.inl hx) ru (fun s4 I6 => assignInOrder_nil (wpAny_pure ?_)) (.inr hx)))
  refine ⟨_, H1, ?_, q1⟩
  have e : ((σ.set i (some u)).set j (some v)).set l (some w) = ((σ.set l (some w)).set j (some v)).set i (some u) := by
    rw [List.set_comm _ _ hij, List.set_comm _ _ hil, List.set_comm _ _ hjl]
  rw [e]
  exact I6
/-- each in its place -/
def putR (i : Nat) (r : RV) (ρ : Env) : Option Env := match r with
  | .fz d => put i (.v d) ρ
  | .fr xs => put i (.own xs) ρ
  | .sl _ => none
def frs1 : List RV → Nat
  | [] => 0
  | .fr _ :: rs => 1 + frs1 rs
  | _ :: rs => frs1 rs
def sPar3 (i j l : Nat) (fs : List DEx) : DSt := fun ρ => match eArgs fs ρ with
  | some ([a, b, c], ρ1) => if frs1 [a, b, c] ≤ 1 then match putR i a ρ1 with
    | some ρ2 => match putR j b ρ2 with
      | some ρ3 => match putR l c ρ3 with
        | some ρ4 => .nx ρ4
        | none => .bad
      | none => .bad
    | none => .bad
    else .bad
  | _ => .bad
/-- what a value to be stored is, and that its list is no one's -/
def Fresh (K : PySem.W.Frag) (C : EC) (G H : Hp) (σ : L2.St) (ρ : Env) (u : V) : RV → Prop
  | .fz d => Dp K G u d
  | .fr xs => ∃ p, u = .ref p ∧ OwnAt K G H p xs ∧ C.H0 p = none ∧ ¬ OA σ ρ p
  | .sl _ => False
theorem Stt.putR {K : PySem.W.Frag} {C : EC} {σ : L2.St} {ρ ρ' : Env} {G H : Hp} (s : Stt K C G H σ ρ) {i : Nat} {r : RV} {u : V} (h : DL.putR i r ρ = some ρ') (k : Fresh K C G H σ ρ u r) : Stt K C G H (σ.set i (some u)) ρ' := by
  cases r with
  | fz d => exact s.putV h k
  | fr xs =>
    obtain ⟨p, rfl, a, b, c⟩ := k
    exact s.putN h a b c
  | sl _ => cases h
theorem Fresh.step {K : PySem.W.Frag} {C : EC} {σ : L2.St} {ρ ρ' : Env} {G H : Hp} (s : Stt K C G H σ ρ) {i : Nat} {r t : RV} {u v : V} (h : DL.putR i r ρ = some ρ') (k : Fresh K C G H σ ρ v t) (ne : ∀ p q xs ys, u = .ref p → v = .ref q → r = .fr xs → t = .fr ys → p ≠ q) : Fresh K C G H (σ.set i (some u)) ρ' v t := by
  cases t with
  | fz d => exact k
  | sl _ => exact k
  | fr ys =>
    obtain ⟨q, rfl, a, b, c⟩ := k
    refine ⟨q, rfl, a, b, fun z => c ?_⟩
    cases r with
    | fz d => exact oa_put h s.len (.inr rfl) z
    | sl _ => cases h
    | fr xs =>
      refine oa_put h s.len (.inl fun w => ?_) z
      cases w
      exact ne q q xs ys rfl rfl rfl rfl rfl
theorem RepR.fresh {K : PySem.W.Frag} {C : EC} {σ : L2.St} {ρ ρ' : Env} {G H G' H' : Hp} (s : Stt K C G H σ ρ) (v : Ev K C σ ρ G H ρ' G' H') {u : V} {r : RV} (h : RepR K G' H H' σ ρ' u r) (nsl : ∀ i, r ≠ .sl i) : Fresh K C G' H' σ ρ' u r := by
  cases r with
  | fz d => exact h
  | sl i => exact absurd rfl (nsl i)
  | fr xs =>
    obtain ⟨p, e, n, k⟩ := h
    obtain ⟨n0, no⟩ := frn s v n
    exact ⟨p, e, k, n0, no⟩
theorem putR_sl {i : Nat} {r : RV} {ρ ρ' : Env} (h : putR i r ρ = some ρ') : ∀ j, r ≠ .sl j := fun j z => by subst z; cases h
end
theorem ls_par3 {K : PySem.W.Frag} {i j l : Nat} {fs : List DEx} {Dn : Ends} {σ : L2.St} {H : Hp} (h : liftS K (sPar3 i j l fs) Dn σ H) : tPar3 i j l (liftA K (eArgs fs)) Dn σ H := by
  obtain ⟨C, G, ρ, s, q⟩ := h
  unfold sPar3 at q
  split at q
  · rename_i a b c ρ1 e1
    by_cases hf : frs1 [a, b, c] ≤ 1
    · rw [if_pos hf] at q
      split at q
      · rename_i ρ2 e2
        split at q
        · rename_i ρ3 e3
          split at q
          · rename_i ρ4 e4
            refine use_A s e1 fun us G1 H1 v1 p1 => ?_
            match us, p1 with
            | [u, v, w], ⟨h1, h2, h3, _⟩ =>
              refine ⟨u, v, w, rfl, ?_⟩
              have k1 := h1.fresh s v1 (putR_sl e2)
              have k2 := h2.fresh s v1 (putR_sl e3)
              have k3 := h3.fresh s v1 (putR_sl e4)
              have two : ∀ {r t : RV}, (∀ xs ys, r = .fr xs → t = .fr ys → False) → ∀ {u v : V} (p q : Addr) (xs ys : List D), u = .ref p → v = .ref q → r = .fr xs → t = .fr ys → p ≠ q := fun h u v p q xs ys _ _ a b => (h xs ys a b).elim
              have n12 : ∀ xs ys, a = .fr xs → b = .fr ys → False := fun xs ys z1 z2 => by
                subst z1 z2
                simp only [frs1] at hf
                omega
              have n13 : ∀ xs ys, a = .fr xs → c = .fr ys → False := fun xs ys z1 z2 => by
                subst z1 z2
                cases b <;> simp only [frs1] at hf <;> omega
              have n23 : ∀ xs ys, b = .fr xs → c = .fr ys → False := fun xs ys z1 z2 => by
                subst z1 z2
                cases a <;> simp only [frs1] at hf <;> omega
              have s2 := v1.stt.putR e2 k1
              have s3 := s2.putR e3 (Fresh.step v1.stt e2 k2 (two n12))
              have s4 := s3.putR e4 (Fresh.step s2 e3 (Fresh.step v1.stt e2 k3 (two n13)) (two n23))
              exact q _ G1 H1 s4 v1.sub
          · exact q.elim
        · exact q.elim
      · exact q.elim
    · rw [if_neg hf] at q; exact q.elim
  · exact q.elim
section
variable {X : Cx}
theorem ds_par3 {i j l : Nat} {x y z : Str} {a b c : Expr} {fs : List DEx} {px py pz pt pos : Pos} {kt k2 pt2} (hc : X.calm = true) (hN : X.N.Nodup) (hi : X.N[i]? = some x) (hj : X.N[j]? = some y) (hl : X.N[l]? = some z) (hij : i ≠ j) (hil : i ≠ l) (hjl : j ≠ l)
    (hx : X.env.scope.names.lookup x = some .local) (hy : X.env.scope.names.lookup y = some .local) (hz : X.env.scope.names.lookup z = some .local) (ha : DA X [a, b, c] fs)
    (hw : swappedStores [.Tuple [.Name x px, .Name y py, .Name z pz] kt pt] (.Tuple [a, b, c] k2 pt2) X.env = pure (some [x, y, z]) := by rfl)
    (hs : swapsWithSole [.Tuple [.Name x px, .Name y py, .Name z pz] kt pt] (.Tuple [a, b, c] k2 pt2) pos.line X.env = pure false := by rfl) :
    DS X (.Assign [.Tuple [.Name x px, .Name y py, .Name z pz] kt pt] (.Tuple [a, b, c] k2 pt2) pos) (sPar3 i j l fs) := PS.mono (ps_par3 hc hN hi hj hl hij hil hjl hx hy hz ha hw hs) fun _ _ _ => ls_par3
end
end
end DL
/-! The head's facts, with one more check over what the top has written. -/
namespace DL
noncomputable section
open PySem PySem.Spec PyProof.Rows L2 He
abbrev AlE : Type := AlD × Bool
def obE (n : Nat) (fa : List Fa) (fn : List DefD) (ex : PySem.W.Frag → Bool) (g : Addr → Option Obj) : AlE := (obsD fa fn (frG g (asD g n)), ex (frG g (asD g n)))
def hkE (n : Nat) (fa : List Fa) (fn : List DefD) (ex : PySem.W.Frag → Bool) : PySem.W.Hook where
  α := AlE
  obs := fun s => obE n fa fn ex s.heap.get?
  val := fun _ => (valD fn, true)
  says := fun _ h => ∃ K : PySem.W.Frag, K.In h ∧ SaysD fa fn K ∧ ex K = true
  of := fun _ _ e => ⟨_, frG_in, (Prod.mk.inj e).1, (Prod.mk.inj e).2⟩
  keeps := fun _ _ _ ⟨K, hK, c⟩ k => ⟨K, PySem.W.Frag.In.keeps hK k, c⟩
theorem obE_eq {n : Nat} {fa : List Fa} {fn : List DefD} {ex : PySem.W.Frag → Bool} {g : Addr → Option Obj} {s : Shared} (h : ∀ a, g a = s.heap.get? a) : obE n fa fn ex g = (hkE n fa fn ex).obs s := by
  rw [show g = s.heap.get? from funext h]
  rfl
end
end DL
/-! list(range(..)). -/
namespace DL
noncomputable section
open PySem PySem.Spec PyProof.Rows L2
/-- the ints i, i + c, .. -/
def rgC (i c : Int) (n : Nat) : List V := (List.range n).map fun k => V.int (i + (k : Nat) * c)
theorem vals_rgC {i c : Int} {n : Nat} {acc : Array Value} (h : ItemsOf (fun k v => ∃ t, v = .int (i + k * c) t) acc n) : Vals (rgC i c n) acc.toList := by
  have e : acc.toList.length = n := by rw [Array.length_toList]; exact h.1
  unfold rgC
  rw [← e]
  refine vals_of_get acc.toList _ fun j u hj => ?_
  obtain ⟨t, rfl⟩ := h.2 j u (by rw [← hj, Array.getElem?_toList])
  exact ⟨t, rfl⟩
theorem dpa_rgC {K : PySem.W.Frag} {G : Hp} (i c : Int) (n : Nat) : DpAll K G (rgC i c n) (rngD i c n) := by
  unfold rgC rngD
  generalize List.range n = l
  induction l with
  | nil => exact .nil
  | cons k l ih => exact .cons (.int _) ih
section
variable {X : Cx} {args : List Expr}
def rgT (vs : List V) (i j c : Int) : Prop := vs = [.int j] ∧ i = 0 ∧ c = 1 ∨ vs = [.int i, .int j] ∧ c = 1 ∨ vs = [.int i, .int j, .int c]
/-- an expression that makes a range -/
def PRgC (X : Cx) (m : Nat) (e : Expr) (t : TA) : Prop :=
  ∀ (pins : List (Addr × Obj)) (s : Shared) (σ : L2.St) (H : Hp) (Q : Int → Int → Int → Hp → Prop), Inv X pins σ H s → (t σ H fun vs H1 => ∃ i j c, rgT vs i j c ∧ vs.length = m ∧ (c ≠ 0 ∧ c.natAbs < 1073741824) ∧ Q i j c H1) →
    wpAny (model X.prog X.w) X.A (eval e X.env) (fun x s' => ∃ r i j c t u v H', x = .ref r ∧ IsRange s'.heap r i j c t u v ∧ Inv X pins σ H' s' ∧ Q i j c H') X.xe s
theorem prg1 {a : Expr} {ta : TA} {p pos : Pos} (hg : Gl X "range") (hm : X.mg "range" = none) (ha : PA X [a] ta) (hs : starEach [a] X.env = [(false, eval a X.env)] := by rfl) : PRgC X 1 (.Call (.Name "range" p) [a] [] pos) ta := by
  intro pins s σ H Q I h
  refine Call_ (ld_blt I hg hm boot_range (PyProof.Rows.callWith_type1 (thn (ha.run pos pins s σ H _ I h) fun us s1 ⟨vs, H1, I1, r1, i, j, c, q1, q2, ⟨c0, c1⟩, q⟩ => ?_) hs rfl))
  rcases q1 with ⟨rfl, rfl, rfl⟩ | ⟨rfl, rfl⟩ | rfl
  · cases r1 with
    | cons r rr =>
      cases rr
      obtain ⟨t, rfl⟩ := r
      exact call_range_1 ⟨_, 0, j, 1, _, _, _, H1, rfl, IsRange.new _ _ _ _ _ _ _, I1.kept fun b u e => Heap.get?_push_of_some _ e, q⟩
  · cases q2
  · cases q2
theorem prg2 {a b : Expr} {ta : TA} {p pos : Pos} (hg : Gl X "range") (hm : X.mg "range" = none) (ha : PA X [a, b] ta) (hs : starEach [a, b] X.env = [(false, eval a X.env), (false, eval b X.env)] := by rfl) (hs2 : starEach [b] X.env = [(false, eval b X.env)] := by rfl) : PRgC X 2 (.Call (.Name "range" p) [a, b] [] pos) ta := by
  intro pins s σ H Q I h
  refine Call_ (ld_blt I hg hm boot_range (PyProof.Rows.callWith_type1 (thn (ha.run pos pins s σ H _ I h) fun us s1 ⟨vs, H1, I1, r1, i, j, c, q1, q2, ⟨c0, c1⟩, q⟩ => ?_) (by rw [hs, hs2]) (by rw [hs2]; rfl)))
  rcases q1 with ⟨rfl, rfl, rfl⟩ | ⟨rfl, rfl⟩ | rfl
  · cases q2
  · cases r1 with
    | cons r rr =>
      cases rr with
      | cons r' rr =>
        cases rr
        obtain ⟨t, rfl⟩ := r
        obtain ⟨t', rfl⟩ := r'
        exact call_range_2 ⟨_, i, j, 1, _, _, _, H1, rfl, IsRange.new _ _ _ _ _ _ _, I1.kept fun b u e => Heap.get?_push_of_some _ e, q⟩
  · cases q2
theorem prg3 {a b c : Expr} {ta : TA} {p pos : Pos} (hg : Gl X "range") (hm : X.mg "range" = none) (ha : PA X [a, b, c] ta) (hs : starEach [a, b, c] X.env = (false, eval a X.env) :: starEach [b, c] X.env := by rfl) (hpl : (backTo pos (starEach [b, c] X.env)).any (·.1) = false := by rfl) : PRgC X 3 (.Call (.Name "range" p) [a, b, c] [] pos) ta := by
  intro pins s σ H Q I h
  refine Call_ (ld_blt I hg hm boot_range (PyProof.Rows.callWith_type1 (thn (ha.run pos pins s σ H _ I h) fun us s1 ⟨vs, H1, I1, r1, i, j, k, q1, q2, ⟨c0, c1⟩, q⟩ => ?_) hs hpl))
  rcases q1 with ⟨rfl, rfl, rfl⟩ | ⟨rfl, rfl⟩ | rfl
  · cases q2
  · cases q2
  · cases r1 with
    | cons r rr =>
      cases rr with
      | cons r' rr =>
        cases rr with
        | cons r'' rr =>
          cases rr
          obtain ⟨t, rfl⟩ := r
          obtain ⟨t', rfl⟩ := r'
          obtain ⟨t'', rfl⟩ := r''
          exact call_range_3 c0 ⟨_, i, j, k, _, _, _, H1, rfl, IsRange.new _ _ _ _ _ _ _, I1.kept fun b u e => Heap.get?_push_of_some _ e, q⟩ (.inl (PyProof.noPylong_small c1))
/-- list(range(..)) -/
def tLstC (m : Nat) (ta : TA) : TE := fun σ H Q => ta σ H fun vs H1 => ∃ i j c, rgT vs i j c ∧ vs.length = m ∧ (c ≠ 0 ∧ c.natAbs < 1073741824) ∧ ∃ n : Nat, Builtin.Range.small i j c = true ∧ Builtin.Range.rangeSize i j c = n ∧ n ≤ 2 ^ 24 ∧ ∀ q, H1 q = none → Q (.ref q) (upd H1 q (.lst (rgC i c n)))
theorem pe_lstC {m : Nat} {e : Expr} {ta : TA} {p pos : Pos} (hc : X.calm = true) (hg : Gl X "list") (hm : X.mg "list" = none) (he : PRgC X m e ta) (na : starEach [e] X.env = (false, eval e X.env) :: starEach [] X.env := by rfl) : PE X (.Call (.Name "list" p) [e] [] pos) (tLstC m ta) := by
  refine ⟨fun pins s σ H Q I h => ?_⟩
  refine Call_ (ld_blt I hg hm boot_list (PyProof.Rows.callWith_type1 (args_cons (thn (he pins s σ H _ I h) fun x s1 ⟨r, i, j, c, t, u, v, H1, ex, hr, I1, n, b1, b2, b3, q⟩ => args_nil ?_) na) na))
  subst ex
  refine call_list_range (n := n) (I1.ok.hd hc) hr b1 b2 b3 fun h' tk acc c' hk e' hi => ?_
  have hacc := hi.1
  refine ⟨.ref s1.heap.objs.size, upd H1 s1.heap.objs.size (.lst (rgC i c n)), I1.laid hk (Nat.le_refl _) (show ObjOk X.prog X.w _ _ _ (.lst (rgC i c n)) from ⟨?_, acc.toList, c', vals_rgC hi, ?_⟩), rfl, q _ (I1.hok.fresh (Nat.le_refl _))⟩
  · unfold rgC
    rw [List.length_map, List.length_range, sizeLine_eq]; omega
  · rw [Array.toArray_toList]; exact e'
theorem rng_all {as ds : List D} (h : rngOf as = some ds) : ∃ (i j c : Int) (n : Nat), (as = [.int j] ∧ i = 0 ∧ c = 1 ∨ as = [.int i, .int j] ∧ c = 1 ∨ as = [.int i, .int j, .int c]) ∧ (c ≠ 0 ∧ c.natAbs < 1073741824) ∧ Builtin.Range.small i j c = true ∧ Builtin.Range.rangeSize i j c = n ∧ ds = rngD i c n := by
  unfold rngOf at h
  split at h
  · rename_i j
    by_cases hb : bnd62 j = true
    · rw [if_pos hb] at h
      cases h
      have b := bnd_of hb
      refine ⟨0, j, 1, _, .inl ⟨rfl, rfl, rfl⟩, ⟨by decide, by decide⟩, small_one (by decide) (by decide) b.1 b.2, rangeSize_nat 0 j, ?_⟩
      rw [Int.sub_zero]
    · rw [if_neg hb] at h; cases h
  · rename_i i j
    by_cases hb : bnd62 i = true ∧ bnd62 j = true
    · rw [if_pos hb] at h
      cases h
      have b := bnd_of hb.1
      have b' := bnd_of hb.2
      exact ⟨i, j, 1, _, .inr (.inl ⟨rfl, rfl⟩), ⟨by decide, by decide⟩, small_one b.1 b.2 b'.1 b'.2, rangeSize_nat i j, rfl⟩
    · rw [if_neg hb] at h; cases h
  · rename_i i j c
    by_cases hb : dP (c ≠ 0 ∧ c.natAbs < 1073741824 ∧ Builtin.Range.small i j c = true) = true
    · rw [if_pos hb] at h
      cases h
      rw [dP_iff] at hb
      exact ⟨i, j, c, _, .inr (.inr rfl), ⟨hb.1, hb.2.1⟩, hb.2.2, rangeSize_toNat i j c, rfl⟩
    · rw [if_neg hb] at h; cases h
  · cases h
def eLstRg (fs : List DEx) : DEx := fun ρ => match iRange fs ρ with
  | some (ds, ρ1) => if ds.length ≤ LIM then some (.fr ds, ρ1) else none
  | none => none
theorem de_lstC {m : Nat} {e : Expr} {fs : List DEx} {p pos : Pos} (hc : X.calm = true) (hg : Gl X "list") (hm : X.mg "list" = none) (hl : fs.length = m) (he : PRgC X m e (liftA X.K (eArgs fs))) (na : starEach [e] X.env = (false, eval e X.env) :: starEach [] X.env := by rfl) : DE X (.Call (.Name "list" p) [e] [] pos) (eLstRg fs) :=
  PE.mono (pe_lstC hc hg hm he na) fun σ H Q h => by
    obtain ⟨C, G, ρ, s, r', ρ', e, q⟩ := h
    unfold eLstRg at e
    split at e
    · rename_i ds ρ1 e1
      by_cases hd : ds.length ≤ LIM
      · rw [if_pos hd] at e
        cases e
        obtain ⟨rs, as, e2, e3, e4⟩ := iRange_some e1
        obtain ⟨i, j, c, n, hs, hc0, hsm, hsz, rfl⟩ := rng_all e4
        refine use_A s e2 fun us G1 H1 v1 p1 => ?_
        have d := dps_of p1 e3
        have ll : as.length = m := by rw [fzs_len e3, eArgs_len e2]; exact hl
        have hr : rgT us i j c := by
          rcases hs with ⟨rfl, h1, h2⟩ | ⟨rfl, h2⟩ | rfl
          · exact .inl ⟨dp1 d, h1, h2⟩
          · exact .inr (.inl ⟨dp2 d, h2⟩)
          · exact .inr (.inr (dp3 d))
        refine ⟨i, j, c, hr, by rw [DpAll.length d]; exact ll, hc0, n, hsm, hsz, ?_, fun p n' => ?_⟩
        · rw [rngD_len] at hd
          have := lim_le hd
          rw [sizeLine_eq] at this
          omega
        · exact q _ G1 _ (v1.trans (Ev.newL v1.stt n')) (RepR.lift (r := .fr (rngD i c n)) v1 ⟨p, rfl, n', v1.stt.fresh0 n', _, upd_same, dpa_rgC i c n⟩)
      · rw [if_neg hd] at e; cases e
    · cases e
theorem de_lstRg1 {a : Expr} {f : DEx} {p p2 pos pos2 : Pos} (hg : Gl X "list") (hm : X.mg "list" = none) (hg2 : Gl X "range") (hm2 : X.mg "range" = none) (ha : DA X [a] [f]) (hc : X.calm = true := by rfl) (hs : starEach [a] X.env = [(false, eval a X.env)] := by rfl) (na : starEach [.Call (.Name "range" p2) [a] [] pos2] X.env = (false, eval (.Call (.Name "range" p2) [a] [] pos2) X.env) :: starEach [] X.env := by rfl) : DE X (.Call (.Name "list" p) [.Call (.Name "range" p2) [a] [] pos2] [] pos) (eLstRg [f]) :=
  de_lstC hc hg hm rfl (prg1 hg2 hm2 ha hs) na
theorem de_lstRg2 {a b : Expr} {f g : DEx} {p p2 pos pos2 : Pos} (hg : Gl X "list") (hm : X.mg "list" = none) (hg2 : Gl X "range") (hm2 : X.mg "range" = none) (ha : DA X [a, b] [f, g]) (hc : X.calm = true := by rfl) (hs : starEach [a, b] X.env = [(false, eval a X.env), (false, eval b X.env)] := by rfl) (hs2 : starEach [b] X.env = [(false, eval b X.env)] := by rfl) (na : starEach [.Call (.Name "range" p2) [a, b] [] pos2] X.env = (false, eval (.Call (.Name "range" p2) [a, b] [] pos2) X.env) :: starEach [] X.env := by rfl) : DE X (.Call (.Name "list" p) [.Call (.Name "range" p2) [a, b] [] pos2] [] pos) (eLstRg [f, g]) :=
  de_lstC hc hg hm rfl (prg2 hg2 hm2 ha hs hs2) na
theorem de_lstRg3 {a b c : Expr} {f g h : DEx} {p p2 pos pos2 : Pos} (hg : Gl X "list") (hm : X.mg "list" = none) (hg2 : Gl X "range") (hm2 : X.mg "range" = none) (ha : DA X [a, b, c] [f, g, h]) (hc : X.calm = true := by rfl) (hs : starEach [a, b, c] X.env = (false, eval a X.env) :: starEach [b, c] X.env := by rfl) (hpl : (backTo pos2 (starEach [b, c] X.env)).any (·.1) = false := by rfl) (na : starEach [.Call (.Name "range" p2) [a, b, c] [] pos2] X.env = (false, eval (.Call (.Name "range" p2) [a, b, c] [] pos2) X.env) :: starEach [] X.env := by rfl) : DE X (.Call (.Name "list" p) [.Call (.Name "range" p2) [a, b, c] [] pos2] [] pos) (eLstRg [f, g, h]) :=
  de_lstC hc hg hm rfl (prg3 hg2 hm2 ha hs hpl) na
end
end
end DL
/-! enumerate of a tuple too; zip of two tuples too. -/
namespace L2
open PySem PySem.Spec PyProof.Rows
theorem meets_enumerate_newB1 {v : Value} {o : Obj} {H : Heap → Prop} (B : Begins v o H) :
    Meets (Builtin.«enumerate.__new__» ⟨[.type "enumerate", v], []⟩) (fun _ R s => H s.heap ∧
      R (.ok (.ret (.ref (s.heap.push o).objs.size))) { s with heap := (s.heap.push o).push { cls := .type "enumerate", data := .fields #[.none, .bool false, .ref s.heap.objs.size, rawInt 0, .none, .none] } }) :=
  .of_wp fun prog w A R s h => by
    obtain ⟨hp, g, d, tk, os⟩ := s; obtain ⟨h1, h⟩ := h
    have hsub := sub_enumerate
    have q1 : ∀ {A' : Around} {E : Value → Shared → Prop} {Q : Value → Shared → Prop}, Q (.ref hp.objs.size) ⟨hp.push o, g, d, tk, os⟩ → wpAny (model prog w) A' (pyIter v) Q E ⟨hp, g, d, tk, os⟩ :=
      fun q => B.iter prog w _ _ ⟨hp, g, d, tk, os⟩ _ h1 q
    wp_walk using q1
    refine wpAny_stack_any fun st => wpAny_pure ?_
    split
    · rename_i c _ _ _ _ _
      cases (c == Value.type "enumerate")
      · wp_walk using q1
        exact ⟨_, rfl, h⟩
      · wp_walk using q1
        exact ⟨_, rfl, h⟩
    · wp_walk using q1
      exact ⟨_, rfl, h⟩
section
variable {prog : Program} {w : World} {A : Around} {E : Value → Shared → Prop} {s : Shared}
theorem enum_begins1 {v : Value} {o : Obj} {H : Heap → Prop} {Q : Value → Shared → Prop} (B : Begins v o H) (h1 : H s.heap)
    (h : ∀ h', IsEnum h' (s.heap.objs.size + 1) s.heap.objs.size 0 .none → h'.get? s.heap.objs.size = some o → h'.objs.size = s.heap.objs.size + 2 →
      (∀ b o, s.heap.get? b = some o → h'.get? b = some o) → Q (.ref (s.heap.objs.size + 1)) { s with heap := h' }) :
    wpAny (model prog w) A (call (.type "enumerate") [v]) Q E s := by
  refine callType_new F.called_enumerate (by decide) (F.typeCall_enumerate_1 _) (F.newCall_enumerate_1 _) (fun obj => F.args_object_init_2 obj _) F.entry_enumerate_new
    (meets_enumerate_newB1 B) ⟨h1, ?_⟩
  have hz : (s.heap.push o).objs.size = s.heap.objs.size + 1 := Heap.size_push ..
  show _ ∧ _
  rw [hz]
  have he : IsEnum ((s.heap.push o).push { cls := .type "enumerate", data := .fields #[.none, .bool false, .ref s.heap.objs.size, rawInt 0, .none, .none] }) (s.heap.objs.size + 1) s.heap.objs.size 0 .none := by
    have := Heap.get?_push_size (s.heap.push o) (o := { cls := .type "enumerate", data := .fields #[.none, .bool false, .ref s.heap.objs.size, rawInt 0, .none, .none] }) rfl
    rw [hz] at this; exact this
  refine ⟨⟨_, he, rfl⟩, h _ he (Heap.get?_push_of_some _ (Heap.get?_push_size _ B.free)) (by rw [Heap.size_push, hz]) fun b o x => Heap.get?_push_of_some _ (Heap.get?_push_of_some _ x)⟩
end
/-- a tuple's iterator that is at its end -/
theorem Draws.tupleEnd {prog : Program} {w : World} {A : Around} (hh : A.handled = none) (it t : Addr) (hne : t ≠ it) (items : Array Value) (n : Nat) (hn : items.size ≤ n) :
    Draws prog w A it [it, t] n (fun i v => items[i]? = some v) (fun i h => i = n ∧ h.IsTupleIter it t n ∧ h.IsTuple t items) where
  live := fun _ _ st => let ⟨o, ho, _⟩ := st.2.1; ⟨o, ho⟩
  frame := fun _ _ _ st hk => ⟨st.1, st.2.1.at fun o e => hk it (by simp) o e, st.2.2.at fun o e => hk t (by simp) o e⟩
  item := fun i s Q E hi st hQ => by
    have := st.1
    omega
  done := fun s Q E st hE => wpAny_nextOf_tuple_end hh st.2.1 st.2.2 (by simpa using hn) hE
/-- the tuple at a as it stands at each turn, each item in a new pair -/
def IteT (K : PySem.W.Frag) (a : Addr) : It :=
  ⟨fun i H => ∃ (xs : List V) (x : V), SqT K H a xs ∧ xs[i]? = some x, fun i H v H' => ∃ T x, v = .ref T ∧ H T = none ∧ H' = upd H T (.tup [.int (i : Nat), x]) ∧ ∀ xs, SqT K H a xs → xs[i]? = some x, fun i H => ∃ xs : List V, SqT K H a xs ∧ xs.length ≤ i⟩
theorem turn_enumT {P : Program} {w : World} {K : PySem.W.Frag} {elts : List Expr} {kk : Nat} {tpos : Pos} (a e it : Addr) :
    Turn P w K (.Tuple elts kk tpos) (IteT K a) [e, it] e (fun i h => (∃ old, IsEnum h e it ((i : Nat) : Int) old) ∧ h.IsTupleIter it a i ∧ e ≠ it) where
  mem := by simp
  obj := fun i h st b hb => by
    obtain ⟨⟨old, he⟩, ⟨o, ho, hc, hd⟩, _⟩ := st
    have e' : b = e ∨ b = it := by simpa using hb
    rcases e' with z | z
    · rw [z]; exact ⟨_, he, fun v q => nomatch q⟩
    · rw [z]; exact ⟨o, ho, fun v q => by rw [hd] at q; cases q⟩
  keep := fun i h h' st k => let ⟨⟨old, he⟩, hi, hne⟩ := st; ⟨⟨old, k e (by simp) _ he⟩, hi.at fun o q => k it (by simp) o q, hne⟩
  item := by
    intro X hP hw hK hc i pins s σ H E I hf st hg
    subst hP hw hK
    obtain ⟨⟨old, he⟩, hit, hne⟩ := st
    obtain ⟨xs, x, hq, hx⟩ := hg
    obtain ⟨its, rv, p, hz⟩ := I.tuple hq
    have p : s.heap.IsTuple a its.toArray := p
    obtain ⟨u, hu, ru⟩ := rv.get hx
    have hel : e < s.heap.objs.size := Heap.lt_size he
    have hil : it < s.heap.objs.size := by obtain ⟨_, q, _⟩ := hit; exact Heap.lt_size q
    have hai : a ≠ it := fun z => by
      obtain ⟨o1, g1, _, n1, d1⟩ := p
      obtain ⟨o2, g2, _, d2⟩ := hit
      rw [z, g2] at g1
      cases g1
      rw [d2] at d1
      cases d1
    have hea : e ≠ a := fun z => by
      obtain ⟨o1, g1, _, n1, d1⟩ := p
      have g2 := he
      unfold IsEnum at g2
      rw [z, g1] at g2
      cases g2
      cases d1
    have hlt : i < its.toArray.size := by
      have := (List.getElem?_eq_some_iff.mp hu).1
      simpa using this
    refine wpAny_pyNext_enum_itemC (Draws.tuple (A := X.A.in1) (show X.A.in1.handled = none from I.ok.hd hc) it a hai its.toArray) he ⟨hit, p⟩ hlt hne (by simp [hne, hea]) fun x' h' tk hP ho hst' hT hsz hk => ?_
    have ex : x' = u := by
      rw [show its.toArray[i]? = some u from by simpa using hu] at hP
      cases hP
      rfl
    subst ex
    refine ⟨_, rfl, wpAny_letOwnedTupleGo_enum (s := { s with heap := h', toks := tk + 1 }) ho fun h'' he' sb => ?_⟩
    have hT2 : h''.get? s.heap.objs.size = some { cls := .type "tuple", data := .seq #[.int i tk, x'] } := (sb.2 _ (Nat.ne_of_gt hel)).trans hT
    have new : ObjOk X.prog X.w (upd H s.heap.objs.size (.tup [.int (i : Nat), x])) h'' s.heap.objs.size (.tup [.int (i : Nat), x]) :=
      ⟨by show 2 ≤ sizeLine; decide, [.int i tk, x'], .cons ⟨_, rfl⟩ (.cons ru .nil), ⟨_, hT2, rfl, _, rfl⟩⟩
    have I1 : Inv X pins σ (upd H s.heap.objs.size (.tup [.int (i : Nat), x])) { s with heap := h'', toks := tk + 1 } :=
      I.turnedNew (ch := [e, it]) (fun b ob hb q => (sb.2 b (fun z => hb (by simp [z]))).trans (hk b ob (fun z => hb (by simp [z])) (fun z => hb (by simp [z])) q)) hf (Nat.le_refl _) new
    refine ⟨.ref s.heap.objs.size, _, I1, rfl, ⟨_, x, rfl, I.hok.fresh (Nat.le_refl _), rfl, fun ys hy => by rw [I.tuple_inj hy hq]; exact hx⟩, ⟨⟨x', ?_⟩, hst'.1.at fun o q => (sb.2 it (Ne.symm hne)).trans q, hne⟩, fun b hb => ?_⟩
    · have e1 : ((i + 1 : Nat) : Int) = (i : Int) + 1 := by omega
      rw [e1]; exact he'
    · have hb' : b < s.heap.objs.size := by
        have e' : b = e ∨ b = it := by simpa using hb
        rcases e' with z | z
        · rw [z]; exact hel
        · rw [z]; exact hil
      rw [upd_ne (Nat.ne_of_lt hb')]
      exact (hf b hb).1
  done := by
    intro X hP hw hK hc i pins s σ H E I hf st hg
    subst hP hw hK
    obtain ⟨⟨old, he⟩, hit, hne⟩ := st
    obtain ⟨xs, hq, hx⟩ := hg
    obtain ⟨its, rv, p, hz⟩ := I.tuple hq
    have p : s.heap.IsTuple a its.toArray := p
    obtain ⟨f0, f1, f2, f3, f4, f5⟩ := hf it (by simp)
    have hl := rv.length
    have hai : a ≠ it := fun z => by
      obtain ⟨o1, g1, _, n1, d1⟩ := p
      obtain ⟨o2, g2, _, d2⟩ := hit
      rw [z, g2] at g1
      cases g1
      rw [d2] at d1
      cases d1
    exact wpAny_pyNext_enum_endD (Draws.tupleEnd (A := X.A.in1) (show X.A.in1.handled = none from I.ok.hd hc) it a hai its.toArray i (by simp; omega)) he ⟨rfl, hit, p⟩ fun h' eb => ⟨rfl, I.turned (t' := s.toks) (fun b o hb q => eb b o hb q) f0 f1 f3 f4 f5⟩
  self := fun A i s Q E st h => let ⟨⟨_, he⟩, _⟩ := st; wpAny_pyIter_enum he h
def iEnumA (K : PySem.W.Frag) (ta : TA) : TI := fun σ H R => ta σ H fun vs H1 => ∃ a xs, vs = [.ref a] ∧ ((SqL K H1 a xs ∧ R (Ite K a) H1) ∨ (SqT K H1 a xs ∧ R (IteT K a) H1))
theorem pi_enumA {X : Cx} {e : Expr} {ta : TA} {p pos tpos : Pos} {elts : List Expr} {kk : Nat} (hg : Gl X "enumerate") (hm : X.mg "enumerate" = none) (ha : PA X [e] ta) (hs : starEach [e] X.env = [(false, eval e X.env)] := by rfl) :
    PI X (.Tuple elts kk tpos) (.Call (.Name "enumerate" p) [e] [] pos) (iEnumA X.K ta) := by
  refine ⟨fun pins s σ H R I h => ?_⟩
  refine Call_ (ld_blt I hg hm boot_enumerate (PyProof.Rows.callWith_type1 (thn (ha.run pos pins s σ H _ I h) fun us s1 ⟨vs, H1, I1, r1, q1⟩ => ?_) hs rfl))
  obtain ⟨a, xs, ex, q1⟩ := q1
  subst ex
  cases r1 with
  | cons r rr =>
    cases rr
    cases r
    have fresh : ∀ b, b ∈ [s1.heap.objs.size + 1, s1.heap.objs.size] → FpOk X pins H1 b := fun b hb => by
      have e' : b = s1.heap.objs.size + 1 ∨ b = s1.heap.objs.size := by simpa using hb
      have hle : s1.heap.objs.size ≤ b := by
        rcases e' with z | z
        · rw [z]; exact Nat.le_add_right _ _
        · rw [z]; exact Nat.le_refl _
      exact I1.fpOk hle (I1.hok.fresh hle)
    rcases q1 with ⟨hq, q⟩ | ⟨hq, q⟩
    · obtain ⟨its, rv, p', hz⟩ := I1.list hq
      refine call_enumerate_list p'.isList fun h' he hit hsz hk => wpAny_pyIter_enum he ?_
      have I2 : Inv X pins σ H1 { s1 with heap := h' } := I1.kept (t' := s1.toks) hk
      exact ⟨s1.heap.objs.size + 1, [s1.heap.objs.size + 1, s1.heap.objs.size], _, _, H1, rfl, I2, turn_enum a (s1.heap.objs.size + 1) s1.heap.objs.size, ⟨⟨.none, he⟩, hit, Nat.succ_ne_self _⟩, fresh, q⟩
    · obtain ⟨its, rv, p', hz⟩ := I1.tuple hq
      have p' : s1.heap.IsTuple a its.toArray := p'
      refine enum_begins1 (begins_tuple a its.toArray) p' fun h' he ho hsz hk => wpAny_pyIter_enum he ?_
      have I2 : Inv X pins σ H1 { s1 with heap := h' } := I1.kept (t' := s1.toks) hk
      exact ⟨s1.heap.objs.size + 1, [s1.heap.objs.size + 1, s1.heap.objs.size], _, _, H1, rfl, I2, turn_enumT a (s1.heap.objs.size + 1) s1.heap.objs.size, ⟨⟨.none, he⟩, ⟨_, ho, rfl, rfl⟩, Nat.succ_ne_self _⟩, fresh, q⟩
end L2
namespace DL
noncomputable section
open PySem PySem.Spec PyProof.Rows L2
section
variable {X : Cx} {tg e : Expr} {f : DEx} {fs : List DEx} {p pos : Pos}
/-- enumerate of a list or a tuple -/
def iEnumB (f : DEx) : DIt := fun ρ => match f ρ with
  | some (.fz (.list ds), ρ1) => some (enumD 0 ds, ρ1)
  | some (.fz (.tuple ds), ρ1) => some (enumD 0 ds, ρ1)
  | _ => none
theorem di_enumB {tpos : Pos} {elts : List Expr} {kk : Nat} (hg : Gl X "enumerate") (hm : X.mg "enumerate" = none) (ha : DE X e f) (hs : starEach [e] X.env = [(false, eval e X.env)] := by rfl) (hs2 : starEach [e] X.env = (false, eval e X.env) :: starEach [] X.env := by rfl) :
    DI X (.Tuple elts kk tpos) (.Call (.Name "enumerate" p) [e] [] pos) (iEnumB f) :=
  PI.mono (pi_enumA hg hm (da_cons ha da_nil hs2) hs) fun σ H R w => by
    obtain ⟨C, G, ρ, s, ds, ρ', e, q⟩ := w
    unfold iEnumB at e
    split at e
    · rename_i xs ρ1 e1
      cases e
      refine use_A s (rs := [.fz (.list xs)]) (ρ' := ρ') (by unfold eArgs; rw [e1]; rfl) fun us G1 H1 v1 p1 => ?_
      match us, p1 with
      | [u], ⟨h, _⟩ =>
        cases (show Dp _ _ u (.list xs) from h) with
        | @lst a vs _ h1 h2 =>
          refine ⟨a, vs, rfl, .inl ⟨SqL.mono v1.stt.gh h1, q _ G1 H1 v1 ⟨fun i H' sb hi => ?_, fun H' sb => ⟨vs, SqL.mono sb h1, by rw [enumD_len, DpAll.length h2]; exact Nat.le_refl _⟩, fun i H' x H'' sb y d hd => .inr ?_⟩⟩⟩
          · rw [enumD_len] at hi
            obtain ⟨w, k1, _⟩ := DpAll.get h2 (List.getElem?_eq_getElem hi)
            exact ⟨vs, w, SqL.mono sb h1, k1⟩
          · obtain ⟨T, z, rfl, nT, rfl, fz⟩ := y
            obtain ⟨e', k1, rfl⟩ := enumD_get hd
            obtain ⟨w, k2, k3⟩ := DpAll.get h2 k1
            have := fz vs (SqL.mono sb h1)
            rw [k2] at this
            cases this
            exact ⟨T, _, _, rfl, rfl, nT, by rw [Nat.zero_add], .cons (.int _) (.cons k3 .nil)⟩
    · rename_i xs ρ1 e1
      cases e
      refine use_A s (rs := [.fz (.tuple xs)]) (ρ' := ρ') (by unfold eArgs; rw [e1]; rfl) fun us G1 H1 v1 p1 => ?_
      match us, p1 with
      | [u], ⟨h, _⟩ =>
        cases (show Dp _ _ u (.tuple xs) from h) with
        | @tup a vs _ h1 h2 =>
          refine ⟨a, vs, rfl, .inr ⟨SqT.mono v1.stt.gh h1, q _ G1 H1 v1 ⟨fun i H' sb hi => ?_, fun H' sb => ⟨vs, SqT.mono sb h1, by rw [enumD_len, DpAll.length h2]; exact Nat.le_refl _⟩, fun i H' x H'' sb y d hd => .inr ?_⟩⟩⟩
          · rw [enumD_len] at hi
            obtain ⟨w, k1, _⟩ := DpAll.get h2 (List.getElem?_eq_getElem hi)
            exact ⟨vs, w, SqT.mono sb h1, k1⟩
          · obtain ⟨T, z, rfl, nT, rfl, fz⟩ := y
            obtain ⟨e', k1, rfl⟩ := enumD_get hd
            obtain ⟨w, k2, k3⟩ := DpAll.get h2 k1
            have := fz vs (SqT.mono sb h1)
            rw [k2] at this
            cases this
            exact ⟨T, _, _, rfl, rfl, nT, by rw [Nat.zero_add], .cons (.int _) (.cons k3 .nil)⟩
    · cases e
/-- zip of two lists or two tuples -/
def iZipB (f g : DEx) : DIt := fun ρ => match eArgs [f, g] ρ with
  | some ([.fz (.list xs), .fz (.list ys)], ρ1) => some (zipD xs ys, ρ1)
  | some ([.fz (.tuple xs), .fz (.tuple ys)], ρ1) => some (zipD xs ys, ρ1)
  | _ => none
theorem di_zipB {e2 : Expr} {g : DEx} {tpos : Pos} {elts : List Expr} {kk : Nat} (hg : Gl X "zip") (hm : X.mg "zip" = none) (ha : DA X [e, e2] [f, g])
    (hs : starEach [e, e2] X.env = (false, eval e X.env) :: starEach [e2] X.env := by rfl) (hpl : (backTo pos (starEach [e2] X.env)).any (·.1) = false := by rfl) :
    DI X (.Tuple elts kk tpos) (.Call (.Name "zip" p) [e, e2] [] pos) (iZipB f g) :=
  PI.mono (RZ.pi_zipA hg hm ha hs hpl) fun σ H R w => by
    obtain ⟨C, G, ρ, s, ds, ρ', e, q⟩ := w
    unfold iZipB at e
    split at e
    · rename_i xs ys ρ1 e1
      cases e
      refine use_A s e1 fun us G1 H1 v1 p1 => ?_
      match us, p1 with
      | [u, w], ⟨h, k, _⟩ =>
        cases (show Dp _ _ u (.list xs) from h) with
        | @lst a vs _ h1 h2 =>
          cases (show Dp _ _ w (.list ys) from k) with
          | @lst b ws _ k1 k2 =>
            refine ⟨a, b, vs, ws, rfl, .inl ⟨SqL.mono v1.stt.gh h1, SqL.mono v1.stt.gh k1, q _ G1 H1 v1 ⟨fun i H' sb hi => ?_, fun H' sb => ⟨vs, ws, SqL.mono sb h1, SqL.mono sb k1, by rw [zipD_len, DpAll.length h2, DpAll.length k2]; omega⟩, fun i H' x H'' sb y d hd => .inr ?_⟩⟩⟩
            · rw [zipD_len] at hi
              obtain ⟨z1, y1, _⟩ := DpAll.get h2 (List.getElem?_eq_getElem (show i < xs.length by omega))
              obtain ⟨z2, y2, _⟩ := DpAll.get k2 (List.getElem?_eq_getElem (show i < ys.length by omega))
              exact ⟨vs, ws, z1, z2, SqL.mono sb h1, SqL.mono sb k1, y1, y2⟩
            · obtain ⟨T, z1, z2, rfl, nT, rfl, f1, f2⟩ := y
              obtain ⟨a', b', o1, o2, rfl⟩ := zipD_get hd
              obtain ⟨w1, y1, y2⟩ := DpAll.get h2 o1
              obtain ⟨w2, y3, y4⟩ := DpAll.get k2 o2
              have t1 := f1 vs (SqL.mono sb h1)
              have t2 := f2 ws (SqL.mono sb k1)
              rw [y1] at t1; rw [y3] at t2
              cases t1; cases t2
              exact ⟨T, _, _, rfl, rfl, nT, rfl, .cons y2 (.cons y4 .nil)⟩
    · rename_i xs ys ρ1 e1
      cases e
      refine use_A s e1 fun us G1 H1 v1 p1 => ?_
      match us, p1 with
      | [u, w], ⟨h, k, _⟩ =>
        cases (show Dp _ _ u (.tuple xs) from h) with
        | @tup a vs _ h1 h2 =>
          cases (show Dp _ _ w (.tuple ys) from k) with
          | @tup b ws _ k1 k2 =>
            refine ⟨a, b, vs, ws, rfl, .inr ⟨SqT.mono v1.stt.gh h1, SqT.mono v1.stt.gh k1, q _ G1 H1 v1 ⟨fun i H' sb hi => ?_, fun H' sb => ⟨vs, ws, SqT.mono sb h1, SqT.mono sb k1, by rw [zipD_len, DpAll.length h2, DpAll.length k2]; omega⟩, fun i H' x H'' sb y d hd => .inr ?_⟩⟩⟩
            · rw [zipD_len] at hi
              obtain ⟨z1, y1, _⟩ := DpAll.get h2 (List.getElem?_eq_getElem (show i < xs.length by omega))
              obtain ⟨z2, y2, _⟩ := DpAll.get k2 (List.getElem?_eq_getElem (show i < ys.length by omega))
              exact ⟨vs, ws, z1, z2, SqT.mono sb h1, SqT.mono sb k1, y1, y2⟩
            · obtain ⟨T, z1, z2, rfl, nT, rfl, f1, f2⟩ := y
              obtain ⟨a', b', o1, o2, rfl⟩ := zipD_get hd
              obtain ⟨w1, y1, y2⟩ := DpAll.get h2 o1
              obtain ⟨w2, y3, y4⟩ := DpAll.get k2 o2
              have t1 := f1 vs (SqT.mono sb h1)
              have t2 := f2 ws (SqT.mono sb k1)
              rw [y1] at t1; rw [y3] at t2
              cases t1; cases t2
              exact ⟨T, _, _, rfl, rfl, nT, rfl, .cons y2 (.cons y4 .nil)⟩
    · cases e
end
end
end DL
/-! x, y = a, b where not both names are fast ones. -/
namespace DL
noncomputable section
open PySem PySem.Spec PyProof.Rows L2
def tParT (K : PySem.W.Frag) (i j : Nat) (ta : TA) : TS := tAsg (tTup ta) (gTup K 2 (gCons (gName i) (gCons (gName j) gNil)))
theorem OwnAt.upd {K : PySem.W.Frag} {G H : Hp} {p q : Addr} {o : HO} {xs : List D} (h : OwnAt K G H p xs) (n : H q = none) : OwnAt K G (upd H q o) p xs := by
  obtain ⟨g, vs, e, d⟩ := h
  refine ⟨g, vs, ?_, d⟩
  rw [upd_ne (fun z => by rw [z, n] at e; cases e)]
  exact e
theorem ls_parT {K : PySem.W.Frag} {i j : Nat} {fs : List DEx} {Dn : Ends} {σ : L2.St} {H : Hp} (h : liftS K (sPar i j fs) Dn σ H) : tParT K i j (liftA K (eArgs fs)) Dn σ H := by
  obtain ⟨C, G, ρ, s, q⟩ := h
  unfold sPar at q
  cases hf : eArgs fs ρ with
  | none => rw [hf] at q; exact q.elim
  | some z =>
    obtain ⟨rs, ρ1⟩ := z
    rw [hf] at q
    refine use_A s hf fun us G1 H1 v1 p1 => ?_
    split at q
    · rename_i a b ρ1' e0
      cases e0
      match us, p1 with
      | [u, w], ⟨h1, h2, _⟩ =>
        refine ⟨show 2 ≤ sizeLine by decide, fun p hp => ⟨p, [u, w], rfl, SqT.of upd_same, rfl, u, [w], rfl, w, [], rfl, rfl, ?_⟩⟩
        have v2 := v1.trans (Ev.newL (o := .tup [u, w]) v1.stt hp)
        split at q
        · rename_i ρ2 e1
          split at q
          · rename_i ρ3 e2
            exact q _ G1 _ ((v2.stt.putV e1 h1).putV e2 h2) v2.sub
          · exact q.elim
        · exact q.elim
    · rename_i a b ρ1' e0
      cases e0
      match us, p1 with
      | [u, w], ⟨h1, h2, _⟩ =>
        refine ⟨show 2 ≤ sizeLine by decide, fun p hp => ⟨p, [u, w], rfl, SqT.of upd_same, rfl, u, [w], rfl, w, [], rfl, rfl, ?_⟩⟩
        have v2 := v1.trans (Ev.newL (o := .tup [u, w]) v1.stt hp)
        split at q
        · rename_i ρ2 e1
          split at q
          · rename_i ρ3 e2
            obtain ⟨p', rfl, n, k⟩ := h1
            obtain ⟨n0, no⟩ := frn s v2 n
            exact q _ G1 _ ((v2.stt.putN e1 (k.upd hp) n0 no).putV e2 h2) v2.sub
          · exact q.elim
        · exact q.elim
    · rename_i a b ρ1' e0
      cases e0
      match us, p1 with
      | [u, w], ⟨h1, h2, _⟩ =>
        refine ⟨show 2 ≤ sizeLine by decide, fun p hp => ⟨p, [u, w], rfl, SqT.of upd_same, rfl, u, [w], rfl, w, [], rfl, rfl, ?_⟩⟩
        have v2 := v1.trans (Ev.newL (o := .tup [u, w]) v1.stt hp)
        split at q
        · rename_i ρ2 e1
          split at q
          · rename_i ρ3 e2
            obtain ⟨p', rfl, n, k⟩ := h2
            obtain ⟨n0, no⟩ := frn s v2 n
            exact q _ G1 _ ((v2.stt.putV e1 h1).putN e2 (k.upd hp) n0 fun z => no (oa_put e1 v2.stt.len (.inr rfl) z)) v2.sub
          · exact q.elim
        · exact q.elim
    · exact q.elim
section
variable {X : Cx}
theorem ds_parT {i j : Nat} {x y : Str} {a b : Expr} {fs : List DEx} {px py pt pos : Pos} {kt k2 pt2} (hc : X.calm = true) (hN : X.N.Nodup) (hi : X.N[i]? = some x) (hj : X.N[j]? = some y)
    (hx : Loc X.env.scope x) (hy : Loc X.env.scope y) (ha : DA X [a, b] fs)
    (hf : X.fn x = true ∨ X.env.scope.names.lookup x = some .local := by first | exact .inl rfl | exact .inr rfl | assumption)
    (hf2 : X.fn y = true ∨ X.env.scope.names.lookup y = some .local := by first | exact .inl rfl | exact .inr rfl | assumption)
    (hg : (assignEach [.Name x px, .Name y py] X.env).map (·.2) = assign (.Name x px) X.env :: (assignEach [.Name y py] X.env).map (·.2) := by rfl)
    (hg2 : (assignEach [.Name y py] X.env).map (·.2) = assign (.Name y py) X.env :: (assignEach [] X.env).map (·.2) := by rfl)
    (hn : (assignEach [.Name x px, .Name y py] X.env).length = 2 := by rfl) (hst : (assignEach [.Name x px, .Name y py] X.env).findIdx? (·.1) = none := by rfl)
    (hw : swappedStores [.Tuple [.Name x px, .Name y py] kt pt] (.Tuple [a, b] k2 pt2) X.env = pure none := by rfl)
    (hs : swapsWithSole [.Tuple [.Name x px, .Name y py] kt pt] (.Tuple [a, b] k2 pt2) pos.line X.env = pure false := by rfl)
    (h1 : (assignEach [.Tuple [.Name x px, .Name y py] kt pt] X.env).map (·.2) = [assign (.Tuple [.Name x px, .Name y py] kt pt) X.env] := by rfl) :
    DS X (.Assign [.Tuple [.Name x px, .Name y py] kt pt] (.Tuple [a, b] k2 pt2) pos) (sPar i j fs) :=
  PS.mono (ps_asg (pe_tup ha) (pg_tup hc (pgs_cons (pg_name hN hi hx hf) (pgs_cons (pg_name hN hj hy hf2) pgs_nil hg2) hg) hn hst) hs hw h1) fun _ _ _ => ls_parT
end
end
end DL
/-! x, y = a, b with two new lists. -/
namespace DL
noncomputable section
open PySem PySem.Spec PyProof.Rows L2
def sParF (i j : Nat) (f g : DEx) : DSt := fun ρ => match f ρ with
  | some (.fr a, ρ1) => match g ρ1 with
    | some (.fr b, ρ2) => match put i (.own a) ρ2 with
      | some ρ3 => match put j (.own b) ρ3 with
        | some ρ4 => .nx ρ4
        | none => .bad
      | none => .bad
    | _ => .bad
  | _ => .bad
section
variable {X : Cx}
theorem ls_parF {K : PySem.W.Frag} {i j : Nat} {f g : DEx} {Dn : Ends} {σ : L2.St} {H : Hp} (h : liftS K (sParF i j f g) Dn σ H) : tPar i j (tCons (liftE K f) (tCons (liftE K g) tNil)) Dn σ H := by
  obtain ⟨C, G, ρ, s, q⟩ := h
  unfold sParF at q
  split at q
  · rename_i a ρ1 hf
    split at q
    · rename_i b ρ2 hg
      split at q
      · rename_i ρ3 e1
        split at q
        · rename_i ρ4 e2
          refine use_E s hf fun x G1 H1 v1 p1 => use_E v1.stt hg fun y G2 H2 v2 p2 => ⟨x, y, rfl, ?_⟩
          have p1' := RepR.step s v1 p1 v2
          obtain ⟨p, rfl, n1, k1⟩ := p1'
          obtain ⟨p', rfl, n2, k2⟩ := p2
          obtain ⟨q0, e0, _, k0⟩ := p1
          cases e0
          have hne : p ≠ p' := fun z => by
            obtain ⟨_, vs, e3, _⟩ := k0
            rw [z, n2] at e3
            cases e3
          have v := v1.trans v2
          obtain ⟨m1, no1⟩ := frn s v n1
          obtain ⟨m2, no2⟩ := frn v1.stt v2 n2
          exact q _ G2 H2 ((v.stt.putN e1 k1 m1 no1).putN e2 k2 m2 fun z => no2 (oa_put e1 v.stt.len (.inl fun w => hne (by cases w; rfl)) z)) v.sub
        · exact q.elim
      · exact q.elim
    · exact q.elim
  · exact q.elim
theorem ds_parF {i j : Nat} {x y : Str} {a b : Expr} {f g : DEx} {px py pt pos : Pos} {kt k2 pt2} (hc : X.calm = true) (hN : X.N.Nodup) (hi : X.N[i]? = some x) (hj : X.N[j]? = some y) (hij : i ≠ j)
    (hx : X.env.scope.names.lookup x = some .local) (hy : X.env.scope.names.lookup y = some .local) (ha : DE X a f) (hb : DE X b g)
    (hs1 : starEach [a, b] X.env = (false, eval a X.env) :: starEach [b] X.env := by rfl) (hs2 : starEach [b] X.env = (false, eval b X.env) :: starEach [] X.env := by rfl)
    (hw : swappedStores [.Tuple [.Name x px, .Name y py] kt pt] (.Tuple [a, b] k2 pt2) X.env = pure (some [x, y]) := by rfl)
    (hs : swapsWithSole [.Tuple [.Name x px, .Name y py] kt pt] (.Tuple [a, b] k2 pt2) pos.line X.env = pure false := by rfl) :
    DS X (.Assign [.Tuple [.Name x px, .Name y py] kt pt] (.Tuple [a, b] k2 pt2) pos) (sParF i j f g) :=
  PS.mono (ps_par hc hN hi hj hij hx hy (pa_cons ha (pa_cons hb pa_nil hs2) hs1) hw hs) fun _ _ _ => ls_parF
end
end
end DL
/-! Dicts that have a name of their own: keys whole numbers and texts. -/
namespace DL
noncomputable section
open PySem PySem.Spec PyProof.Rows L2
def keyOf : D → Option Key
  | .int i => some (.inl i)
  | .str x => some (.inr x)
  | _ => none
def dval (kvs : List (Key × D)) (k : Key) : Option D := (kvs.find? fun kv => decide (kv.1 = k)).map (·.2)
def dput (kvs : List (Key × D)) (k : Key) (d : D) : List (Key × D) :=
  if (kvs.any fun kv => decide (kv.1 = k)) = true then kvs.map (fun kv => if kv.1 = k then (kv.1, d) else kv) else kvs ++ [(k, d)]
theorem dval_pos {p : Key × D} {r : List (Key × D)} {k : Key} (e : p.1 = k) : dval (p :: r) k = some p.2 := by simp [dval, List.find?_cons, e]
theorem dval_neg {p : Key × D} {r : List (Key × D)} {k : Key} (e : ¬ p.1 = k) : dval (p :: r) k = dval r k := by simp [dval, List.find?_cons, e]
section
variable {K : PySem.W.Frag} {C : EC} {σ : L2.St} {ρ ρ' : DL.Env} {G H : Hp}
theorem keyOf_rep {u : V} {d : D} {k : Key} (h : Dp K G u d) (e : keyOf d = some k) : u = kV k := by
  cases h with
  | int i => cases e; rfl
  | str x => cases e; rfl
  | non => cases e
  | bl b => cases e
  | lst _ _ => cases e
  | tup _ _ => cases e
  | dct _ _ _ => cases e
theorem DkAll.val : ∀ {vs : List (Key × V)} {kvs : List (Key × D)}, DkAll K G vs kvs → ∀ k, (valV vs k = none ∧ dval kvs k = none) ∨ ∃ u d, valV vs k = some u ∧ dval kvs k = some d ∧ Dp K G u d
  | [], [], _, k => .inl ⟨rfl, rfl⟩
  | [], _ :: _, h, _ => by cases h.1
  | _ :: _, [], h, _ => by cases h.1
  | (a, u) :: vs, (b, d) :: kvs, ⟨h1, h2⟩, k => by
    have h1 : a :: vs.map (·.1) = b :: kvs.map (·.1) := h1
    have e : a = b := (List.cons.inj h1).1
    subst e
    cases h2 with
    | cons hd ht =>
      by_cases h : a = k
      · exact .inr ⟨u, d, valV_pos (p := (a, u)) h, dval_pos (p := (a, d)) h, hd⟩
      · rw [valV_neg (p := (a, u)) h, dval_neg (p := (a, d)) h]
        exact DkAll.val ⟨(List.cons.inj h1).2, ht⟩ k
theorem DkAll.any : ∀ {vs : List (Key × V)} {kvs : List (Key × D)}, DkAll K G vs kvs → ∀ k, (vs.any fun kv => decide (kv.1 = k)) = kvs.any fun kv => decide (kv.1 = k)
  | [], [], _, k => rfl
  | [], _ :: _, h, _ => by cases h.1
  | _ :: _, [], h, _ => by cases h.1
  | (a, u) :: vs, (b, d) :: kvs, ⟨h1, h2⟩, k => by
    have h1 : a :: vs.map (·.1) = b :: kvs.map (·.1) := h1
    cases h2 with
    | cons hd ht => rw [List.any_cons, List.any_cons, DkAll.any ⟨(List.cons.inj h1).2, ht⟩ k, (List.cons.inj h1).1]
theorem DkAll.repl {u : V} {d : D} (hd : Dp K G u d) (k : Key) : ∀ {vs : List (Key × V)} {kvs : List (Key × D)}, DkAll K G vs kvs → DkAll K G (vs.map fun kv => if kv.1 = k then (kv.1, u) else kv) (kvs.map fun kv => if kv.1 = k then (kv.1, d) else kv)
  | [], [], h => h
  | [], _ :: _, h => by cases h.1
  | _ :: _, [], h => by cases h.1
  | (a, x) :: vs, (b, y) :: kvs, ⟨h1, h2⟩ => by
    have h1 : a :: vs.map (·.1) = b :: kvs.map (·.1) := h1
    have e : a = b := (List.cons.inj h1).1
    subst e
    cases h2 with
    | cons hx ht =>
      obtain ⟨q1, q2⟩ := DkAll.repl hd k ⟨(List.cons.inj h1).2, ht⟩
      by_cases h : a = k
      · simp only [List.map_cons, h, if_true]
        exact ⟨congrArg (k :: ·) q1, .cons hd q2⟩
      · simp only [List.map_cons, h, if_false]
        exact ⟨congrArg (a :: ·) q1, .cons hx q2⟩
theorem DkAll.put {vs : List (Key × V)} {kvs : List (Key × D)} (h : DkAll K G vs kvs) (k : Key) {u : V} {d : D} (hd : Dp K G u d) : DkAll K G (putK vs k u) (dput kvs k d) := by
  unfold putK dput
  rw [h.any k]
  by_cases e : (kvs.any fun kv => decide (kv.1 = k)) = true
  · rw [if_pos e, if_pos e]
    exact h.repl hd k
  · rw [if_neg e, if_neg e]
    refine ⟨?_, ?_⟩
    · rw [List.map_append, List.map_append, h.1]; rfl
    · rw [List.map_append, List.map_append]
      exact DpAll.append h.2 (.cons hd .nil)
theorem DkAll.len {vs : List (Key × V)} {kvs : List (Key × D)} (h : DkAll K G vs kvs) : vs.length = kvs.length := by
  have := congrArg List.length h.1
  simpa using this
theorem dp_key : ∀ k : Key, Dp K G (kV k) (keyD k)
  | .inl i => .int i
  | .inr x => .str x
theorem DkAll.keys : ∀ {vs : List (Key × V)} {kvs : List (Key × D)}, DkAll K G vs kvs → DpAll K G (vs.map fun kv => kV kv.1) (kvs.map fun kv => keyD kv.1)
  | [], [], _ => .nil
  | [], _ :: _, h => by cases h.1
  | _ :: _, [], h => by cases h.1
  | (a, u) :: vs, (b, d) :: kvs, ⟨h1, h2⟩ => by
    have h1 : a :: vs.map (·.1) = b :: kvs.map (·.1) := h1
    have e : a = b := (List.cons.inj h1).1
    subst e
    cases h2 with
    | cons hd ht => exact .cons (dp_key a) (DkAll.keys ⟨(List.cons.inj h1).2, ht⟩)
theorem Stt.putDc (s : Stt K C G H σ ρ) {i : Nat} {kvs : List (Key × D)} {p : Addr} (h : DL.put i (.dc kvs) ρ = some ρ') (k : DicAt K G H p kvs) (n : C.H0 p = none) (no : ¬ OA σ ρ p) : Stt K C G H (σ.set i (some (.ref p))) ρ' :=
  s.put h ⟨p, rfl, k, n⟩ fun j c hj e hc z => no ⟨j, c, e, hc, z⟩
end
/-! ### x = {} -/
def sDct0 (i : Nat) : DSt := fun ρ => match put i (.dc []) ρ with
  | some ρ1 => .nx ρ1
  | none => .bad
section
variable {X : Cx} {i j : Nat}
theorem ds_dct0 {x : Str} {pos' pd pos : Pos} (hN : X.N.Nodup) (hi : X.N[i]? = some x) (hx : Loc X.env.scope x) (hs : swapsWith (.Dict [] [] pd) (some (.Name x pos')) pos.line X.env = pure false := by rfl) (hf : X.fn x = true ∨ X.env.scope.names.lookup x = some .local := by first | exact .inl rfl | exact .inr rfl | assumption) :
    DS X (.Assign [.Name x pos'] (.Dict [] [] pd) pos) (sDct0 i) := PS.mono (ps_set hN hi hx pe_dnewK hs hf) fun Dn σ H h => by
  obtain ⟨C, G, ρ, s, q⟩ := h
  unfold sDct0 at q
  cases e : put i (.dc []) ρ with
  | none => rw [e] at q; exact q.elim
  | some ρ1 =>
    rw [e] at q
    intro p hp
    have v1 := Ev.newL (o := .dK []) s hp
    obtain ⟨n0, no⟩ := frn s v1 hp
    exact q _ G _ (v1.stt.putDc e ⟨s.fresh0 hp, [], upd_same, rfl, .nil⟩ n0 no) (Sub.refl G)
/-- x, y = {}, e -/
def sParD0 (i j : Nat) (f : DEx) : DSt := fun ρ => match f ρ with
  | some (.fz d, ρ1) => match put i (.dc []) ρ1 with
    | some ρ2 => match put j (.v d) ρ2 with
      | some ρ3 => .nx ρ3
      | none => .bad
    | none => .bad
  | some (.fr xs, ρ1) => match put i (.dc []) ρ1 with
    | some ρ2 => match put j (.own xs) ρ2 with
      | some ρ3 => .nx ρ3
      | none => .bad
    | none => .bad
  | _ => .bad
theorem ls_parD0 {K : PySem.W.Frag} {f : DEx} {Dn : Ends} {σ : L2.St} {H : Hp} (h : liftS K (sParD0 i j f) Dn σ H) : tPar i j (tCons tDNewK (tCons (liftE K f) tNil)) Dn σ H := by
  obtain ⟨C, G, ρ, s, q⟩ := h
  unfold sParD0 at q
  intro p hp
  have v0 := Ev.newL (o := .dK []) s hp
  have hpn : upd H p (.dK []) p ≠ none := by rw [upd_same]; simp
  split at q
  · rename_i d ρ1 e1
    split at q
    · rename_i ρ2 e2
      split at q
      · rename_i ρ3 e3
        refine use_E v0.stt e1 fun u G1 H1 v1 p1 => ⟨_, u, rfl, ?_⟩
        have v01 := v0.trans v1
        have gp : G1 p = none := v1.ng p hpn (s.fresh0 hp)
        obtain ⟨n0, no⟩ := frn s v01 hp
        have hp1 : H1 p = some (.dK []) := v1.frm p _ upd_same fun z => (s.oa_some z).1 hp
        exact q _ G1 H1 ((v1.stt.putDc e2 ⟨gp, [], hp1, rfl, .nil⟩ n0 no).putV e3 p1) v01.sub
      · exact q.elim
    · exact q.elim
  · rename_i xs ρ1 e1
    split at q
    · rename_i ρ2 e2
      split at q
      · rename_i ρ3 e3
        refine use_E v0.stt e1 fun u G1 H1 v1 p1 => ⟨_, u, rfl, ?_⟩
        have v01 := v0.trans v1
        have gp : G1 p = none := v1.ng p hpn (s.fresh0 hp)
        obtain ⟨n0, no⟩ := frn s v01 hp
        have hp1 : H1 p = some (.dK []) := v1.frm p _ upd_same fun z => (s.oa_some z).1 hp
        obtain ⟨p', rfl, n, k⟩ := p1
        obtain ⟨m0, mo⟩ := frn v0.stt v1 n
        exact q _ G1 H1 ((v1.stt.putDc e2 ⟨gp, [], hp1, rfl, .nil⟩ n0 no).putN e3 k m0 fun z => mo (oa_put e2 v1.stt.len (.inl fun w => by
          cases w
          exact hpn n) z)) v01.sub
      · exact q.elim
    · exact q.elim
  · exact q.elim
theorem ds_parD0 {x y : Str} {b : Expr} {f : DEx} {px py pt pd : Pos} {kt k2 pt2 pos} (hc : X.calm = true) (hN : X.N.Nodup) (hi : X.N[i]? = some x) (hj : X.N[j]? = some y) (hij : i ≠ j)
    (hx : X.env.scope.names.lookup x = some .local) (hy : X.env.scope.names.lookup y = some .local) (hb : DE X b f)
    (h0 : starEach [.Dict [] [] pd, b] X.env = (false, eval (.Dict [] [] pd) X.env) :: starEach [b] X.env := by rfl)
    (h1 : starEach [b] X.env = (false, eval b X.env) :: starEach [] X.env := by rfl)
    (hw : swappedStores [.Tuple [.Name x px, .Name y py] kt pt] (.Tuple [.Dict [] [] pd, b] k2 pt2) X.env = pure (some [x, y]) := by rfl)
    (hs : swapsWithSole [.Tuple [.Name x px, .Name y py] kt pt] (.Tuple [.Dict [] [] pd, b] k2 pt2) pos.line X.env = pure false := by rfl) :
    DS X (.Assign [.Tuple [.Name x px, .Name y py] kt pt] (.Tuple [.Dict [] [] pd, b] k2 pt2) pos) (sParD0 i j f) :=
  PS.mono (ps_par hc hN hi hj hij hx hy (pa_cons pe_dnewK (pa_cons hb pa_nil h1) h0) hw hs) fun _ _ _ => ls_parD0
/-! ### reading -/
def eDGet2 (i : Nat) (fk fv : DEx) : DEx := fun ρ => match ρ[i]? with
  | some (.dc _) => match fk ρ with
    | some (.fz kd, ρ1) => match fv ρ1 with
      | some (.fz d0, ρ2) => match ρ2[i]? with
        | some (.dc kvs) => match keyOf kd with
          | some k => some (.fz ((dval kvs k).getD d0), ρ2)
          | none => none
        | _ => none
      | _ => none
    | _ => none
  | _ => none
theorem le_dget2 {K : PySem.W.Frag} {fk fv : DEx} {σ : L2.St} {H : Hp} {Q : VK} (h : liftE K (eDGet2 i fk fv) σ H Q) : tDGet2 (tVar i) (liftE K fk) (liftE K fv) σ H Q := by
  obtain ⟨C, G, ρ, s, r, ρ', e, q⟩ := h
  unfold eDGet2 at e
  split at e
  · rename_i kv0 e0
    split at e
    · rename_i kd ρ1 e1
      split at e
      · rename_i d0 ρ2 e2
        split at e
        · rename_i kvs e3
          split at e
          · rename_i k e4
            cases e
            obtain ⟨p, vs0, ep, gp, hp, hd⟩ := s.dic e0
            refine ⟨_, ep, p, rfl, .inl ⟨_, .inl hp⟩, use_E s e1 fun y G1 H1 v1 p1 => use_E v1.stt e2 fun z G2 H2 v2 p2 => ?_⟩
            obtain ⟨p', vs, ep', gp2, hp2, hd2⟩ := v2.stt.dic e3
            rw [ep] at ep'; cases ep'
            have ey := keyOf_rep p1 e4
            subst ey
            refine ⟨valV vs k, .k hp2, ?_⟩
            rcases hd2.val k with ⟨w1, w2⟩ | ⟨u, d, w1, w2, w3⟩
            · rw [w1]; rw [w2] at q; exact q _ G2 H2 (v1.trans v2) p2
            · rw [w1]; rw [w2] at q; exact q _ G2 H2 (v1.trans v2) w3
          · cases e
        · cases e
      · cases e
    · cases e
  · cases e
theorem de_dget2 {x : Str} {ek ev : Expr} {fk fv : DEx} {px apos cpos : Pos} (hu : X.A.units + 1 < cLine) (ho : PE X (.Name x px) (tVar i)) (hk : DE X ek fk) (hv : DE X ev fv) (m : M2 X (.Name x px) "get" apos ek ev cpos) :
    DE X (.Call (.Attribute (.Name x px) "get" apos) [ek, ev] [] cpos) (eDGet2 i fk fv) := PE.mono (pe_dget2 hu ho hk hv m) fun _ _ _ => le_dget2
/-- x[k] -/
def eDIx (i : Nat) (fk : DEx) : DEx := fun ρ => match ρ[i]? with
  | some (.dc _) => match fk ρ with
    | some (.fz kd, ρ1) => match ρ1[i]? with
      | some (.dc kvs) => match keyOf kd with
        | some k => match dval kvs k with
          | some d => some (.fz d, ρ1)
          | none => none
        | none => none
      | _ => none
    | _ => none
  | _ => none
theorem le_dix {K : PySem.W.Frag} {fk : DEx} {σ : L2.St} {H : Hp} {Q : VK} (h : liftE K (eDIx i fk) σ H Q) : tDGet (tVar i) (liftE K fk) σ H Q := by
  obtain ⟨C, G, ρ, s, r, ρ', e, q⟩ := h
  unfold eDIx at e
  split at e
  · rename_i kv0 e0
    split at e
    · rename_i kd ρ1 e1
      split at e
      · rename_i kvs e3
        split at e
        · rename_i k e4
          split at e
          · rename_i d e5
            cases e
            obtain ⟨p, vs0, ep, gp, hp, hd⟩ := s.dic e0
            refine ⟨_, ep, use_E s e1 fun y G1 H1 v1 p1 => ?_⟩
            obtain ⟨p', vs, ep', gp2, hp2, hd2⟩ := v1.stt.dic e3
            rw [ep] at ep'; cases ep'
            have ey := keyOf_rep p1 e4
            subst ey
            rcases hd2.val k with ⟨w1, w2⟩ | ⟨u, d', w1, w2, w3⟩
            · rw [w2] at e5; cases e5
            · rw [w2] at e5; cases e5
              have g := DGet.k (k := k) hp2
              rw [w1] at g
              exact ⟨p, u, rfl, g, q _ G1 H1 v1 w3⟩
          · cases e
        · cases e
      · cases e
    · cases e
  · cases e
theorem de_dix {x : Str} {ek : Expr} {fk : DEx} {px pos : Pos} (hu : X.A.units + 1 < cLine) (ho : PE X (.Name x px) (tVar i)) (hk : DE X ek fk) (hs : NoSl ek := by exact fun _ _ => rfl) :
    DE X (.Subscript (.Name x px) ek pos) (eDIx i fk) := PE.mono (pe_dget hu ho hk hs) fun _ _ _ => le_dix
/-- k in x, k not in x -/
def eDIn (neg : Bool) (fk : DEx) (i : Nat) : DEx := fun ρ => match fk ρ with
  | some (.fz kd, ρ1) => match ρ1[i]? with
    | some (.dc kvs) => match keyOf kd with
      | some k => some (.fz (.bool ((dval kvs k).isSome != neg)), ρ1)
      | none => none
    | _ => none
  | _ => none
theorem le_din {K : PySem.W.Frag} {fk : DEx} {σ : L2.St} {H : Hp} {Q : VK} (h : liftE K (eDIn false fk i) σ H Q) : tDIn (liftE K fk) (tVar i) σ H Q := by
  obtain ⟨C, G, ρ, s, r, ρ', e, q⟩ := h
  unfold eDIn at e
  split at e
  · rename_i kd ρ1 e1
    split at e
    · rename_i kvs e3
      split at e
      · rename_i k e4
        cases e
        refine use_E s e1 fun y G1 H1 v1 p1 => ?_
        obtain ⟨p, vs, ep, gp2, hp2, hd2⟩ := v1.stt.dic e3
        have ey := keyOf_rep p1 e4
        subst ey
        refine ⟨_, ep, p, valV vs k, rfl, .k hp2, ?_⟩
        rcases hd2.val k with ⟨w1, w2⟩ | ⟨u, d', w1, w2, w3⟩
        · rw [w1]; rw [w2] at q; exact q _ G1 H1 v1 (.bl _)
        · rw [w1]; rw [w2] at q; exact q _ G1 H1 v1 (.bl _)
      · cases e
    · cases e
  · cases e
theorem le_dnotin {K : PySem.W.Frag} {fk : DEx} {σ : L2.St} {H : Hp} {Q : VK} (h : liftE K (eDIn true fk i) σ H Q) : tDNotIn (liftE K fk) (tVar i) σ H Q := by
  obtain ⟨C, G, ρ, s, r, ρ', e, q⟩ := h
  unfold eDIn at e
  split at e
  · rename_i kd ρ1 e1
    split at e
    · rename_i kvs e3
      split at e
      · rename_i k e4
        cases e
        refine use_E s e1 fun y G1 H1 v1 p1 => ?_
        obtain ⟨p, vs, ep, gp2, hp2, hd2⟩ := v1.stt.dic e3
        have ey := keyOf_rep p1 e4
        subst ey
        refine ⟨_, ep, p, valV vs k, rfl, .k hp2, ?_⟩
        rcases hd2.val k with ⟨w1, w2⟩ | ⟨u, d', w1, w2, w3⟩
        · rw [w1]; rw [w2] at q; exact q _ G1 H1 v1 (.bl _)
        · rw [w1]; rw [w2] at q; exact q _ G1 H1 v1 (.bl _)
      · cases e
    · cases e
  · cases e
theorem de_din {x : Str} {ek : Expr} {fk : DEx} {px pos : Pos} (hu : X.A.units + 1 < cLine) (ho : PE X (.Name x px) (tVar i)) (hk : DE X ek fk) (hm : behindInMarks .In (.Name x px) = false := by rfl) :
    DE X (.Compare ek [.In] [.Name x px] pos) (eDIn false fk i) := PE.mono (pe_cmp (pc_din hu hk ho) hm) fun _ _ _ => le_din
theorem de_dnotin {x : Str} {ek : Expr} {fk : DEx} {px pos : Pos} (hu : X.A.units + 1 < cLine) (ho : PE X (.Name x px) (tVar i)) (hk : DE X ek fk) (hm : behindInMarks .NotIn (.Name x px) = false := by rfl) :
    DE X (.Compare ek [.NotIn] [.Name x px] pos) (eDIn true fk i) := PE.mono (pe_cmp (pc_dnotin hu hk ho) hm) fun _ _ _ => le_dnotin
/-! ### x[k] = e -/
def sDPut (i : Nat) (fk fv : DEx) : DSt := fun ρ => match fv ρ with
  | some (.fz d, ρ1) => match ρ1[i]? with
    | some (.dc _) => match fk ρ1 with
      | some (.fz kd, ρ2) => match ρ2[i]? with
        | some (.dc kvs) => match keyOf kd with
          | some k => if kvs.length ≤ LIM then .nx (ρ2.set i (.dc (dput kvs k d))) else .bad
          | none => .bad
        | _ => .bad
      | _ => .bad
    | _ => .bad
  | _ => .bad
theorem ds_dput {x : Str} {ei ev : Expr} {fi fv : DEx} {px ps pos : Pos} (hgs : PG X (.Subscript (.Name x px) ei ps) (gSub (tVar i) (liftE X.K fi) rSetD)) (hv : DE X ev fv)
    (hs : swapsWithSole [.Subscript (.Name x px) ei ps] ev pos.line X.env = pure false := by rfl) (hw : swappedStores [.Subscript (.Name x px) ei ps] ev X.env = pure none := by rfl) (h1 : (assignEach [.Subscript (.Name x px) ei ps] X.env).map (·.2) = [assign (.Subscript (.Name x px) ei ps) X.env] := by rfl) :
    DS X (.Assign [.Subscript (.Name x px) ei ps] ev pos) (sDPut i fi fv) := PS.mono (ps_asg hv hgs hs hw (h1 := h1)) fun Dn σ H h => by
  obtain ⟨C, G, ρ, s, q⟩ := h
  unfold sDPut at q
  split at q
  · rename_i d ρ1 e1
    split at q
    · rename_i kv0 e0
      split at q
      · rename_i kd ρ2 e2
        split at q
        · rename_i kvs e3
          split at q
          · rename_i k e4
            split at q
            · rename_i hl
              refine use_E s e1 fun u G1 H1 v1 p1 => ?_
              obtain ⟨p, vs0, ep, gp, hp, hd⟩ := v1.stt.dic e0
              refine ⟨_, ep, use_E v1.stt e2 fun w G2 H2 v2 p2 => ?_⟩
              obtain ⟨p', vs, ep', gp2, hp2, hd2⟩ := v2.stt.dic e3
              rw [ep] at ep'; cases ep'
              have ey := keyOf_rep p2 e4
              subst ey
              refine ⟨p, _, rfl, .k hp2 (by rw [hd2.len]; exact lim_lt hl), ?_⟩
              have v3 := Ev.writeD v2.stt e3 ep (hd2.put k (Dp.mono v2.sub p1))
              exact q σ G2 _ v3.stt (v1.sub.trans v2.sub)
            · exact q.elim
          · exact q.elim
        · exact q.elim
      · exact q.elim
    · exact q.elim
  · exact q.elim
/-- x[k], y = a, b -/
def sDPutPar (i : Nat) (fk : DEx) (j : Nat) (fs : List DEx) : DSt := fun ρ => match eArgs fs ρ with
  | some ([.fz a, .fz b], ρ1) => match ρ1[i]? with
    | some (.dc _) => match fk ρ1 with
      | some (.fz kd, ρ2) => match ρ2[i]? with
        | some (.dc kvs) => match keyOf kd with
          | some k => if kvs.length ≤ LIM then match put j (.v b) (ρ2.set i (.dc (dput kvs k a))) with
              | some ρ3 => .nx ρ3
              | none => .bad
            else .bad
          | none => .bad
        | _ => .bad
      | _ => .bad
    | _ => .bad
  | _ => .bad
theorem ds_dputPar {x y : Str} {ei a b : Expr} {fi : DEx} {fs : List DEx} {px ps py pt pos : Pos} {kt k2 pt2} (hc : X.calm = true) (hgs : PG X (.Subscript (.Name x px) ei ps) (gSub (tVar i) (liftE X.K fi) rSetD)) (hg : PG X (.Name y py) (gName j)) (ha : DA X [a, b] fs)
    (hs : swapsWithSole [.Tuple [.Subscript (.Name x px) ei ps, .Name y py] kt pt] (.Tuple [a, b] k2 pt2) pos.line X.env = pure false := by rfl) (hw : swappedStores [.Tuple [.Subscript (.Name x px) ei ps, .Name y py] kt pt] (.Tuple [a, b] k2 pt2) X.env = pure none := by rfl)
    (h1 : (assignEach [.Tuple [.Subscript (.Name x px) ei ps, .Name y py] kt pt] X.env).map (·.2) = [assign (.Tuple [.Subscript (.Name x px) ei ps, .Name y py] kt pt) X.env] := by rfl)
    (h2 : (assignEach [.Subscript (.Name x px) ei ps, .Name y py] X.env).map (·.2) = assign (.Subscript (.Name x px) ei ps) X.env :: (assignEach [.Name y py] X.env).map (·.2) := by rfl)
    (h3 : (assignEach [.Name y py] X.env).map (·.2) = assign (.Name y py) X.env :: (assignEach [] X.env).map (·.2) := by rfl)
    (hn : (assignEach [.Subscript (.Name x px) ei ps, .Name y py] X.env).length = 2 := by rfl) (hst : (assignEach [.Subscript (.Name x px) ei ps, .Name y py] X.env).findIdx? (·.1) = none := by rfl) :
    DS X (.Assign [.Tuple [.Subscript (.Name x px) ei ps, .Name y py] kt pt] (.Tuple [a, b] k2 pt2) pos) (sDPutPar i fi j fs) :=
  PS.mono (ps_asg (pe_tup ha) (pg_tup hc (pgs_cons hgs (pgs_cons hg pgs_nil h3) h2) hn hst) hs hw (h1 := h1)) fun Dn σ H h => by
  obtain ⟨C, G, ρ, s, q⟩ := h
  unfold sDPutPar at q
  split at q
  · rename_i a b ρ1 e1
    split at q
    · rename_i kv0 e0
      split at q
      · rename_i kd ρ2 e2
        split at q
        · rename_i kvs e3
          split at q
          · rename_i k e4
            split at q
            · rename_i hl
              split at q
              · rename_i ρ3 e5
                refine use_A s e1 fun us G1 H1 v1 p1 => ?_
                match us, p1 with
                | [u, w], ⟨h1, h2, _⟩ =>
                  refine ⟨show 2 ≤ sizeLine by decide, fun t ht => ⟨t, [u, w], rfl, SqT.of upd_same, rfl, u, [w], rfl, ?_⟩⟩
                  have v2 := v1.trans (Ev.newL (o := .tup [u, w]) v1.stt ht)
                  obtain ⟨p, vs0, ep, gp, hp, hd⟩ := v2.stt.dic e0
                  refine ⟨_, ep, use_E v2.stt e2 fun y G2 H2 v3 p3 => ?_⟩
                  obtain ⟨p', vs, ep', gp2, hp2, hd2⟩ := v3.stt.dic e3
                  rw [ep] at ep'; cases ep'
                  have ey := keyOf_rep p3 e4
                  subst ey
                  refine ⟨p, _, rfl, .k hp2 (by rw [hd2.len]; exact lim_lt hl), w, [], rfl, rfl, ?_⟩
                  have v4 := Ev.writeD v3.stt e3 ep (hd2.put k (Dp.mono v3.sub h1))
                  exact q _ G2 _ (v4.stt.putV e5 (Dp.mono v3.sub h2)) (v2.sub.trans v3.sub)
              · exact q.elim
            · exact q.elim
          · exact q.elim
        · exact q.elim
      · exact q.elim
    · exact q.elim
  · exact q.elim
/-! ### list(x) -/
def eDKeys (i : Nat) : DEx := fun ρ => match ρ[i]? with
  | some (.dc kvs) => some (.fr (kvs.map fun kv => keyD kv.1), ρ)
  | _ => none
theorem de_dkeys {x : Str} {px p pos : Pos} (hcalm : X.calm = true) (ho : PE X (.Name x px) (tVar i)) (hg : Gl X "list") (hm : X.mg "list" = none)
    (h1 : starEach [.Name x px] X.env = (false, eval (.Name x px) X.env) :: starEach [] X.env := by rfl) (hpl : (backTo pos (starEach [] X.env)).any (·.1) = false := by rfl) :
    DE X (.Call (.Name "list" p) [.Name x px] [] pos) (eDKeys i) :=
  PE.mono (pe_callTy (call_listD hcalm) hg hm PyProof.Rows.boot_list (pa_cons ho pa_nil h1) (by decide) (by decide) h1 hpl) fun σ H Q h => by
  obtain ⟨C, G, ρ, s, r, ρ', e, q⟩ := h
  unfold eDKeys at e
  split at e
  · rename_i kvs e0
    cases e
    obtain ⟨p, vs, ep, gp, hp, hd⟩ := s.dic e0
    refine ⟨_, ep, p, vs, rfl, .inl hp, fun l hl => ?_⟩
    have v1 := Ev.newL (o := .lst (vs.map fun kv => kV kv.1)) s hl
    exact q _ G _ v1 ⟨l, rfl, hl, s.fresh0 hl, _, upd_same, hd.keys⟩
  · cases e
end
end
end DL
namespace DL
open PySem PySem.Spec PyProof.Rows L2
theorem un1 {u : Nat} (h : u + 64 < cLine) : u + 1 < cLine := Nat.lt_of_le_of_lt (Nat.add_le_add_left (by decide) u) h
end DL
/-! xs[::-1] of a list. -/
namespace DL
noncomputable section
open PySem PySem.Spec PyProof.Rows L2
theorem DpAll.reverse {K : PySem.W.Frag} {G : Hp} : ∀ {us : List V} {ds : List D}, DpAll K G us ds → DpAll K G us.reverse ds.reverse
  | _, _, .nil => .nil
  | _, _, .cons h t => by
    rw [List.reverse_cons, List.reverse_cons]
    exact DpAll.append (DpAll.reverse t) (.cons h .nil)
def eRev (f : DEx) : DEx := fun ρ => match f ρ with
  | some (r, ρ1) => match deref ρ1 r with
    | some (.list xs) => some (.fr xs.reverse, ρ1)
    | _ => none
  | none => none
theorem le_rev {K : PySem.W.Frag} {f : DEx} {σ : L2.St} {H : Hp} {Q : VK} (h : liftE K (eRev f) σ H Q) : tRevL K (liftE K f) σ H Q := by
  obtain ⟨C, G, ρ, s, r, ρ', e, q⟩ := h
  unfold eRev at e
  split at e
  · rename_i r1 ρ1 e1
    split at e
    · rename_i xs e4
      cases e
      refine use_E s e1 fun u G1 H1 v1 p1 => ?_
      obtain ⟨p, ws, rfl, h1, h2⟩ := (view_of v1.stt p1 e4).list v1.stt.gh
      refine ⟨p, ws, rfl, h1, fun p' n => ?_⟩
      exact q _ G1 _ (v1.trans (Ev.newL v1.stt n)) (RepR.lift (r := .fr _) v1 ⟨p', rfl, n, v1.stt.fresh0 n, _, upd_same, DpAll.reverse h2⟩)
    · cases e
  · cases e
theorem de_rev {X : Cx} {e : Expr} {f : DEx} {k : Nat} {p1 p2 p3 pos : Pos} (he : DE X e f) : DE X (.Subscript e (.Slice none none (some (.UnaryOp .USub (.Constant (.int 1) k p1) p2)) p3) pos) (eRev f) :=
  PE.mono (pe_revL he) fun _ _ _ => le_rev
/-- x, y = {}, e where not both names are fast ones -/
theorem ls_parD0T {K : PySem.W.Frag} {i j : Nat} {f : DEx} {Dn : Ends} {σ : L2.St} {H : Hp} (h : liftS K (sParD0 i j f) Dn σ H) : tParT K i j (tCons tDNewK (tCons (liftE K f) tNil)) Dn σ H := by
  obtain ⟨C, G, ρ, s, q⟩ := h
  unfold sParD0 at q
  intro p hp
  have v0 := Ev.newL (o := .dK []) s hp
  have hpn : upd H p (.dK []) p ≠ none := by rw [upd_same]; simp
  split at q
  · rename_i d ρ1 e1
    split at q
    · rename_i ρ2 e2
      split at q
      · rename_i ρ3 e3
        refine use_E v0.stt e1 fun u G1 H1 v1 p1 => ⟨show 2 ≤ sizeLine by decide, fun t ht => ⟨t, [.ref p, u], rfl, SqT.of upd_same, rfl, .ref p, [u], rfl, u, [], rfl, rfl, ?_⟩⟩
        have v2 := v1.trans (Ev.newL (o := .tup [.ref p, u]) v1.stt ht)
        have v02 := v0.trans v2
        have gp : G1 p = none := v2.ng p hpn (s.fresh0 hp)
        obtain ⟨n0, no⟩ := frn s v02 hp
        have hp1 := v2.frm p _ upd_same fun z => (s.oa_some z).1 hp
        exact q _ G1 _ ((v2.stt.putDc e2 ⟨gp, [], hp1, rfl, .nil⟩ n0 no).putV e3 p1) v02.sub
      · exact q.elim
    · exact q.elim
  · rename_i xs ρ1 e1
    split at q
    · rename_i ρ2 e2
      split at q
      · rename_i ρ3 e3
        refine use_E v0.stt e1 fun u G1 H1 v1 p1 => ⟨show 2 ≤ sizeLine by decide, fun t ht => ⟨t, [.ref p, u], rfl, SqT.of upd_same, rfl, .ref p, [u], rfl, u, [], rfl, rfl, ?_⟩⟩
        have v2 := v1.trans (Ev.newL (o := .tup [.ref p, u]) v1.stt ht)
        have v02 := v0.trans v2
        have gp : G1 p = none := v2.ng p hpn (s.fresh0 hp)
        obtain ⟨n0, no⟩ := frn s v02 hp
        have hp1 := v2.frm p _ upd_same fun z => (s.oa_some z).1 hp
        obtain ⟨p', rfl, n, k⟩ := p1
        obtain ⟨m0, mo⟩ := frn v0.stt v2 n
        exact q _ G1 _ ((v2.stt.putDc e2 ⟨gp, [], hp1, rfl, .nil⟩ n0 no).putN e3 (k.upd ht) m0 fun z => mo (oa_put e2 v2.stt.len (.inl fun w => by
          cases w
          exact hpn n) z)) v02.sub
      · exact q.elim
    · exact q.elim
  · exact q.elim
section
variable {X : Cx}
theorem ds_parD0T {i j : Nat} {x y : Str} {b : Expr} {f : DEx} {px py pt pd pos : Pos} {kt k2 pt2} (hc : X.calm = true) (hN : X.N.Nodup) (hi : X.N[i]? = some x) (hj : X.N[j]? = some y)
    (hx : Loc X.env.scope x) (hy : Loc X.env.scope y) (hb : DE X b f)
    (hf : X.fn x = true ∨ X.env.scope.names.lookup x = some .local := by first | exact .inl rfl | exact .inr rfl | assumption)
    (hf2 : X.fn y = true ∨ X.env.scope.names.lookup y = some .local := by first | exact .inl rfl | exact .inr rfl | assumption)
    (q0 : starEach [.Dict [] [] pd, b] X.env = (false, eval (.Dict [] [] pd) X.env) :: starEach [b] X.env := by rfl)
    (q1 : starEach [b] X.env = (false, eval b X.env) :: starEach [] X.env := by rfl)
    (hg : (assignEach [.Name x px, .Name y py] X.env).map (·.2) = assign (.Name x px) X.env :: (assignEach [.Name y py] X.env).map (·.2) := by rfl)
    (hg2 : (assignEach [.Name y py] X.env).map (·.2) = assign (.Name y py) X.env :: (assignEach [] X.env).map (·.2) := by rfl)
    (hn : (assignEach [.Name x px, .Name y py] X.env).length = 2 := by rfl) (hst : (assignEach [.Name x px, .Name y py] X.env).findIdx? (·.1) = none := by rfl)
    (hw : swappedStores [.Tuple [.Name x px, .Name y py] kt pt] (.Tuple [.Dict [] [] pd, b] k2 pt2) X.env = pure none := by rfl)
    (hs : swapsWithSole [.Tuple [.Name x px, .Name y py] kt pt] (.Tuple [.Dict [] [] pd, b] k2 pt2) pos.line X.env = pure false := by rfl)
    (h1 : (assignEach [.Tuple [.Name x px, .Name y py] kt pt] X.env).map (·.2) = [assign (.Tuple [.Name x px, .Name y py] kt pt) X.env] := by rfl) :
    DS X (.Assign [.Tuple [.Name x px, .Name y py] kt pt] (.Tuple [.Dict [] [] pd, b] k2 pt2) pos) (sParD0 i j f) :=
  PS.mono (ps_asg (pe_tup (pa_cons pe_dnewK (pa_cons hb pa_nil q1) q0)) (pg_tup hc (pgs_cons (pg_name hN hi hx hf) (pgs_cons (pg_name hN hj hy hf2) pgs_nil hg2) hg) hn hst) hs hw h1) fun _ _ _ => ls_parD0T
end
end
end DL
/-! dict(pairs).get(k, e) -/
namespace DL
noncomputable section
open PySem PySem.Spec PyProof.Rows L2
def pairsOf : List D → Option (List (Key × D))
  | [] => some []
  | .tuple [kd, v] :: r => match keyOf kd with
    | some k => match pairsOf r with
      | some kvs => some ((k, v) :: kvs)
      | none => none
    | none => none
  | _ => none
def dmerge (kvs : List (Key × D)) : List (Key × D) := kvs.foldl (fun acc kv => dput acc kv.1 kv.2) []
section
variable {K : PySem.W.Frag} {G : Hp}
theorem pairs_rep : ∀ {us : List V} {xs : List D} {kvs : List (Key × D)}, DpAll K G us xs → pairsOf xs = some kvs →
    ∃ (ps : List Addr) (ws : List (Key × V)), us = ps.map V.ref ∧ Paired (fun p kv => SqT K G p [kV kv.1, kv.2]) ps ws ∧ DkAll K G ws kvs
  | [], [], kvs, _, e => by
    cases e
    exact ⟨[], [], rfl, .nil, rfl, .nil⟩
  | [], _ :: _, _, h, _ => nomatch h
  | _ :: _, [], _, h, _ => nomatch h
  | u :: us, x :: xs, kvs, h, e => by
    cases h with
    | cons hd ht =>
      unfold pairsOf at e
      split at e
      · rename_i he
        cases he
      · rename_i kd v r he
        cases he
        split at e
        · rename_i k ek
          split at e
          · rename_i kvs' er
            cases e
            obtain ⟨ps, ws, e1, e2, e3⟩ := pairs_rep ht er
            cases (show Dp K G u (.tuple [kd, v]) from hd) with
            | @tup a vs _ a1 a2 =>
              cases a2 with
              | cons b1 b2 =>
                cases b2 with
                | cons b3 b4 =>
                  cases b4
                  have ey := keyOf_rep b1 ek
                  subst ey
                  exact ⟨a :: ps, (k, _) :: ws, by rw [e1]; rfl, .cons a1 e2, by rw [List.map_cons, List.map_cons, e3.1], .cons b3 e3.2⟩
          · cases e
        · cases e
      · cases e
theorem merge_rep : ∀ {ws : List (Key × V)} {kvs : List (Key × D)}, DkAll K G ws kvs → ∀ {as : List (Key × V)} {bs : List (Key × D)}, DkAll K G as bs → DkAll K G (mergeK as ws) (kvs.foldl (fun acc kv => dput acc kv.1 kv.2) bs)
  | [], [], _, _, _, h => h
  | [], _ :: _, h, _, _, _ => by cases h.1
  | _ :: _, [], h, _, _, _ => by cases h.1
  | (a, u) :: ws, (b, d) :: kvs, ⟨h1, h2⟩, as, bs, h => by
    have h1 : a :: ws.map (·.1) = b :: kvs.map (·.1) := h1
    have e : a = b := (List.cons.inj h1).1
    subst e
    cases h2 with
    | cons hd ht => exact merge_rep ⟨(List.cons.inj h1).2, ht⟩ (h.put a hd)
end
def eDictGet (f fk fv : DEx) : DEx := fun ρ => match f ρ with
  | some (r, ρ1) => match deref ρ1 r with
    | some (.list xs) => match pairsOf xs with
      | some kvs => match fk ρ1 with
        | some (.fz kd, ρ2) => match fv ρ2 with
          | some (.fz d0, ρ3) => match keyOf kd with
            | some k => some (.fz ((dval (dmerge kvs) k).getD d0), ρ3)
            | none => none
          | _ => none
        | _ => none
      | none => none
    | _ => none
  | none => none
section
variable {X : Cx} {e ek ev : Expr} {f fk fv : DEx} {p pos apos cpos : Pos}
theorem de_dictGet (hu : X.A.units + 1 < cLine) (hcalm : X.calm = true) (hg : Gl X "dict") (hm : X.mg "dict" = none) (hb : bootBuiltins "dict" = some (.type "dict")) (he : DE X e f) (hk : DE X ek fk) (hv : DE X ev fv)
    (m : M2 X (.Call (.Name "dict" p) [e] [] pos) "get" apos ek ev cpos)
    (h1 : starEach [e] X.env = (false, eval e X.env) :: starEach [] X.env := by rfl) (hpl : (backTo pos (starEach [] X.env)).any (·.1) = false := by rfl) :
    DE X (.Call (.Attribute (.Call (.Name "dict" p) [e] [] pos) "get" apos) [ek, ev] [] cpos) (eDictGet f fk fv) :=
  PE.mono (pe_dget2 hu (pe_callTy (call_dictP hcalm) hg hm hb (pa_cons he pa_nil h1) (by decide) (by decide) h1 hpl) hk hv m) fun σ H Q h => by
  obtain ⟨C, G, ρ, s, r, ρ', e, q⟩ := h
  unfold eDictGet at e
  split at e
  · rename_i r1 ρ1 e1
    split at e
    · rename_i xs e2
      split at e
      · rename_i kvs e3
        split at e
        · rename_i kd ρ2 e4
          split at e
          · rename_i d0 ρ3 e5
            split at e
            · rename_i k e6
              cases e
              refine use_E s e1 fun u G1 H1 v1 p1 => ?_
              obtain ⟨a, us, rfl, b1, b2⟩ := (view_of v1.stt p1 e2).list v1.stt.gh
              obtain ⟨ps, ws, rfl, c2, c3⟩ := pairs_rep b2 e3
              refine ⟨a, ps, ws, rfl, b1, Paired.mapP c2 fun _ _ z => SqT.mono v1.stt.gh z, fun t ht => ?_⟩
              have hm0 := merge_rep c3 (as := []) (bs := []) ⟨rfl, .nil⟩
              have v2 := Ev.newL (o := .dK (mergeK [] ws)) v1.stt ht
              refine ⟨t, rfl, .inl ⟨_, .inl upd_same⟩, use_E v2.stt e4 fun y G2 H2 v3 p3 => use_E v3.stt e5 fun z G3 H3 v4 p4 => ?_⟩
              have v34 := v3.trans v4
              have ht3 : H3 t = some (.dK (mergeK [] ws)) := v34.frm t _ upd_same fun w => (v1.stt.oa_some w).1 ht
              have ey := keyOf_rep p3 e6
              subst ey
              refine ⟨valV _ k, .k ht3, ?_⟩
              have v14 := v1.trans (v2.trans v34)
              rcases (hm0.mono v34.sub).val k with ⟨w1, w2⟩ | ⟨u', d', w1, w2, w3⟩
              · rw [w1]; rw [show dval (dmerge kvs) k = none from w2] at q; exact q _ G3 H3 v14 p4
              · rw [w1]; rw [show dval (dmerge kvs) k = some d' from w2] at q; exact q _ G3 H3 v14 w3
            · cases e
          · cases e
        · cases e
      · cases e
    · cases e
  · cases e
end
end
end DL
/-! Dicts that stay, as data: {}, a dict of one's own that stays from now on, reading, walking, dict(pairs). -/
namespace L2
open PySem PySem.Spec PyProof.Rows
section
variable {X : Cx}
/-- a thing is known to its object from now on -/
def tKnowS (t : TS) : TS := fun D σ H => ∃ d u, H d = some u ∧ Mut (some u) ∧ ∀ od, t D σ (upd H d (.frz od u))
theorem ps_know {st : Stmt} {t : TS} (h : PS X st t) : PS X st (tKnowS t) := by
  refine ⟨fun pins s σ H D I hw => ?_⟩
  obtain ⟨d, u, hd, mu, hw⟩ := hw
  obtain ⟨od, I1⟩ := I.lock hd mu
  exact h.run pins s σ _ D I1 (hw od)
/-- what an expression gives is known to its object from now on -/
def tKnowE (t : TE) : TE := fun σ H Q => t σ H fun v H1 => ∃ d u, H1 d = some u ∧ Mut (some u) ∧ ∀ od, Q v (upd H1 d (.frz od u))
theorem pe_know {e : Expr} {t : TE} (h : PE X e t) : PE X e (tKnowE t) := by
  refine ⟨fun pins s σ H Q I hw => ?_⟩
  refine thn (h.run pins s σ H _ I hw) fun v s1 ⟨x, H1, I1, r, d, u, hd, mu, q⟩ => ?_
  obtain ⟨od, I2⟩ := I1.lock hd mu
  exact ⟨x, _, I2, r, q od⟩
end
end L2
namespace DL
noncomputable section
open PySem PySem.Spec PyProof.Rows L2
/-- the entries of a dict as data -/
def dkvs (kvs : List (Key × D)) : List (PyData × PyData) := kvs.map fun kv => (keyD kv.1, kv.2)
def kvsOf : List (PyData × PyData) → Option (List (Key × D))
  | [] => some []
  | (kd, v) :: r => match keyOf kd with
    | some k => match kvsOf r with
      | some kvs => some ((k, v) :: kvs)
      | none => none
    | none => none
theorem keyOf_keyD (k : Key) : keyOf (keyD k) = some k := by cases k <;> rfl
theorem kvsOf_dkvs : ∀ kvs : List (Key × D), kvsOf (dkvs kvs) = some kvs
  | [] => rfl
  | (k, v) :: r => by
    show kvsOf ((keyD k, v) :: dkvs r) = _
    rw [kvsOf, keyOf_keyD, kvsOf_dkvs r]
def dOf : RV → Option (List (Key × D))
  | .fz (.dict kvs) => kvsOf kvs
  | _ => none
theorem kvs_rep {K : PySem.W.Frag} {G : Hp} : ∀ {vs : List (Key × V)} {kvs : List (PyData × PyData)} {ks : List (Key × D)}, vs.map (fun kv => keyD kv.1) = kvs.map (·.1) → DpAll K G (vs.map (·.2)) (kvs.map (·.2)) → kvsOf kvs = some ks → DkAll K G vs ks
  | [], [], ks, _, _, e => by cases e; exact ⟨rfl, .nil⟩
  | [], _ :: _, _, h, _, _ => by cases h
  | _ :: _, [], _, h, _, _ => by cases h
  | (k, u) :: vs, (kd, d) :: kvs, ks, h, t, e => by
    have h1 : keyD k = kd := (List.cons.inj h).1
    have h2 : vs.map (fun kv => keyD kv.1) = kvs.map (·.1) := (List.cons.inj h).2
    subst h1
    rw [kvsOf, keyOf_keyD] at e
    cases t with
    | cons t1 t2 =>
      cases e2 : kvsOf kvs with
      | none => rw [e2] at e; cases e
      | some ks' =>
        rw [e2] at e
        cases e
        have ih := kvs_rep h2 t2 e2
        exact ⟨by rw [List.map_cons, List.map_cons, ih.1], .cons t1 ih.2⟩
theorem dOf_rep {K : PySem.W.Frag} {G H0 H : Hp} {σ : L2.St} {ρ : DL.Env} {u : V} {r : RV} {ks : List (Key × D)} (h : RepR K G H0 H σ ρ u r) (e : dOf r = some ks) : ∃ a o vs, u = .ref a ∧ G a = some (.frz o (.dK vs)) ∧ DkAll K G vs ks := by
  unfold dOf at e
  split at e
  · cases (show Dp K G u (.dict _) from h) with
    | dct h1 h2 h3 => exact ⟨_, _, _, rfl, h1, kvs_rep h2 h3 e⟩
  · cases e
theorem dct_of {K : PySem.W.Frag} {G : Hp} {a : Addr} {o : Obj} {vs : List (Key × V)} {kvs : List (Key × D)} (h : G a = some (.frz o (.dK vs))) (d : DkAll K G vs kvs) : Dp K G (.ref a) (.dict (dkvs kvs)) := by
  refine .dct h ?_ ?_
  · unfold dkvs
    rw [List.map_map]
    show vs.map (fun kv => keyD kv.1) = kvs.map (fun kv => keyD kv.1)
    have := congrArg (List.map keyD) d.1
    rwa [List.map_map, List.map_map] at this
  · unfold dkvs
    rw [List.map_map]
    exact d.2
/-! ### {} -/
def eDct0 : DEx := fun ρ => some (.fz (.dict []), ρ)
section
variable {X : Cx} {pos : Pos}
theorem de_dct0 : DE X (.Dict [] [] pos) eDct0 := PE.mono (pe_know pe_dnewK) fun σ H Q h => by
  obtain ⟨C, G, ρ, s, r, ρ', e, q⟩ := h
  cases e
  intro p hp
  refine ⟨p, _, upd_same, trivial, fun od => ?_⟩
  have eu : upd (upd H p (.dK [])) p (.frz od (.dK [])) = upd H p (.frz od (.dK [])) := by
    funext a
    by_cases h : a = p
    · rw [h, upd_same, upd_same]
    · rw [upd_ne h, upd_ne h, upd_ne h]
  rw [eu]
  exact q _ (upd G p (.frz od (.dK []))) _ (Ev.newT s hp) (.dct upd_same rfl .nil)
end
/-! ### a dict of one's own stays from now on -/
theorem Stt.freezeD {K : PySem.W.Frag} {C : EC} {σ : L2.St} {ρ : DL.Env} {G H : Hp} (s : Stt K C G H σ ρ) {i : Nat} {kvs : List (Key × D)} (e : ρ[i]? = some (.dc kvs)) :
    ∃ p vs, H p = some (.dK vs) ∧ ∀ od, ∃ G', Sub G G' ∧ Stt K C G' (upd H p (.frz od (.dK vs))) σ (ρ.set i (.v (.dict (dkvs kvs)))) := by
  have hi : i < ρ.length := (List.getElem?_eq_some_iff.mp e).1
  obtain ⟨x, e1, p, rfl, ⟨g, vs, hv, hd⟩, n⟩ := s.cell i _ e
  refine ⟨p, vs, hv, fun od => ?_⟩
  have sb : Sub G (upd G p (.frz od (.dK vs))) := Sub.upd g
  refine ⟨upd G p (.frz od (.dK vs)), sb, ⟨fun b o z => ?_, s.g0.trans sb, fun b o z hq => ?_, by simp [s.len], fun j cj ej => ?_, fun j l cj cl q e1' e2' h1 h2 z1 z2 => ?_, fun q hq => ?_, fun b h1 h2 => ?_⟩⟩
  · by_cases hb : b = p
    · subst hb; rw [upd_same] at z ⊢; exact z
    · rw [upd_ne hb] at z ⊢; exact s.gh b o z
  · rw [upd_ne (fun w => by rw [w, n] at z; cases z)]
    exact s.ext b o z hq
  · by_cases hj : j = i
    · subst hj
      rw [List.getElem?_set_self hi] at ej
      cases ej
      exact ⟨_, e1, _, rfl, dct_of upd_same (hd.mono sb)⟩
    · rw [List.getElem?_set_ne (Ne.symm hj)] at ej
      obtain ⟨y, e2, k2⟩ := s.cell j cj ej
      refine ⟨y, e2, ?_⟩
      have np : ∀ p' , y = some (.ref p') → (cont cj).isSome = true → p' ≠ p := fun p' z hc w => by
        subst w
        exact hj (s.dj j i cj _ p' ej e hc rfl (by rw [e2, z]) e1)
      cases cj with
      | un => trivial
      | v d =>
        obtain ⟨u, e, q⟩ := k2
        exact ⟨u, e, Dp.mono sb q⟩
      | own ys =>
        obtain ⟨p', e3, ⟨q1, us, q2, q3⟩, z2⟩ := k2
        have ne := np p' e3 rfl
        exact ⟨p', e3, ⟨by rw [upd_ne ne]; exact q1, us, by rw [upd_ne ne]; exact q2, DpAll.mono sb q3⟩, z2⟩
      | par ys =>
        obtain ⟨p', e3, ⟨q1, us, q2, q3⟩, z2⟩ := k2
        have ne := np p' e3 rfl
        exact ⟨p', e3, ⟨by rw [upd_ne ne]; exact q1, us, by rw [upd_ne ne]; exact q2, DpAll.mono sb q3⟩, z2⟩
      | dc ys =>
        obtain ⟨p', e3, ⟨q1, us, q2, q3⟩, z2⟩ := k2
        have ne := np p' e3 rfl
        exact ⟨p', e3, ⟨by rw [upd_ne ne]; exact q1, us, by rw [upd_ne ne]; exact q2, q3.mono sb⟩, z2⟩
  · have sh : ∀ {m : Nat} {c : Cell}, (ρ.set i (.v (.dict (dkvs kvs))))[m]? = some c → (cont c).isSome = true → ρ[m]? = some c := fun {m c} em hc => by
      by_cases hm : m = i
      · subst hm
        rw [List.getElem?_set_self hi] at em
        cases em
        cases hc
      · rwa [List.getElem?_set_ne (Ne.symm hm)] at em
    exact s.dj j l cj cl q (sh e1' h1) (sh e2' h2) h1 h2 z1 z2
  · obtain ⟨⟨xs, ex⟩, e2⟩ := s.pal q hq
    refine ⟨⟨xs, ?_⟩, e2⟩
    rw [List.getElem?_set_ne (fun w => by rw [← w, e] at ex; cases ex)]
    exact ex
  · rw [upd_ne (fun w => h1 (by rw [w]; exact n))]
    exact s.ng0 b h1 h2
/-- a dict of its own stays from now on, ahead of a statement -/
def sFrzD (i : Nat) (g : DSt) : DSt := fun ρ => match ρ[i]? with
  | some (.dc kvs) => g (ρ.set i (.v (.dict (dkvs kvs))))
  | _ => g ρ
theorem PS.either {X : Cx} {st : Stmt} {t t' : TS} (h : PS X st t) (k : PS X st t') : PS X st (fun D σ H => t D σ H ∨ t' D σ H) :=
  ⟨fun pins s σ H D I q => q.elim (fun z => h.run pins s σ H D I z) fun z => k.run pins s σ H D I z⟩
theorem ds_frzD {X : Cx} {st : Stmt} {g : DSt} (i : Nat) (h : DS X st g) : DS X st (sFrzD i g) := PS.mono (PS.either h (ps_know h)) fun Dn σ H q => by
  obtain ⟨C, G, ρ, s, o⟩ := q
  unfold sFrzD at o
  split at o
  · rename_i kvs e
    obtain ⟨p, vs, hp, w⟩ := s.freezeD e
    refine .inr ⟨p, _, hp, trivial, fun od => ?_⟩
    obtain ⟨G', sb, s'⟩ := w od
    exact ⟨C, G', _, s', OutOk.sub sb o⟩
  · exact .inl ⟨C, G, ρ, s, o⟩
/-! ### reading -/
def eDGetA (f fk fv : DEx) : DEx := fun ρ => match f ρ with
  | some (r, ρ1) => match dOf r with
    | some kvs => match fk ρ1 with
      | some (.fz kd, ρ2) => match fv ρ2 with
        | some (.fz d0, ρ3) => match keyOf kd with
          | some k => some (.fz ((dval kvs k).getD d0), ρ3)
          | none => none
        | _ => none
      | _ => none
    | none => none
  | none => none
def eDIxA (f fk : DEx) : DEx := fun ρ => match f ρ with
  | some (r, ρ1) => match dOf r with
    | some kvs => match fk ρ1 with
      | some (.fz kd, ρ2) => match keyOf kd with
        | some k => match dval kvs k with
          | some d => some (.fz d, ρ2)
          | none => none
        | none => none
      | _ => none
    | none => none
  | none => none
def eDInA (neg : Bool) (fk f : DEx) : DEx := fun ρ => match fk ρ with
  | some (.fz kd, ρ1) => match f ρ1 with
    | some (r, ρ2) => match dOf r with
      | some kvs => match keyOf kd with
        | some k => some (.fz (.bool ((dval kvs k).isSome != neg)), ρ2)
        | none => none
      | none => none
    | none => none
  | _ => none
theorem dget_f {H : Hp} {a : Addr} {o : Obj} {kvs : List (Key × V)} {k : Key} (e : H a = some (.frz o (.dK kvs))) : DGet H a (kV k) (valV kvs k) := .inl ⟨kvs, k, .inr ⟨o, e⟩, rfl, rfl⟩
section
variable {X : Cx} {e ek ev : Expr} {f fk fv : DEx} {pos apos cpos : Pos}
theorem de_dgetA (hu : X.A.units + 1 < cLine) (he : DE X e f) (hk : DE X ek fk) (hv : DE X ev fv) (m : M2 X e "get" apos ek ev cpos) :
    DE X (.Call (.Attribute e "get" apos) [ek, ev] [] cpos) (eDGetA f fk fv) := PE.mono (pe_dget2 hu he hk hv m) fun σ H Q h => by
  obtain ⟨C, G, ρ, s, r, ρ', e, q⟩ := h
  unfold eDGetA at e
  split at e
  · rename_i r1 ρ1 e1
    split at e
    · rename_i kvs e2
      split at e
      · rename_i kd ρ2 e3
        split at e
        · rename_i d0 ρ3 e4
          split at e
          · rename_i k e5
            cases e
            refine use_E s e1 fun u G1 H1 v1 p1 => ?_
            obtain ⟨a, o, vs, rfl, ga, hd⟩ := dOf_rep p1 e2
            refine ⟨a, rfl, .inl ⟨vs, .inr ⟨o, v1.stt.gh _ _ ga⟩⟩, use_E v1.stt e3 fun y G2 H2 v2 p2 => use_E v2.stt e4 fun z G3 H3 v3 p3 => ?_⟩
            have ey := keyOf_rep p2 e5
            subst ey
            have v23 := v2.trans v3
            have g3 := v3.stt.gh _ _ (v23.sub _ _ ga)
            refine ⟨valV vs k, dget_f g3, ?_⟩
            rcases (hd.mono v23.sub).val k with ⟨w1, w2⟩ | ⟨u, d, w1, w2, w3⟩
            · rw [w1]; rw [w2] at q; exact q _ G3 H3 (v1.trans v23) p3
            · rw [w1]; rw [w2] at q; exact q _ G3 H3 (v1.trans v23) w3
          · cases e
        · cases e
      · cases e
    · cases e
  · cases e
theorem de_dixA (hu : X.A.units + 1 < cLine) (he : DE X e f) (hk : DE X ek fk) (hs : NoSl ek := by exact fun _ _ => rfl) :
    DE X (.Subscript e ek pos) (eDIxA f fk) := PE.mono (pe_dget hu he hk hs) fun σ H Q h => by
  obtain ⟨C, G, ρ, s, r, ρ', e, q⟩ := h
  unfold eDIxA at e
  split at e
  · rename_i r1 ρ1 e1
    split at e
    · rename_i kvs e2
      split at e
      · rename_i kd ρ2 e3
        split at e
        · rename_i k e5
          split at e
          · rename_i d e6
            cases e
            refine use_E s e1 fun u G1 H1 v1 p1 => ?_
            obtain ⟨a, o, vs, rfl, ga, hd⟩ := dOf_rep p1 e2
            refine use_E v1.stt e3 fun y G2 H2 v2 p2 => ?_
            have ey := keyOf_rep p2 e5
            subst ey
            have g2 := v2.stt.gh _ _ (v2.sub _ _ ga)
            rcases (hd.mono v2.sub).val k with ⟨w1, w2⟩ | ⟨u, d', w1, w2, w3⟩
            · rw [w2] at e6; cases e6
            · rw [w2] at e6; cases e6
              have g := dget_f (k := k) g2
              rw [w1] at g
              exact ⟨a, u, rfl, g, q _ G2 H2 (v1.trans v2) w3⟩
          · cases e
        · cases e
      · cases e
    · cases e
  · cases e
theorem le_dinA {K : PySem.W.Frag} {neg : Bool} {σ : L2.St} {H : Hp} {Q : VK} (h : liftE K (eDInA neg fk f) σ H Q) : liftE K fk σ H fun y H1 => liftE K f σ H1 fun x H2 => ∃ a o, x = .ref a ∧ DGet H2 a y o ∧ Q (.bl (o.isSome != neg)) H2 := by
  obtain ⟨C, G, ρ, s, r, ρ', e, q⟩ := h
  unfold eDInA at e
  split at e
  · rename_i kd ρ1 e1
    split at e
    · rename_i r1 ρ2 e2
      split at e
      · rename_i kvs e3
        split at e
        · rename_i k e4
          cases e
          refine use_E s e1 fun y G1 H1 v1 p1 => use_E v1.stt e2 fun x G2 H2 v2 p2 => ?_
          obtain ⟨a, o, vs, rfl, ga, hd⟩ := dOf_rep p2 e3
          have ey := keyOf_rep p1 e4
          subst ey
          refine ⟨a, valV vs k, rfl, dget_f (v2.stt.gh _ _ ga), ?_⟩
          rcases hd.val k with ⟨w1, w2⟩ | ⟨u, d', w1, w2, w3⟩
          · rw [w1]; rw [w2] at q; exact q _ G2 H2 (v1.trans v2) (.bl _)
          · rw [w1]; rw [w2] at q; exact q _ G2 H2 (v1.trans v2) (.bl _)
        · cases e
      · cases e
    · cases e
  · cases e
theorem de_dinA (hu : X.A.units + 1 < cLine) (he : DE X e f) (hk : DE X ek fk) (hm : behindInMarks .In e = false := by rfl) :
    DE X (.Compare ek [.In] [e] pos) (eDInA false fk f) := PE.mono (pe_cmp (pc_din hu hk he) hm) fun _ _ _ h => by
  have := le_dinA h
  simp only [Bool.bne_false] at this
  exact this
theorem de_dnotinA (hu : X.A.units + 1 < cLine) (he : DE X e f) (hk : DE X ek fk) (hm : behindInMarks .NotIn e = false := by rfl) :
    DE X (.Compare ek [.NotIn] [e] pos) (eDInA true fk f) := PE.mono (pe_cmp (pc_dnotin hu hk he) hm) fun _ _ _ h => by
  have := le_dinA h
  simp only [Bool.bne_true] at this
  exact this
/-! ### walking -/
def iKeysA (f : DEx) : DIt := fun ρ => match f ρ with
  | some (r, ρ1) => match dOf r with
    | some kvs => some (kvs.map fun kv => keyD kv.1, ρ1)
    | none => none
  | none => none
def pairD (kv : Key × D) : D := .tuple [keyD kv.1, kv.2]
def iItemsA (f : DEx) : DIt := fun ρ => match f ρ with
  | some (r, ρ1) => match dOf r with
    | some kvs => some (kvs.map pairD, ρ1)
    | none => none
  | none => none
theorem keyD_rep {K : PySem.W.Frag} {G : Hp} (k : Key) : Dp K G (kV k) (keyD k) := by
  cases k with
  | inl i => exact .int i
  | inr x => exact .str x
theorem dk_get {K : PySem.W.Frag} {G : Hp} : ∀ {vs : List (Key × V)} {kvs : List (Key × D)}, DkAll K G vs kvs → ∀ (i : Nat) (kv : Key × D), kvs[i]? = some kv → ∃ u, vs[i]? = some (kv.1, u) ∧ Dp K G u kv.2
  | [], [], _, _, _, e => by simp at e
  | [], _ :: _, h, _, _, _ => by cases h.1
  | _ :: _, [], h, _, _, _ => by cases h.1
  | (k, u) :: vs, (l, d) :: kvs, ⟨h1, h2⟩, i, kv, e => by
    have h1 : k :: vs.map (·.1) = l :: kvs.map (·.1) := h1
    cases h2 with
    | cons t1 t2 =>
      cases i with
      | zero =>
        have e' : (l, d) = kv := by simpa using e
        subst e'
        have : k = l := (List.cons.inj h1).1
        subst this
        exact ⟨u, by simp, t1⟩
      | succ i =>
        obtain ⟨w, a, b⟩ := dk_get (vs := vs) (kvs := kvs) ⟨(List.cons.inj h1).2, t2⟩ i kv (by simpa using e)
        exact ⟨w, by simpa using a, b⟩
theorem dk_len {K : PySem.W.Frag} {G : Hp} {vs : List (Key × V)} {kvs : List (Key × D)} (h : DkAll K G vs kvs) : vs.length = kvs.length := by
  have := congrArg List.length h.1
  simpa using this
theorem di_keysA {tg : Expr} (he : DE X e f) : DI X tg e (iKeysA f) := PI.mono (pi_keys he) fun σ H R w => by
  obtain ⟨C, G, ρ, s, ds, ρ', e, q⟩ := w
  unfold iKeysA at e
  split at e
  · rename_i r ρ1 e1
    split at e
    · rename_i kvs e2
      cases e
      refine use_E s e1 fun u G1 H1 v1 p1 => ?_
      obtain ⟨a, o, vs, rfl, ga, hd⟩ := dOf_rep p1 e2
      have hl := dk_len hd
      refine ⟨a, o, rfl, .inl ⟨vs, v1.stt.gh _ _ ga, q _ G1 H1 v1 ⟨fun i H' sb hi => ⟨sb _ _ ga, by rw [List.length_map] at hi; omega⟩, fun H' sb => ⟨sb _ _ ga, by rw [List.length_map]; omega⟩, fun i H' x H'' sb y d hdi => .inl ?_⟩⟩⟩
      obtain ⟨rfl, k, v, ek, rfl⟩ := y
      rw [List.getElem?_map] at hdi
      cases hk : kvs[i]? with
      | none => rw [hk] at hdi; cases hdi
      | some kv =>
        rw [hk] at hdi
        cases hdi
        obtain ⟨u, a1, a2⟩ := dk_get hd i kv hk
        rw [ek] at a1
        cases a1
        exact ⟨rfl, keyD_rep kv.1⟩
    · cases e
  · cases e
theorem di_itemsA {elts : List Expr} {kk : Nat} {tpos : Pos} (he : DE X e f) (hbase : attributeBase e "items" X.env (eval e X.env) = eval e X.env := by rfl) (hline : (apos.endLine == cpos.line) = true := by rfl) :
    DI X (.Tuple elts kk tpos) (.Call (.Attribute e "items" apos) [] [] cpos) (iItemsA f) := PI.mono (pi_items he hbase hline) fun σ H R w => by
  obtain ⟨C, G, ρ, s, ds, ρ', e, q⟩ := w
  unfold iItemsA at e
  split at e
  · rename_i r ρ1 e1
    split at e
    · rename_i kvs e2
      cases e
      refine use_E s e1 fun u G1 H1 v1 p1 => ?_
      obtain ⟨a, o, vs, rfl, ga, hd⟩ := dOf_rep p1 e2
      have hl := dk_len hd
      refine ⟨a, o, vs, rfl, v1.stt.gh _ _ ga, q _ G1 H1 v1 ⟨fun i H' sb hi => ⟨sb _ _ ga, by rw [List.length_map] at hi; omega⟩, fun H' sb => ⟨sb _ _ ga, by rw [List.length_map]; omega⟩, fun i H' x H'' sb y d hdi => .inr ?_⟩⟩
      obtain ⟨T, k, v, ek, rfl, nT, rfl⟩ := y
      rw [List.getElem?_map] at hdi
      cases hk : kvs[i]? with
      | none => rw [hk] at hdi; cases hdi
      | some kv =>
        rw [hk] at hdi
        cases hdi
        obtain ⟨u, a1, a2⟩ := dk_get hd i kv hk
        rw [ek] at a1
        cases a1
        exact ⟨T, _, _, rfl, rfl, nT, rfl, .cons (keyD_rep kv.1) (.cons a2 .nil)⟩
    · cases e
  · cases e
end
/-! ### dict(pairs) -/
def eDictOf (f : DEx) : DEx := fun ρ => match f ρ with
  | some (r, ρ1) => match deref ρ1 r with
    | some (.list xs) => match pairsOf xs with
      | some kvs => some (.fz (.dict (dkvs (dmerge kvs))), ρ1)
      | none => none
    | _ => none
  | none => none
section
variable {X : Cx} {e : Expr} {f : DEx} {p pos : Pos}
theorem de_dictOf (hcalm : X.calm = true) (hg : Gl X "dict") (hm : X.mg "dict" = none) (hb : bootBuiltins "dict" = some (.type "dict")) (he : DE X e f)
    (h1 : starEach [e] X.env = (false, eval e X.env) :: starEach [] X.env := by rfl) (hpl : (backTo pos (starEach [] X.env)).any (·.1) = false := by rfl) :
    DE X (.Call (.Name "dict" p) [e] [] pos) (eDictOf f) :=
  PE.mono (pe_know (pe_callTy (call_dictP hcalm) hg hm hb (pa_cons he pa_nil h1) (by decide) (by decide) h1 hpl)) fun σ H Q h => by
  obtain ⟨C, G, ρ, s, r, ρ', e, q⟩ := h
  unfold eDictOf at e
  split at e
  · rename_i r1 ρ1 e1
    split at e
    · rename_i xs e2
      split at e
      · rename_i kvs e3
        cases e
        refine use_E s e1 fun u G1 H1 v1 p1 => ?_
        obtain ⟨a, us, rfl, b1, b2⟩ := (view_of v1.stt p1 e2).list v1.stt.gh
        obtain ⟨ps, ws, rfl, c2, c3⟩ := pairs_rep b2 e3
        refine ⟨a, ps, ws, rfl, b1, Paired.mapP c2 fun _ _ z => SqT.mono v1.stt.gh z, fun t ht => ?_⟩
        have hm0 := merge_rep c3 (as := []) (bs := []) ⟨rfl, .nil⟩
        refine ⟨t, _, upd_same, trivial, fun od => ?_⟩
        have eu : upd (upd H1 t (.dK (mergeK [] ws))) t (.frz od (.dK (mergeK [] ws))) = upd H1 t (.frz od (.dK (mergeK [] ws))) := by
          funext b
          by_cases h : b = t
          · rw [h, upd_same, upd_same]
          · rw [upd_ne h, upd_ne h, upd_ne h]
        rw [eu]
        have v2 := Ev.newT (o := .frz od (.dK (mergeK [] ws))) v1.stt ht
        exact q _ _ _ (v1.trans v2) (dct_of upd_same (hm0.mono v2.sub))
      · cases e
    · cases e
  · cases e
end
end
end DL
/-! zip of a list and a tuple, in any mix. -/
namespace L2
open PySem PySem.Spec PyProof.Rows
/-- a list or a tuple (b) -/
def SqB (K : PySem.W.Frag) (H : Hp) (b : Bool) (a : Addr) (xs : List V) : Prop := if b = true then SqL K H a xs else SqT K H a xs
/-- its iterator, and what it walks -/
def ItB (b : Bool) (it a : Addr) (items : Array Value) (i : Nat) (h : Heap) : Prop := if b = true then h.IsListIter it a i ∧ h.IsList a items else h.IsTupleIter it a i ∧ h.IsTuple a items
def ItB0 (b : Bool) (it a : Addr) (i : Nat) (h : Heap) : Prop := if b = true then h.IsListIter it a i else h.IsTupleIter it a i
def HasB (b : Bool) (a : Addr) (items : Array Value) (h : Heap) : Prop := if b = true then h.IsList a items else h.IsTuple a items
def objB (b : Bool) (a : Addr) : Obj := if b = true then { cls := .type "list_iterator", data := .fields #[.ref a, .int 0 0] } else { cls := .type "tuple_iterator", data := .fields #[.ref a, .int 0 0] }
theorem begins_B (b : Bool) (a : Addr) (items : Array Value) : Begins (.ref a) (objB b a) (HasB b a items) := by
  cases b with
  | true => exact begins_list a items
  | false => exact begins_tuple a items
theorem draws_B {prog : Program} {w : World} {A : Around} (hh : A.handled = none) (b : Bool) (it a : Addr) (hne : a ≠ it) (items : Array Value) (n : Nat) (hn : n = items.size) :
    Draws prog w A it [it, a] n (fun i v => items[i]? = some v) (fun i h => ItB b it a items i h) := by
  subst hn
  cases b with
  | true => exact Draws.list hh it a hne items
  | false => exact Draws.tuple hh it a hne items
theorem ItB.of {b : Bool} {it a : Addr} {items : Array Value} {i : Nat} {h : Heap} (x : ItB0 b it a i h) (y : HasB b a items h) : ItB b it a items i h := by
  cases b with
  | true => exact ⟨x, y⟩
  | false => exact ⟨x, y⟩
theorem ItB.to0 {b : Bool} {it a : Addr} {items : Array Value} {i : Nat} {h : Heap} (x : ItB b it a items i h) : ItB0 b it a i h := by
  cases b with
  | true => exact x.1
  | false => exact x.1
theorem ItB0.get {b : Bool} {it a : Addr} {i : Nat} {h : Heap} (x : ItB0 b it a i h) : ∃ o, h.get? it = some o ∧ ∀ v, o.data ≠ .cell v := by
  cases b with
  | true =>
    obtain ⟨o, e, _, d⟩ := (show h.IsListIter it a i from x)
    exact ⟨o, e, fun v q => by rw [d] at q; cases q⟩
  | false =>
    obtain ⟨o, e, _, d⟩ := (show h.IsTupleIter it a i from x)
    exact ⟨o, e, fun v q => by rw [d] at q; cases q⟩
theorem ItB0.at {b : Bool} {it a : Addr} {i : Nat} {h h' : Heap} (x : ItB0 b it a i h) (k : ∀ o, h.get? it = some o → h'.get? it = some o) : ItB0 b it a i h' := by
  cases b with
  | true => exact Heap.IsListIter.at (show h.IsListIter it a i from x) k
  | false => exact Heap.IsTupleIter.at (show h.IsTupleIter it a i from x) k
theorem HasB.ne {b : Bool} {it a : Addr} {items : Array Value} {i : Nat} {h : Heap} (x : ItB0 b it a i h) (y : HasB b a items h) : a ≠ it := fun z => by
  cases b with
  | true =>
    obtain ⟨o1, g1, _, d1⟩ := (show h.IsListIter it a i from x)
    obtain ⟨o2, g2, _, ⟨n2, d2⟩⟩ := (show h.IsList a items from y)
    rw [z, g1] at g2
    cases g2
    rw [d1] at d2
    cases d2
  | false =>
    obtain ⟨o1, g1, _, d1⟩ := (show h.IsTupleIter it a i from x)
    obtain ⟨o2, g2, _, ⟨n2, d2⟩⟩ := (show h.IsTuple a items from y)
    rw [z, g1] at g2
    cases g2
    rw [d1] at d2
    cases d2
section
variable {X : Cx} {pins : List (Addr × Obj)} {σ : St} {H : Hp} {s : Shared}
theorem Inv.seqB (I : Inv X pins σ H s) {b : Bool} {a : Addr} {xs : List V} (h : SqB X.K H b a xs) : ∃ its : List Value, Vals xs its ∧ HasB b a its.toArray s.heap ∧ a < s.heap.objs.size := by
  cases b with
  | true =>
    obtain ⟨its, rv, p, _⟩ := I.list (show SqL X.K H a xs from h)
    exact ⟨its, rv, p.isList, p.lt⟩
  | false =>
    obtain ⟨its, rv, p, _⟩ := I.tuple (show SqT X.K H a xs from h)
    obtain ⟨o, ho, _⟩ := id p
    exact ⟨its, rv, p, Heap.lt_size ho⟩
theorem Inv.seqB_inj (I : Inv X pins σ H s) {b : Bool} {a : Addr} {xs ys : List V} (h : SqB X.K H b a xs) (k : SqB X.K H b a ys) : xs = ys := by
  cases b with
  | true => exact I.list_inj (show SqL X.K H a xs from h) (show SqL X.K H a ys from k)
  | false => exact I.tuple_inj (show SqT X.K H a xs from h) (show SqT X.K H a ys from k)
end
/-- what stands at a and b at each turn, the items in new pairs -/
def ItzB (K : PySem.W.Frag) (ka kb : Bool) (a b : Addr) : It :=
  ⟨fun i H => ∃ (xs ys : List V) (x y : V), SqB K H ka a xs ∧ SqB K H kb b ys ∧ xs[i]? = some x ∧ ys[i]? = some y,
    fun i H v H' => ∃ T x y, v = .ref T ∧ H T = none ∧ H' = upd H T (.tup [x, y]) ∧ (∀ xs, SqB K H ka a xs → xs[i]? = some x) ∧ ∀ ys, SqB K H kb b ys → ys[i]? = some y,
    fun i H => ∃ xs ys : List V, SqB K H ka a xs ∧ SqB K H kb b ys ∧ i ≤ xs.length ∧ i ≤ ys.length ∧ (xs.length = i ∨ ys.length = i)⟩
theorem turn_zipB {P : Program} {w : World} {K : PySem.W.Frag} {elts : List Expr} {kk : Nat} {tpos : Pos} {ka kb : Bool} {a b z TI TO i1 i2 : Addr} (S : ZipSep2 z TI TO i1 i2 [i1, a] [i2, b]) :
    Turn P w K (.Tuple elts kk tpos) (ItzB K ka kb a b) [z, TI, TO, i1, i2] z (fun i h => IsZip h z TI TO .none ∧ IsTupOf2 h TI (.ref i1) (.ref i2) ∧ (∃ x y, IsTupOf2 h TO x y) ∧ ItB0 ka i1 a i h ∧ ItB0 kb i2 b i h) where
  mem := by simp
  obj := fun i h st c hc => by
    obtain ⟨hz, hTI, ⟨x, y, hTO⟩, h1, h2⟩ := st
    have e' : c = z ∨ c = TI ∨ c = TO ∨ c = i1 ∨ c = i2 := by simpa using hc
    rcases e' with q | q | q | q | q
    · rw [q]; exact ⟨_, hz, fun v q => nomatch q⟩
    · rw [q]; exact ⟨_, hTI, fun v q => nomatch q⟩
    · rw [q]; exact ⟨_, hTO, fun v q => nomatch q⟩
    · rw [q]; exact h1.get
    · rw [q]; exact h2.get
  keep := fun i h h' st k => by
    obtain ⟨hz, hTI, ⟨x, y, hTO⟩, h1, h2⟩ := st
    exact ⟨k z (by simp) _ hz, k TI (by simp) _ hTI, ⟨x, y, k TO (by simp) _ hTO⟩, h1.at fun o q => k i1 (by simp) o q, h2.at fun o q => k i2 (by simp) o q⟩
  item := by
    intro X hP hw hK hc i pins s σ H E I hf st hg
    subst hP hw hK
    obtain ⟨hz, hTI, ⟨x0, y0, hTO⟩, h1, h2⟩ := st
    obtain ⟨xs, ys, x, y, hqx, hqy, hx, hy⟩ := hg
    obtain ⟨its, rv, p, _⟩ := I.seqB hqx
    obtain ⟨its2, rv2, p2, _⟩ := I.seqB hqy
    obtain ⟨u, hu, ru⟩ := rv.get hx
    obtain ⟨u2, hu2, ru2⟩ := rv2.get hy
    have hzl : z < s.heap.objs.size := Heap.lt_size hz
    have hlt : i < its.toArray.size := by have := (List.getElem?_eq_some_iff.mp hu).1; simpa using this
    have hlt2 : i < its2.toArray.size := by have := (List.getElem?_eq_some_iff.mp hu2).1; simpa using this
    refine wpAny_pyNext_zipD2_item S (draws_B (A := X.A.in1) (show X.A.in1.handled = none from I.ok.hd hc) ka i1 a (HasB.ne h1 p) its.toArray _ rfl) (draws_B (A := X.A.in1) (show X.A.in1.handled = none from I.ok.hd hc) kb i2 b (HasB.ne h2 p2) its2.toArray _ rfl)
      hz hTI hTO (ItB.of h1 p) (ItB.of h2 p2) hlt hlt2 fun x1 x2 h' tk e1 e2 z' TO' s1 s2 hT hsz hk => ?_
    have ex : x1 = u := by
      rw [show its.toArray[i]? = some u from by simpa using hu] at e1
      cases e1; rfl
    have ey : x2 = u2 := by
      rw [show its2.toArray[i]? = some u2 from by simpa using hu2] at e2
      cases e2; rfl
    subst ex ey
    refine ⟨_, rfl, wpAny_letOwnedTupleGo_zip (s := { s with heap := h', toks := tk }) z' fun h'' z'' sb => ?_⟩
    have hT2 : h''.get? s.heap.objs.size = some { cls := .type "tuple", data := .seq #[x1, x2] } := (sb.2 _ (Nat.ne_of_gt hzl)).trans hT
    have new : ObjOk X.prog X.w (upd H s.heap.objs.size (.tup [x, y])) h'' s.heap.objs.size (.tup [x, y]) :=
      ⟨by show 2 ≤ sizeLine; decide, [x1, x2], .cons ru (.cons ru2 .nil), ⟨_, hT2, rfl, _, rfl⟩⟩
    have I1 : Inv X pins σ (upd H s.heap.objs.size (.tup [x, y])) { s with heap := h'', toks := tk } :=
      I.turnedNew (ch := [z, TI, TO, i1, i2]) (fun c o hb q => (sb.2 c (fun q' => hb (by simp [q']))).trans (hk c o (fun q' => hb (by simp [q'])) (fun q' => hb (by simp [q'])) (fun q' => hb (by simp [q'])) (fun q' => hb (by simp [q'])) q)) hf (Nat.le_refl _) new
    refine ⟨.ref s.heap.objs.size, _, I1, rfl, ⟨_, x, y, rfl, I.hok.fresh (Nat.le_refl _), rfl, fun l hl => by rw [I.seqB_inj hl hqx]; exact hx, fun l hl => by rw [I.seqB_inj hl hqy]; exact hy⟩, ⟨z'', ?_, ⟨x1, x2, ?_⟩, ?_, ?_⟩, fun c hcm => ?_⟩
    · exact (sb.2 _ S.TIz).trans (hk _ _ S.TIz S.TITO S.TIi1 S.TIi2 hTI)
    · exact (sb.2 _ S.TOz).trans TO'
    · exact s1.to0.at fun o q => (sb.2 _ (Ne.symm S.zi1)).trans q
    · exact s2.to0.at fun o q => (sb.2 _ (Ne.symm S.zi2)).trans q
    · have hlt : c < s.heap.objs.size := by
        have e' : c = z ∨ c = TI ∨ c = TO ∨ c = i1 ∨ c = i2 := by simpa using hcm
        rcases e' with q | q | q | q | q
        · rw [q]; exact hzl
        · rw [q]; exact Heap.lt_size hTI
        · rw [q]; exact Heap.lt_size hTO
        · rw [q]; obtain ⟨_, e1, _⟩ := h1.get; exact Heap.lt_size e1
        · rw [q]; obtain ⟨_, e2, _⟩ := h2.get; exact Heap.lt_size e2
      rw [upd_ne (Nat.ne_of_lt hlt)]
      exact (hf c hcm).1
  done := by
    intro X hP hw hK hc i pins s σ H E I hf st hg
    subst hP hw hK
    obtain ⟨hz, hTI, ⟨x0, y0, hTO⟩, h1, h2⟩ := st
    obtain ⟨xs, ys, hqx, hqy, hi1, hi2, hend⟩ := hg
    obtain ⟨its, rv, p, _⟩ := I.seqB hqx
    obtain ⟨its2, rv2, p2, _⟩ := I.seqB hqy
    have l1 := rv.length
    have l2 := rv2.length
    exact wpAny_pyNext_zipD2_end S (draws_B (A := X.A.in1) (show X.A.in1.handled = none from I.ok.hd hc) ka i1 a (HasB.ne h1 p) its.toArray _ rfl) (draws_B (A := X.A.in1) (show X.A.in1.handled = none from I.ok.hd hc) kb i2 b (HasB.ne h2 p2) its2.toArray _ rfl)
      hz hTI hTO (ItB.of h1 p) (ItB.of h2 p2) (by simp; omega) (by simp; omega) (by simp; omega) fun h' tk hk => ⟨rfl, I.turnedL (ch := [z, TI, TO, i1, i2]) (fun c o hb q =>
      hk c o (fun q' => hb (by simp [q'])) (fun q' => hb (by simp [q'])) (fun q' => hb (by simp [q'])) (fun q' => hb (by simp [q'])) q) hf⟩
  self := fun A i s Q E st h => wpAny_pyIter_zip st.1 h
def iZipM (K : PySem.W.Frag) (ta : TA) : TI := fun σ H R => ta σ H fun vs H1 => ∃ a b ka kb xs ys, vs = [.ref a, .ref b] ∧ SqB K H1 ka a xs ∧ SqB K H1 kb b ys ∧ R (ItzB K ka kb a b) H1
theorem pi_zipM {X : Cx} {e e2 : Expr} {ta : TA} {p pos tpos : Pos} {elts : List Expr} {kk : Nat} (hg : Gl X "zip") (hm : X.mg "zip" = none) (ha : PA X [e, e2] ta)
    (hs : starEach [e, e2] X.env = (false, eval e X.env) :: starEach [e2] X.env := by rfl) (hpl : (backTo pos (starEach [e2] X.env)).any (·.1) = false := by rfl) :
    PI X (.Tuple elts kk tpos) (.Call (.Name "zip" p) [e, e2] [] pos) (iZipM X.K ta) := by
  refine ⟨fun pins s σ H R I h => ?_⟩
  refine Call_ (ld_blt I hg hm PyProof.Rows.boot_zip (PyProof.Rows.callWith_type1 (thn (ha.run pos pins s σ H _ I h) fun us s1 ⟨vs, H1, I1, r1, q1⟩ => ?_) hs hpl))
  obtain ⟨a, b, ka, kb, xs, ys, ex, hqx, hqy, q⟩ := q1
  subst ex
  cases r1 with
  | cons r rr =>
    cases rr with
    | cons r' rr =>
      cases rr
      cases r
      cases r'
      have fresh5 : ∀ c, c ∈ [s1.heap.objs.size + 4, s1.heap.objs.size + 2, s1.heap.objs.size + 3, s1.heap.objs.size, s1.heap.objs.size + 1] → FpOk X pins H1 c := fun c hcm => by
        have e' : c = s1.heap.objs.size + 4 ∨ c = s1.heap.objs.size + 2 ∨ c = s1.heap.objs.size + 3 ∨ c = s1.heap.objs.size ∨ c = s1.heap.objs.size + 1 := by simpa using hcm
        have hle : s1.heap.objs.size ≤ c := by
          rcases e' with z | z | z | z | z
          · rw [z]; exact Nat.le_add_right _ _
          · rw [z]; exact Nat.le_add_right _ _
          · rw [z]; exact Nat.le_add_right _ _
          · rw [z]; exact Nat.le_refl _
          · rw [z]; exact Nat.le_add_right _ _
        exact I1.fpOk hle (I1.hok.fresh hle)
      obtain ⟨its, rv, p1, la⟩ := I1.seqB hqx
      obtain ⟨its2, rv2, p2, lb⟩ := I1.seqB hqy
      refine zip_begins2 (begins_B ka a its.toArray) (begins_B kb b its2.toArray) p1 p2 fun h' hz hTI hTO ho1 ho2 hsz hk => wpAny_pyIter_zip hz ?_
      have I2 : Inv X pins σ H1 { s1 with heap := h' } := I1.kept (t' := s1.toks) hk
      have t1 : ItB0 ka s1.heap.objs.size a 0 h' := by
        cases ka with
        | true => exact ⟨_, ho1, rfl, rfl⟩
        | false => exact ⟨_, ho1, rfl, rfl⟩
      have t2 : ItB0 kb (s1.heap.objs.size + 1) b 0 h' := by
        cases kb with
        | true => exact ⟨_, ho2, rfl, rfl⟩
        | false => exact ⟨_, ho2, rfl, rfl⟩
      exact ⟨s1.heap.objs.size + 4, [s1.heap.objs.size + 4, s1.heap.objs.size + 2, s1.heap.objs.size + 3, s1.heap.objs.size, s1.heap.objs.size + 1], _, _, H1, rfl, I2,
        turn_zipB (zip_sep2 (N := s1.heap.objs.size) (fp1 := [a]) (fp2 := [b]) (fun c hc => by rw [List.mem_singleton] at hc; rw [hc]; exact la) (fun c hc => by rw [List.mem_singleton] at hc; rw [hc]; exact lb)), ⟨hz, hTI, ⟨_, _, hTO⟩, t1, t2⟩, fresh5, q⟩
end L2
namespace DL
noncomputable section
open PySem PySem.Spec PyProof.Rows L2
section
variable {X : Cx} {tg e : Expr} {f : DEx} {fs : List DEx} {p pos : Pos}
def seqOf : RV → Option (Bool × List D)
  | .fz (.list xs) => some (true, xs)
  | .fz (.tuple xs) => some (false, xs)
  | _ => none
/-- zip of two lists or tuples, in any mix -/
def iZipC (f g : DEx) : DIt := fun ρ => match eArgs [f, g] ρ with
  | some ([r, t], ρ1) => match seqOf r, seqOf t with
    | some (_, xs), some (_, ys) => some (zipD xs ys, ρ1)
    | _, _ => none
  | _ => none
theorem seqOf_rep {K : PySem.W.Frag} {G H H0 : Hp} {σ : L2.St} {ρ : DL.Env} {u : V} {r : RV} {k : Bool} {xs : List D} (h : RepR K G H0 H σ ρ u r) (e : seqOf r = some (k, xs)) : ∃ a vs, u = .ref a ∧ SqB K G k a vs ∧ DpAll K G vs xs := by
  unfold seqOf at e
  split at e
  · cases e
    cases (show Dp K G u (.list _) from h) with
    | lst h1 h2 => exact ⟨_, _, rfl, h1, h2⟩
  · cases e
    cases (show Dp K G u (.tuple _) from h) with
    | tup h1 h2 => exact ⟨_, _, rfl, h1, h2⟩
  · cases e
theorem SqB.mono {K : PySem.W.Frag} {G G' : Hp} (s : Sub G G') {k : Bool} {a : Addr} {xs : List V} (h : SqB K G k a xs) : SqB K G' k a xs := by
  cases k with
  | true => exact SqL.mono s (show SqL K G a xs from h)
  | false => exact SqT.mono s (show SqT K G a xs from h)
theorem di_zipC {e2 : Expr} {g : DEx} {tpos : Pos} {elts : List Expr} {kk : Nat} (hg : Gl X "zip") (hm : X.mg "zip" = none) (ha : DA X [e, e2] [f, g])
    (hs : starEach [e, e2] X.env = (false, eval e X.env) :: starEach [e2] X.env := by rfl) (hpl : (backTo pos (starEach [e2] X.env)).any (·.1) = false := by rfl) :
    DI X (.Tuple elts kk tpos) (.Call (.Name "zip" p) [e, e2] [] pos) (iZipC f g) :=
  PI.mono (pi_zipM hg hm ha hs hpl) fun σ H R w => by
    obtain ⟨C, G, ρ, s, ds, ρ', e, q⟩ := w
    unfold iZipC at e
    split at e
    · rename_i r t ρ1 e1
      split at e
      · rename_i ka xs kb ys e2 e3
        cases e
        refine use_A s e1 fun us G1 H1 v1 p1 => ?_
        match us, p1 with
        | [u, w], ⟨h, k, _⟩ =>
          obtain ⟨a, vs, rfl, h1, h2⟩ := seqOf_rep h e2
          obtain ⟨b, ws, rfl, k1, k2⟩ := seqOf_rep k e3
          refine ⟨a, b, ka, kb, vs, ws, rfl, SqB.mono v1.stt.gh h1, SqB.mono v1.stt.gh k1, q _ G1 H1 v1 ⟨fun i H' sb hi => ?_, fun H' sb => ⟨vs, ws, SqB.mono sb h1, SqB.mono sb k1, by rw [zipD_len, DpAll.length h2]; omega, by rw [zipD_len, DpAll.length k2]; omega, by rw [zipD_len, DpAll.length h2, DpAll.length k2]; omega⟩, fun i H' x H'' sb y d hd => .inr ?_⟩⟩
          · rw [zipD_len] at hi
            obtain ⟨z1, y1, _⟩ := DpAll.get h2 (List.getElem?_eq_getElem (show i < xs.length by omega))
            obtain ⟨z2, y2, _⟩ := DpAll.get k2 (List.getElem?_eq_getElem (show i < ys.length by omega))
            exact ⟨vs, ws, z1, z2, SqB.mono sb h1, SqB.mono sb k1, y1, y2⟩
          · obtain ⟨T, z1, z2, rfl, nT, rfl, f1, f2⟩ := y
            obtain ⟨a', b', o1, o2, rfl⟩ := zipD_get hd
            obtain ⟨w1, y1, y2⟩ := DpAll.get h2 o1
            obtain ⟨w2, y3, y4⟩ := DpAll.get k2 o2
            have t1 := f1 vs (SqB.mono sb h1)
            have t2 := f2 ws (SqB.mono sb k1)
            rw [y1] at t1; rw [y3] at t2
            cases t1; cases t2
            exact ⟨T, _, _, rfl, rfl, nT, rfl, .cons y2 (.cons y4 .nil)⟩
      · cases e
    · cases e
end
end
end DL
/-! set of a list of ints: sorted(set(xs)), len(set(xs)); xs.count(x); sorted of tuples of ints. -/
namespace L2
open PySem PySem.Spec PyProof.Rows
section
variable {P : Program} {w : World} {A : Around} {E : Value → Shared → Prop} {s : Shared}
/-- what set(l) leaves -/
abbrev LSet (s : Shared) (w : World) (is : List Int) (r : Value) (s2 : Shared) : Prop :=
  r = Value.none ∧ ∃ G k n, s2 = { s with heap := G, toks := k } ∧ SetR w G s.heap.objs.size (fun j => decide (j ∈ is)) n ∧ n ≤ is.length ∧ ∀ b o, s.heap.get? b = some o → G.get? b = some o
set_option maxHeartbeats 8000000 in
theorem setOfL {l : Addr} {xs : Array Value} (is : List Int) {Q : Value → Shared → Prop} (hA : A.handled = none) (hx : s.heap.IsList l xs) (hi : IntsAre xs.toList is) (hz : is.length + 1 < scanBound)
    (K : ∀ (G : Heap) (k n : Nat), SetR w G s.heap.objs.size (fun j => decide (j ∈ is)) n → n ≤ is.length → (∀ b o, s.heap.get? b = some o → G.get? b = some o) → Q (.ref s.heap.objs.size) { s with heap := G, toks := k }) :
    wpAny (model P w) A (call (.type "set") [.ref l]) Q E s := by
  have nx : xs.size = is.length := (Array.length_toList (xs := xs)).symm.trans (IntsAre.length hi)
  have fresh_at : (s.heap.push ({ cls := .type "set", dict := none, data := .set #[] 0 (.fresh 0 0 (!w.params.followText "set-order")) } : Obj)).get? s.heap.objs.size = some ({ cls := .type "set", dict := none, data := .set #[] 0 (.fresh 0 0 (!w.params.followText "set-order")) } : Obj) := Heap.get?_push_size _ rfl
  have ty_at : Shared.TypeIs { s with heap := (s.heap.push ({ cls := .type "set", dict := none, data := .set #[] 0 (.fresh 0 0 (!w.params.followText "set-order")) } : Obj)) } (.ref s.heap.objs.size) "set" := ⟨_, fresh_at, rfl⟩
  have old : l < s.heap.objs.size := let ⟨_, e, _⟩ := hx; Heap.lt_size e
  obtain ⟨cc, tt, mro⟩ := F.called_set.mro
  have q1 := F.called_set.made
  have q2 := F.called_set.sub
  have q3 := F.called_set.notType
  have q4 := F.called_set.canCreate
  have q5 := F.typeCall_set_1 (.ref l)
  have q6 := F.called_set.init.lookup
  have q7 := F.called_set.init.bind (.ref s.heap.objs.size)
  refine wpAny_call <| codeAny_of_tree <| show wpAny _ _ (callAny (.type "set") _) _ _ _ from wpAny_pure ⟨Code.quiet_builtin _ (by decide +kernel), codeAny_builtin F.entry_type_call ?_⟩
  rw [Around.under_plain (weight_type_call_type "set" [.ref l] []) rfl]
  repeat (any_goals (first | assumption | wp_step))
  refine codeAny_mono (code_set_led1 (.ref l) (E := E) (Q₁ := fun v z => v = .ref s.heap.objs.size ∧ z = { s with heap := (s.heap.push ({ cls := .type "set", dict := none, data := .set #[] 0 (.fresh 0 0 (!w.params.followText "set-order")) } : Obj)) }) ⟨rfl, rfl⟩) fun r z hr => ?_
  match r, hr with
  | .error e, hr => exact hr
  | .ok (.ret v), hr =>
    obtain ⟨rfl, rfl⟩ := hr
    repeat (any_goals (first | assumption | wp_step))
    refine codeAny_mono (codeAny_call_builtin (R := wants (LSet s w is) E) F.called_set.init.plain F.entry_set_init (check_set_init_1 ty_at ?_)) fun r2 z2 hr2 => ?_
    · obtain ⟨⟨_, dd, _, sl⟩, el, ec, nn, ed⟩ := hx
      simp only at ec ed
      subst ec ed
      have el2 : (s.heap.push ({ cls := .type "set", dict := none, data := .set #[] 0 (.fresh 0 0 (!w.params.followText "set-order")) } : Obj)).get? l = some { cls := .type "list", dict := dd, data := .seq xs nn, slots := sl } := Heap.get?_push_of_some _ el
      have lx : (s.heap.push ({ cls := .type "set", dict := none, data := .set #[] 0 (.fresh 0 0 (!w.params.followText "set-order")) } : Obj)).IsList l xs := ⟨_, el2, rfl, nn, rfl⟩
      have y1 := F.sub_list_set
      have y2 := F.sub_list_frozenset
      have y3 : (Value.type "list" == Value.type "dict") = false := by decide
      unfold Builtin.«set.__init__» noKeywords Builtin.Frozenset.updateFrom
      generalize hPI : pyIter = PI
      wp_walk
      subst hPI
      refine wpAny_pyIter_list lx (wpAny_bind (wpAny_runValue ?_))
      have no : A.in1.in1.in1.handled = none := by simp [hA]
      have sz : (s.heap.push ({ cls := .type "set", dict := none, data := .set #[] 0 (.fresh 0 0 (!w.params.followText "set-order")) } : Obj)).objs.size = s.heap.objs.size + 1 := Heap.size_push ..
      have l_ne : l ≠ (s.heap.push ({ cls := .type "set", dict := none, data := .set #[] 0 (.fresh 0 0 (!w.params.followText "set-order")) } : Obj)).objs.size := fun e => Nat.lt_irrefl _ (Nat.lt_of_lt_of_le old (by rw [e, sz]; exact Nat.le_succ _))
      have apart : s.heap.objs.size ∉ [(s.heap.push ({ cls := .type "set", dict := none, data := .set #[] 0 (.fresh 0 0 (!w.params.followText "set-order")) } : Obj)).objs.size, l] := by
        rw [sz]
        intro hm
        rcases List.mem_cons.mp hm with z | z
        · exact absurd z (Nat.ne_of_lt (Nat.lt_succ_self _))
        · rw [List.mem_singleton.mp z] at old
          exact Nat.lt_irrefl _ old
      have each : ∀ (i : Nat) (v : Value), xs[i]? = some v → ∃ k t, is[i]? = some k ∧ v = .int k t := fun i v hv => by
        obtain ⟨t, e⟩ := IntsAre.int_at hi i v (by rw [Array.getElem?_toList, hv])
        have lt : i < is.length := nx ▸ (Array.getElem?_eq_some_iff.mp hv).1
        exact ⟨is[i], t, List.getElem?_eq_getElem lt, by rw [e, List.getD_eq_getElem?_getD, List.getElem?_eq_getElem lt, Option.getD_some]⟩
      refine set_update_ints ((Walks.list no _ l l_ne xs).toS) s.heap.objs.size apart is nx hz each (xs.size - 0) 0 _ (by omega) (Nat.zero_le _) ⟨⟨_, Heap.get?_push_size _ rfl, rfl, rfl⟩, lx.push _⟩ ?start ?stop
      case start => exact ⟨0, Nat.le_refl 0, setR_new_at (Heap.get?_push_of_some _ fresh_at)⟩
      case stop =>
        rintro ⟨G, g, d, k, o⟩ n mv hn R
        have e1 : g = s.gens := mv.gens
        have e2 : d = s.drawn := mv.drawn
        have e3 : o = s.os := mv.os
        subst e1 e2 e3
        refine wpAny_pure (show wpAny _ _ (ret Value.none) _ _ _ from wpAny_pure ⟨rfl, G, k, n, rfl, R, by omega, fun b u e => ?_⟩)
        have lt : b < s.heap.objs.size := Heap.lt_size e
        refine mv.heap b u (fun hm => ?_) (Heap.get?_push_of_some _ (Heap.get?_push_of_some _ e))
        rcases List.mem_cons.mp hm with z | z
        · rw [z] at lt
          exact Nat.lt_irrefl _ lt
        · rw [List.mem_singleton.mp z, sz] at lt
          exact Nat.lt_irrefl _ (Nat.lt_trans lt (Nat.lt_succ_self _))
    · match r2, hr2 with
      | .error e, hr2 => exact hr2
      | .ok (.ret v), hr2 =>
        obtain ⟨rfl, G, k, n, rfl, R, hn, kp⟩ := hr2
        repeat (any_goals (first | assumption | wp_step))
        exact K G k n R hn kp
      | .ok .next, hr2 => exact hr2.elim
      | .ok .brk, hr2 => exact hr2.elim
      | .ok .cont, hr2 => exact hr2.elim
  | .ok .next, hr => exact hr.elim
  | .ok .brk, hr => exact hr.elim
  | .ok .cont, hr => exact hr.elim
end
/-- the members of a list of ints, each once -/
def dedI : List Int → List Int
  | [] => []
  | i :: r => if i ∈ r then dedI r else i :: dedI r
theorem mem_dedI {k : Int} : ∀ {is : List Int}, k ∈ dedI is ↔ k ∈ is
  | [] => by simp [dedI]
  | i :: r => by
    have ih := mem_dedI (k := k) (is := r)
    unfold dedI
    by_cases h : i ∈ r
    · rw [if_pos h, ih, List.mem_cons]
      exact ⟨.inr, fun z => z.elim (fun z => z ▸ h) id⟩
    · rw [if_neg h, List.mem_cons, List.mem_cons, ih]
theorem dedI_nodup : ∀ is : List Int, (dedI is).Nodup
  | [] => List.nodup_nil
  | i :: r => by
    unfold dedI
    by_cases h : i ∈ r
    · rw [if_pos h]; exact dedI_nodup r
    · rw [if_neg h]; exact List.nodup_cons.mpr ⟨fun z => h (mem_dedI.mp z), dedI_nodup r⟩
theorem dedI_len : ∀ is : List Int, (dedI is).length ≤ is.length
  | [] => Nat.le_refl _
  | i :: r => by
    have := dedI_len r
    unfold dedI
    split <;> simp <;> omega
theorem setR_len {w : World} {G : Heap} {a : Addr} {is : List Int} {n : Nat} (R : SetR w G a (fun j => decide (j ∈ is)) n) : n = (dedI is).length := by
  obtain ⟨_, es, _, _, _, _, _, _, nd, mm, _, _, hn, _⟩ := R
  rw [← hn, ← Array.length_toList, ← List.length_map (f := keyOf) (as := es.toList)]
  exact ((List.perm_ext_iff_of_nodup nd (dedI_nodup is)).mpr fun k => by rw [← mm k, mem_dedI, decide_eq_true_eq]).length_eq
section
variable {X : Cx}
/-- set(xs), xs a list of ints -/
def rSetLst (K : PySem.W.Frag) (w : World) : List V → Hp → VK → Prop := fun vs H Q => ∃ (l : Addr) (is : List Int), vs = [.ref l] ∧ SqL K H l (is.map V.int) ∧ is.length ≤ 1000 ∧
  ∀ a, H a = none → Q (.ref a) (upd H a (SetO w a (fun j => decide (j ∈ is)) (dedI is).length))
theorem cr_setLst (hc : X.calm = true) : CallR X (.type "set") (rSetLst X.K X.w) := by
  rintro pins s σ H vs us Q I r ⟨l, is, rfl, hl, h1, q⟩
  rw [Vals.ref1 r]
  obtain ⟨its, rv, hL, _⟩ := I.list hl
  have sb : is.length + 1 < scanBound := by unfold scanBound; omega
  refine setOfL is (I.ok.hd hc) hL.isList (ints_of_vals rv) sb fun G k n R hn kp => ?_
  rw [setR_len R] at R
  exact ⟨.ref s.heap.objs.size, _, I.laid (t' := k) kp (Nat.le_refl _) (setO_new R), rfl, q _ (I.hok.fresh (Nat.le_refl _))⟩
/-- len(s), s a set of ints -/
def rLenSet (w : World) : List V → Hp → VK → Prop := fun vs H Q => ∃ a S n, vs = [.ref a] ∧ H a = some (SetO w a S n) ∧ n ≤ 1000 ∧ Q (.int n) H
theorem cr_lenSet : CallR X (.builtin "len") (rLenSet X.w) := by
  rintro pins s σ H vs us Q I r ⟨a, S, n, rfl, ha, hn, q⟩
  rw [Vals.ref1 r]
  obtain ⟨_, es, _, _, ho, hx, hd, _, _, _, _, hf, e, _⟩ := setO_get I ha
  exact call_len_set ho hx hd hf (by omega) ⟨.int n, H, I.tok _, ⟨_, by rw [e]⟩, q⟩
end
end L2
namespace DL
noncomputable section
open PySem PySem.Spec PyProof.Rows L2
def eSSet (f : DEx) : DEx := fun ρ => match f ρ with
  | some (r, ρ1) => match deref ρ1 r with
    | some (.list xs) => match intsOf xs with
      | some is => if is.length < 64 then some (.fr ((sortI (dedI is)).map .int), ρ1) else none
      | none => none
    | _ => none
  | none => none
def eLSet (f : DEx) : DEx := fun ρ => match f ρ with
  | some (r, ρ1) => match deref ρ1 r with
    | some (.list xs) => match intsOf xs with
      | some is => if is.length ≤ 1000 then some (.fz (.int ((dedI is).length : Nat)), ρ1) else none
      | none => none
    | _ => none
  | none => none
section
variable {X : Cx} {e : Expr} {f : DEx} {p p2 q2 pos : Pos}
theorem de_sset (hc : X.calm = true) (hg : Gl X "sorted") (hm : X.mg "sorted" = none) (hb : bootBuiltins "sorted" = some (.builtin "sorted")) (hg2 : Gl X "set") (hm2 : X.mg "set" = none) (he : DE X e f)
    (h1 : starEach [e] X.env = (false, eval e X.env) :: starEach [] X.env := by rfl) (h2 : (backTo q2 (starEach [] X.env)).any (·.1) = false := by rfl)
    (h3 : starEach [.Call (.Name "set" p2) [e] [] q2] X.env = (false, eval (.Call (.Name "set" p2) [e] [] q2) X.env) :: starEach [] X.env := by rfl) (h4 : (backTo pos (starEach [] X.env)).any (·.1) = false := by rfl) :
    DE X (.Call (.Name "sorted" p) [.Call (.Name "set" p2) [e] [] q2] [] pos) (eSSet f) :=
  PE.mono (pe_callB (cr_sortedSet hc) hg hm hb (pa_cons (pe_callTy (cr_setLst hc) hg2 hm2 boot_set (pa_cons he pa_nil h1) (by decide) (by decide) h1 h2) pa_nil h3) (by decide) (by decide) h3 h4) fun σ H Q h => by
  obtain ⟨C, G, ρ, s, r, ρ', e, q⟩ := h
  unfold eSSet at e
  split at e
  · rename_i r1 ρ1 e1
    split at e
    · rename_i xs e2
      split at e
      · rename_i is e3
        by_cases hl : is.length < 64
        · rw [if_pos hl] at e
          cases e
          refine use_E s e1 fun u G1 H1 v1 p1 => ?_
          obtain ⟨a, us, rfl, b1, b2⟩ := (view_of v1.stt p1 e2).list v1.stt.gh
          rw [intsOf_map e3] at b2
          rw [dpa_ints b2] at b1
          refine ⟨a, is, rfl, b1, by omega, fun t ht => ?_⟩
          have v2 := v1.trans (Ev.newL (o := SetO X.w t (fun j => decide (j ∈ is)) (dedI is).length) v1.stt ht)
          have := dedI_len is
          refine ⟨t, _, _, rfl, upd_same, by omega, fun ns l pw mm _ hn => ?_⟩
          have eq : ns = sortI (dedI is) := sortI_eq ((List.perm_ext_iff_of_nodup (pw.imp fun h => Int.ne_of_lt h) (dedI_nodup is)).mpr fun k => by rw [mm k, mem_dedI, decide_eq_true_eq]) (pw.imp fun h => Int.le_of_lt h)
          rw [eq]
          exact q _ G1 _ (v2.trans (Ev.newL v2.stt hn)) (RepR.lift (r := .fr ((sortI (dedI is)).map .int)) v2 ⟨l, rfl, hn, v2.stt.fresh0 hn, _, upd_same, ints_dpa _⟩)
        · rw [if_neg hl] at e; cases e
      · cases e
    · cases e
  · cases e
theorem de_lset (hc : X.calm = true) (hg : Gl X "len") (hm : X.mg "len" = none) (hb : bootBuiltins "len" = some (.builtin "len")) (hg2 : Gl X "set") (hm2 : X.mg "set" = none) (he : DE X e f)
    (h1 : starEach [e] X.env = (false, eval e X.env) :: starEach [] X.env := by rfl) (h2 : (backTo q2 (starEach [] X.env)).any (·.1) = false := by rfl)
    (h3 : starEach [.Call (.Name "set" p2) [e] [] q2] X.env = (false, eval (.Call (.Name "set" p2) [e] [] q2) X.env) :: starEach [] X.env := by rfl) (h4 : (backTo pos (starEach [] X.env)).any (·.1) = false := by rfl) :
    DE X (.Call (.Name "len" p) [.Call (.Name "set" p2) [e] [] q2] [] pos) (eLSet f) :=
  PE.mono (pe_callB cr_lenSet hg hm hb (pa_cons (pe_callTy (cr_setLst hc) hg2 hm2 boot_set (pa_cons he pa_nil h1) (by decide) (by decide) h1 h2) pa_nil h3) (by decide) (by decide) h3 h4) fun σ H Q h => by
  obtain ⟨C, G, ρ, s, r, ρ', e, q⟩ := h
  unfold eLSet at e
  split at e
  · rename_i r1 ρ1 e1
    split at e
    · rename_i xs e2
      split at e
      · rename_i is e3
        by_cases hl : is.length ≤ 1000
        · rw [if_pos hl] at e
          cases e
          refine use_E s e1 fun u G1 H1 v1 p1 => ?_
          obtain ⟨a, us, rfl, b1, b2⟩ := (view_of v1.stt p1 e2).list v1.stt.gh
          rw [intsOf_map e3] at b2
          rw [dpa_ints b2] at b1
          refine ⟨a, is, rfl, b1, by omega, fun t ht => ?_⟩
          have v2 := v1.trans (Ev.newL (o := SetO X.w t (fun j => decide (j ∈ is)) (dedI is).length) v1.stt ht)
          have := dedI_len is
          exact ⟨t, _, _, rfl, upd_same, by omega, q _ G1 _ v2 (.int _)⟩
        · rw [if_neg hl] at e; cases e
      · cases e
    · cases e
  · cases e
end
/-! ### xs.count(k) -/
def eCount (f fk : DEx) : DEx := fun ρ => match f ρ with
  | some (.fz (.list xs), ρ1) => match intsOf xs with
    | some is => match fk ρ1 with
      | some (.fz (.int k), ρ2) => some (.fz (.int (is.count k : Nat)), ρ2)
      | _ => none
    | none => none
  | _ => none
section
variable {X : Cx} {e ek : Expr} {f fk : DEx} {apos cpos : Pos}
theorem de_count (he : DE X e f) (hk : DE X ek fk)
    (hbase : attributeBase e "count" X.env (eval e X.env) = eval e X.env := by rfl)
    (hfew : ((backTo cpos (starEach [ek] X.env)).all (fun x => !x.1) && (backToKw cpos (keywordEach [] X.env)).all (fun x => x.1.isSome) && decide ([ek].length + ([] : List Keyword).length + (if ([] : List Keyword).isEmpty then 0 else 1) < 30)) = true := by rfl)
    (hline : (apos.endLine == cpos.line) = true := by rfl) (hs : starEach [ek] X.env = (false, eval ek X.env) :: starEach [] X.env := by rfl) (hplain : (backTo cpos (starEach [] X.env)).any (·.1) = false := by rfl) :
    DE X (.Call (.Attribute e "count" apos) [ek] [] cpos) (eCount f fk) :=
  PE.mono (pe_bm PySem.F.plainAttrs_list PySem.F.slot_list_count PySem.F.type_list_count mt_lcount he (pa_cons hk pa_nil hs) hbase hfew hline hs hplain) fun σ H Q h => by
  obtain ⟨C, G, ρ, s, r, ρ', e, q⟩ := h
  unfold eCount at e
  split at e
  · rename_i xs ρ1 e1
    split at e
    · rename_i is e2
      split at e
      · rename_i k ρ2 e3
        cases e
        refine use_E s e1 fun u G1 H1 v1 p1 => ?_
        have p1 : Dp X.K G1 u (.list xs) := p1
        rw [intsOf_map e2] at p1
        cases p1 with
        | lst a b =>
          rw [dpa_ints b] at a
          refine ⟨.inl ⟨rfl, _, SqL.mono v1.stt.gh a⟩, use_E v1.stt e3 fun y G2 H2 v2 p2 => ?_⟩
          have ey := dpi p2
          subst ey
          exact ⟨_, is, k, rfl, rfl, SqL.mono v2.stt.gh (SqL.mono v2.sub a), q _ G2 H2 (v1.trans v2) (.int _)⟩
      · cases e
    · cases e
  · cases e
end
/-! ### sorted of tuples of ints -/
def tupI : D → Option (List Int)
  | .tuple ds => intsOf ds
  | _ => none
def tupOk (d : Nat) (B : Int) (x : D) : Bool := match tupI x with
  | some is => is.length == d && is.all fun i => decide (0 ≤ i ∧ i < B)
  | none => false
def tupC (B : Int) (x : D) : Int := match tupI x with
  | some is => TS.code B is
  | none => 0
def sortT (B : Int) (xs : List D) : List D := xs.mergeSort fun a b => decide (tupC B a ≤ tupC B b)
theorem sortT_perm (B : Int) (xs : List D) : (sortT B xs).Perm xs := List.mergeSort_perm xs _
theorem sortT_sorted (B : Int) (xs : List D) : (sortT B xs).Pairwise fun a b => tupC B a ≤ tupC B b := by
  have h := List.pairwise_mergeSort (le := fun a b : D => decide (tupC B a ≤ tupC B b)) (fun a b c h1 h2 => by
    simp only [decide_eq_true_eq] at *
    omega) (fun a b => by
    simp only [Bool.or_eq_true, decide_eq_true_eq]
    omega) xs
  exact h.imp fun h => by simpa using h
theorem code_inj {B : Int} : ∀ {a b : List Int}, a.length = b.length → TS.Bd B a → TS.Bd B b → TS.code B a = TS.code B b → a = b
  | [], [], _, _, _, _ => rfl
  | [], _ :: _, h, _, _, _ => by cases h
  | _ :: _, [], h, _, _, _ => by cases h
  | d :: r, e :: t, h, ha, hb, hc => by
    have hl : r.length = t.length := by simpa using h
    rcases Int.lt_trichotomy d e with z | z | z
    · have := TS.code_lt hl ha.tail hb.tail z
      omega
    · subst z
      have h1 := TS.code_same (B := B) (d := d) hl
      have h2 := TS.code_same (B := B) (d := d) hl.symm
      rw [code_inj hl ha.tail hb.tail (by
        rcases Int.lt_trichotomy (TS.code B r) (TS.code B t) with y | y | y
        · have := h1.mpr y; omega
        · exact y
        · have := h2.mpr y; omega)]
    · have := TS.code_lt hl.symm hb.tail ha.tail z
      omega
theorem tup_of {d : Nat} {B : Int} {x : D} (h : tupOk d B x = true) : ∃ is, x = .tuple (is.map .int) ∧ tupC B x = TS.code B is ∧ is.length = d ∧ TS.Bd B is := by
  unfold tupOk at h
  split at h
  · rename_i is e
    simp only [Bool.and_eq_true, beq_iff_eq, List.all_eq_true, decide_eq_true_eq] at h
    unfold tupI at e
    split at e
    · rename_i ds
      refine ⟨is, by rw [intsOf_map e], by show (match intsOf ds with | some is => TS.code B is | none => 0) = _; rw [e], h.1, h.2⟩
    · cases e
  · cases h
theorem tup_inj {d : Nat} {B : Int} {x y : D} (hx : tupOk d B x = true) (hy : tupOk d B y = true) (h : tupC B x = tupC B y) : x = y := by
  obtain ⟨a, rfl, a1, a2, a3⟩ := tup_of hx
  obtain ⟨b, rfl, b1, b2, b3⟩ := tup_of hy
  rw [code_inj (a2.trans b2.symm) a3 b3 (by rw [← a1, ← b1, h])]
theorem sortT_eq {d : Nat} {B : Int} {xs ys : List D} (hx : xs.all (tupOk d B) = true) (h : ys.Perm xs) (k : ys.Pairwise fun a b => tupC B a ≤ tupC B b) : ys = sortT B xs := by
  rw [List.all_eq_true] at hx
  refine List.Perm.eq_of_pairwise (fun a b ha hb h1 h2 => ?_) k (sortT_sorted B xs) (h.trans (sortT_perm B xs).symm)
  exact tup_inj (hx a (h.mem_iff.mp ha)) (hx b ((sortT_perm B xs).mem_iff.mp hb)) (Int.le_antisymm h1 h2)
/-- data in another order -/
theorem dpa_perm {K : PySem.W.Frag} {G : Hp} {us vs : List V} (h : vs.Perm us) : ∀ {xs : List D}, DpAll K G us xs → ∃ ys, ys.Perm xs ∧ DpAll K G vs ys := by
  induction h with
  | nil => exact fun h => ⟨_, .refl _, h⟩
  | cons u _ ih =>
    intro xs h
    cases h with
    | cons a b =>
      obtain ⟨ys, p, q⟩ := ih b
      exact ⟨_ :: ys, p.cons _, .cons a q⟩
  | swap u v l =>
    intro xs h
    cases h with
    | cons a b =>
      cases b with
      | cons c d => exact ⟨_ :: _ :: _, .swap _ _ _, .cons c (.cons a d)⟩
  | trans _ _ ih1 ih2 =>
    intro xs h
    obtain ⟨ys, p, q⟩ := ih2 h
    obtain ⟨zs, p', q'⟩ := ih1 q
    exact ⟨zs, p'.trans p, q'⟩
theorem dpa_mem {K : PySem.W.Frag} {G : Hp} {P : V → D → Prop} : ∀ {us : List V} {xs : List D}, DpAll K G us xs → (∀ u x, x ∈ xs → Dp K G u x → P u x) → ∀ u ∈ us, ∃ x ∈ xs, P u x
  | _, _, .nil, _, u, hu => absurd hu (by simp)
  | _, _, .cons (v := v) (d := x) a b, h, u, hu => by
    rcases List.mem_cons.mp hu with e | hu
    · exact ⟨x, List.mem_cons_self, e ▸ h v x List.mem_cons_self a⟩
    · obtain ⟨y, hy, p⟩ := dpa_mem b (fun u x hx => h u x (List.mem_cons_of_mem _ hx)) u hu
      exact ⟨y, List.mem_cons_of_mem _ hy, p⟩
theorem tupI_dp {K : PySem.W.Frag} {G H : Hp} (gh : Sub G H) {u : V} {is : List Int} (h : Dp K G u (.tuple (is.map .int))) : TupI K H u is := by
  cases h with
  | tup a b =>
    rw [dpa_ints b] at a
    exact ⟨_, rfl, SqT.mono gh a⟩
theorem dpa_pw {K : PySem.W.Frag} {G H : Hp} {d : Nat} {B : Int} (gh : Sub G H) : ∀ {us : List V} {xs : List D}, DpAll K G us xs → (∀ x ∈ xs, tupOk d B x = true) → us.Pairwise (fun x y => ∀ n m, TupI K H x n → TupI K H y m → TS.code B n ≤ TS.code B m) → xs.Pairwise fun a b => tupC B a ≤ tupC B b
  | _, _, .nil, _, _ => .nil
  | _, _, .cons (v := v) (d := x) a b, h, k => by
    obtain ⟨k1, k2⟩ := List.pairwise_cons.mp k
    refine List.pairwise_cons.mpr ⟨fun y hy => ?_, dpa_pw gh b (fun x hx => h x (List.mem_cons_of_mem _ hx)) k2⟩
    obtain ⟨is, rfl, e1, _, _⟩ := tup_of (h x List.mem_cons_self)
    obtain ⟨js, rfl, e2, _, _⟩ := tup_of (h y (List.mem_cons_of_mem _ hy))
    rw [e1, e2]
    have : ∃ w, w ∈ _ ∧ Dp K G w (.tuple (js.map .int)) := dpa_at b hy
    obtain ⟨w, hw, dw⟩ := this
    exact k1 w hw is js (tupI_dp gh a) (tupI_dp gh dw)
where
  dpa_at : ∀ {us : List V} {xs : List D} {y : D}, DpAll K G us xs → y ∈ xs → ∃ w, w ∈ us ∧ Dp K G w y
    | _, _, _, .nil, h => absurd h (by simp)
    | _, _, y, .cons (v := v) (d := x) a b, h => by
      rcases List.mem_cons.mp h with e | h
      · exact ⟨v, List.mem_cons_self, e ▸ a⟩
      · obtain ⟨w, hw, q⟩ := dpa_at b h
        exact ⟨w, List.mem_cons_of_mem _ hw, q⟩
def oSortT (d : Nat) (B : Int) : List D → Option OR
  | [.list xs] => if xs.length < 64 ∧ xs.all (tupOk d B) = true then some (.nl (sortT B xs)) else none
  | _ => none
theorem cs_sortT {K : PySem.W.Frag} (d : Nat) (B : Int) : CallS K (rSortU K d B) (oSortT d B) := by
  intro C σ ρ G H us ds z Q s vs e fin
  unfold oSortT at e
  split at e
  · rename_i xs
    by_cases hx : xs.length < 64 ∧ xs.all (tupOk d B) = true
    · rw [if_pos hx] at e
      cases e
      obtain ⟨u, rfl, v⟩ := v1_of vs
      obtain ⟨p, ws, rfl, h1, h2⟩ := v.list s.gh
      have hx2 := List.all_eq_true.mp hx.2
      refine ⟨p, ws, rfl, h1, by rw [DpAll.length h2]; exact hx.1, fun w hw => ?_, fun ys q pm pw hn => ?_⟩
      · obtain ⟨x, hxm, is, ex, e1, e2⟩ := dpa_mem (P := fun u x => ∃ is, TupI K H u is ∧ is.length = d ∧ TS.Bd B is) h2 (fun u x hx dx => by
          obtain ⟨is, rfl, _, k1, k2⟩ := tup_of (hx2 x hx)
          exact ⟨is, tupI_dp s.gh dx, k1, k2⟩) w hw
        exact ⟨is, ex, e1, e2⟩
      · obtain ⟨zs, pz, dz⟩ := dpa_perm pm h2
        rw [← sortT_eq hx.2 pz (dpa_pw s.gh dz (fun x hm => hx2 x (pz.mem_iff.mp hm)) pw)] at fin
        exact Fin.nl s fin dz q hn
    · rw [if_neg hx] at e; cases e
  · cases e
/-! ### is True, is not False -/
def oIsB : D → D → Option OR
  | .bool a, .bool b => some (.at (.bool (decide (a = b))))
  | _, _ => none
def oNotB : D → D → Option OR
  | .bool a, .bool b => some (.at (.bool (!decide (a = b))))
  | _, _ => none
theorem s_isB {K : PySem.W.Frag} : OpS K (fun x y H Q => ∃ a b, x = .bl a ∧ y = .bl b ∧ Q (.bl (decide (a = b))) H) oIsB := by
  intro C σ ρ G H x y a b z Q s va vb e fin
  unfold oIsB at e
  split at e
  · cases e
    exact ⟨_, _, va.bl, vb.bl, Fin.at s fin (.bl _)⟩
  · cases e
theorem s_notB {K : PySem.W.Frag} : OpS K (fun x y H Q => ∃ a b, x = .bl a ∧ y = .bl b ∧ Q (.bl (!decide (a = b))) H) oNotB := by
  intro C σ ρ G H x y a b z Q s va vb e fin
  unfold oNotB at e
  split at e
  · cases e
    exact ⟨_, _, va.bl, vb.bl, Fin.at s fin (.bl _)⟩
  · cases e
end
end DL
/-! The denotations as rules of simp. -/
namespace DL
open PySem PySem.Spec PyProof.Rows L2
@[simp] theorem x_eV (i : Nat) (ρ : Env) : eV i ρ = match ρ[i]? with
  | some (.v d) => some (.fz d, ρ)
  | some (.own _) => some (.sl i, ρ)
  | some (.par _) => some (.sl i, ρ)
  | some (.dc _) => some (.sl i, ρ)
  | _ => none := (rfl)
@[simp] theorem x_eC (d : D) (ρ : Env) : eC d ρ = some (.fz d, ρ) := (rfl)
@[simp] theorem x_eT (f : DEx) (ρ : Env) : eT f ρ = asB (f ρ) := (rfl)
@[simp] theorem x_asB (b : Bool) (ρ : Env) : asB (some (.fz (.bool b), ρ)) = some (b, ρ) := (rfl)
@[simp] theorem x_yes (ρ : Env) : yesD ρ = some (true, ρ) := (rfl)
@[simp] theorem x_eAnd (f g : DEx) (ρ : Env) : eAnd f g ρ = match asB (f ρ) with
  | some (true, ρ1) => g ρ1
  | some (false, ρ1) => some (.fz (.bool false), ρ1)
  | none => none := (rfl)
@[simp] theorem x_eOr (f g : DEx) (ρ : Env) : eOr f g ρ = match asB (f ρ) with
  | some (false, ρ1) => g ρ1
  | some (true, ρ1) => some (.fz (.bool true), ρ1)
  | none => none := (rfl)
@[simp] theorem x_eNot (f : DEx) (ρ : Env) : eNot f ρ = match asB (f ρ) with
  | some (b, ρ1) => some (.fz (.bool !b), ρ1)
  | none => none := (rfl)
@[simp] theorem x_eIf (c : DTx) (f g : DEx) (ρ : Env) : eIf c f g ρ = match c ρ with
  | some (true, ρ1) => f ρ1
  | some (false, ρ1) => g ρ1
  | none => none := (rfl)
@[simp] theorem x_tAnd (f g : DTx) (ρ : Env) : tAndD f g ρ = match f ρ with
  | some (true, ρ1) => g ρ1
  | z => z := (rfl)
@[simp] theorem x_tOr (f g : DTx) (ρ : Env) : tOrD f g ρ = match f ρ with
  | some (false, ρ1) => g ρ1
  | z => z := (rfl)
@[simp] theorem x_tNot (f : DTx) (ρ : Env) : tNotD f ρ = match f ρ with
  | some (b, ρ1) => some (!b, ρ1)
  | z => z := (rfl)
@[simp] theorem x_deref_fz (d : D) (ρ : Env) : deref ρ (.fz d) = some d := (rfl)
@[simp] theorem x_deref_fr (d : List D) (ρ : Env) : deref ρ (.fr d) = some (.list d) := (rfl)
@[simp] theorem x_derefs_nil (ρ : Env) : derefs ρ [] = some [] := (rfl)
@[simp] theorem x_derefs_cons (r : RV) (rs : List RV) (ρ : Env) : derefs ρ (r :: rs) = match deref ρ r, derefs ρ rs with
    | some d, some ds => some (d :: ds)
    | _, _ => none := (rfl)
@[simp] theorem x_eBin (o : D → D → Option OR) (f g : DEx) (ρ : Env) : eBin o f g ρ = match f ρ with
  | some (r, ρ1) => match g ρ1 with
    | some (t, ρ2) => match deref ρ2 r, deref ρ2 t with
      | some a, some b => match o a b with
        | some z => some (z.rv, ρ2)
        | none => none
      | _, _ => none
    | none => none
  | none => none := (rfl)
@[simp] theorem x_rv_at (d : D) : (OR.at d).rv = .fz d := (rfl)
@[simp] theorem x_rv_nl (d : List D) : (OR.nl d).rv = .fr d := (rfl)
@[simp] theorem x_rv_nt (d : List D) : (OR.nt d).rv = .fz (.tuple d) := (rfl)
@[simp] theorem x_eArgs_nil (ρ : Env) : eArgs [] ρ = some ([], ρ) := (rfl)
@[simp] theorem x_eArgs_cons (f : DEx) (fs : List DEx) (ρ : Env) : eArgs (f :: fs) ρ = match f ρ with
    | some (r, ρ1) => match eArgs fs ρ1 with
      | some (rs, ρ2) => some (r :: rs, ρ2)
      | none => none
    | none => none := (rfl)
@[simp] theorem x_fzs_nil : fzs [] = some [] := (rfl)
@[simp] theorem x_fzs_cons (d : D) (rs : List RV) : fzs (.fz d :: rs) = match fzs rs with
    | some ds => some (d :: ds)
    | none => none := (rfl)
@[simp] theorem x_eFz (f : DEx) (ρ : Env) : eFz f ρ = match f ρ with
  | some (.fz d, ρ1) => some (.fz d, ρ1)
  | some (.fr xs, ρ1) => some (.fz (.list xs), ρ1)
  | _ => none := (rfl)
@[simp] theorem x_eLst (fs : List DEx) (ρ : Env) : eLst fs ρ = match eArgs fs ρ with
  | some (rs, ρ1) => match fzs rs with
    | some ds => if ds.length ≤ LIM then some (.fr ds, ρ1) else none
    | none => none
  | none => none := (rfl)
@[simp] theorem x_eTup (fs : List DEx) (ρ : Env) : eTup fs ρ = match eArgs fs ρ with
  | some (rs, ρ1) => match fzs rs with
    | some ds => if ds.length ≤ LIM then some (.fz (.tuple ds), ρ1) else none
    | none => none
  | none => none := (rfl)
theorem lim_of {n : Nat} (h : n ≤ 16000000) : n ≤ LIM := by rw [LIM_eq]; exact h
@[simp] theorem lim_small (n : Nat) (h : n ≤ 4096) : (n ≤ LIM) = True := eq_true (lim_of (Nat.le_trans h (by decide)))
@[simp] theorem x_eB (o : List D → Option OR) (fs : List DEx) (ρ : Env) : eB o fs ρ = match eArgs fs ρ with
  | some (rs, ρ1) => match derefs ρ1 rs with
    | some ds => match o ds with
      | some z => some (z.rv, ρ1)
      | none => none
    | none => none
  | none => none := (rfl)
@[simp] theorem x_eNeg (f : DEx) (ρ : Env) : eNeg f ρ = match f ρ with
  | some (.fz (.int i), ρ1) => some (.fz (.int (-i)), ρ1)
  | _ => none := (rfl)
@[simp] theorem x_eChain (o o' : D → D → Option OR) (f g h : DEx) (ρ : Env) : eChain o o' f g h ρ = match f ρ with
  | some (r, ρ1) => match g ρ1 with
    | some (t, ρ2) => match deref ρ2 r, deref ρ2 t with
      | some a, some b => match o a b with
        | some (.at (.bool true)) => match h ρ2 with
          | some (w, ρ3) => match deref ρ3 t, deref ρ3 w with
            | some b, some c => match o' b c with
              | some z => some (z.rv, ρ3)
              | none => none
            | _, _ => none
          | none => none
        | some (.at (.bool false)) => some (.fz (.bool false), ρ2)
        | _ => none
      | _, _ => none
    | none => none
  | none => none := (rfl)
@[simp] theorem x_eIsi (T : String) (f : DEx) (ρ : Env) : eIsi T f ρ = match f ρ with
  | some (r, ρ1) => match deref ρ1 r with
    | some d => match kitB (tyN d) T with
      | some b => some (.fz (.bool b), ρ1)
      | none => none
    | none => none
  | none => none := (rfl)
@[simp] theorem x_eCallA (F : List D → Option RV) (dd : List D) (fs : List DEx) (ρ : Env) : eCallA F dd fs ρ = match eArgs fs ρ with
  | some (rs, ρ1) => match fzs rs with
    | some ds => match F (ds ++ dd) with
      | some (.fz d) => some (.fz d, ρ1)
      | some (.fr xs) => some (.fr xs, ρ1)
      | _ => none
    | none => none
  | none => none := (rfl)
@[simp] theorem x_eCallK (F : List D → Option RV) (pm : List D → List D) (fs : List DEx) (ρ : Env) : eCallK F pm fs ρ = match eArgs fs ρ with
  | some (rs, ρ1) => match fzs rs with
    | some ds => match F (pm ds) with
      | some (.fz d) => some (.fz d, ρ1)
      | some (.fr xs) => some (.fr xs, ρ1)
      | _ => none
    | none => none
  | none => none := (rfl)
@[simp] theorem x_eCallB (F : List D → List D → Option (RV × List D)) (fs : List DEx) (ρ : Env) : eCallB F fs ρ = match eArgs fs ρ with
  | some (.sl i :: rs, ρ1) => match fzs rs with
    | some ds => match ρ1[i]? with
      | some c => match contL c with
        | some xs => match F xs ds with
          | some (.fz d, ys) => some (.fz d, ρ1.set i (setC ys c))
          | some (.fr zs, ys) => some (.fr zs, ρ1.set i (setC ys c))
          | _ => none
        | none => none
      | none => none
    | none => none
  | some (.fr xs :: rs, ρ1) => match fzs rs with
    | some ds => match F xs ds with
      | some (.fz d, _) => some (.fz d, ρ1)
      | some (.fr zs, _) => some (.fr zs, ρ1)
      | _ => none
    | none => none
  | _ => none := (rfl)
@[simp] theorem x_cont_own (xs : List D) : contL (.own xs) = some xs := (rfl)
@[simp] theorem x_cont_par (xs : List D) : contL (.par xs) = some xs := (rfl)
@[simp] theorem x_setC_own (xs ys : List D) : setC xs (.own ys) = .own xs := (rfl)
@[simp] theorem x_setC_par (xs ys : List D) : setC xs (.par ys) = .par xs := (rfl)
@[simp] theorem x_sNext (ρ : Env) : sNext ρ = .nx ρ := (rfl)
@[simp] theorem x_sSeq (g g' : DSt) (ρ : Env) : sSeq g g' ρ = match g ρ with
  | .nx ρ1 => g' ρ1
  | o => o := (rfl)
@[simp] theorem x_sBreak (ρ : Env) : sBreak ρ = .bk ρ := (rfl)
@[simp] theorem x_sCont (ρ : Env) : sCont ρ = .ct ρ := (rfl)
@[simp] theorem x_sBad (ρ : Env) : sBad ρ = .bad := (rfl)
@[simp] theorem x_sRetN (ρ : Env) : sRetN ρ = .rt (.fz .none) ρ := (rfl)
@[simp] theorem x_sIf (t : DTx) (g g' : DSt) (ρ : Env) : sIf t g g' ρ = match t ρ with
  | some (true, ρ1) => g ρ1
  | some (false, ρ1) => g' ρ1
  | none => .bad := (rfl)
@[simp] theorem x_sExpr (f : DEx) (ρ : Env) : sExpr f ρ = match f ρ with
  | some (_, ρ1) => .nx ρ1
  | none => .bad := (rfl)
@[simp] theorem x_finF_fz (d : D) (ρ : Env) : finF (.rt (.fz d) ρ) = some (.fz d) := (rfl)
@[simp] theorem x_finF_fr (xs : List D) (ρ : Env) : finF (.rt (.fr xs) ρ) = some (.fr xs) := (rfl)
@[simp] theorem x_finF_sl (i : Nat) (ρ : Env) : finF (.rt (.sl i) ρ) = match ρ[i]? with
    | some (.own xs) => some (.fr xs)
    | _ => none := (rfl)
@[simp] theorem x_finF_nx (ρ : Env) : finF (.nx ρ) = some (.fz .none) := (rfl)
@[simp] theorem x_outB_rt (r : RV) (ρ : Env) : outB (.rt r ρ) = match ρ[(0 : Nat)]? with
    | some (.par xs) => some xs
    | _ => none := (rfl)
@[simp] theorem x_outB_nx (ρ : Env) : outB (.nx ρ) = match ρ[(0 : Nat)]? with
    | some (.par xs) => some xs
    | _ => none := (rfl)
@[simp] theorem x_isPar_un : isPar .un = false := (rfl)
@[simp] theorem x_isPar_v (d : D) : isPar (.v d) = false := (rfl)
@[simp] theorem x_isPar_own (d : List D) : isPar (.own d) = false := (rfl)
@[simp] theorem x_isPar_par (d : List D) : isPar (.par d) = true := (rfl)
@[simp] theorem x_put (i : Nat) (c : Cell) (ρ : Env) : put i c ρ = match ρ[i]? with
  | some c0 => if isPar c0 = true then none else some (ρ.set i c)
  | none => none := by
  unfold put
  cases ρ[i]? with
  | none => rfl
  | some c0 => cases c0 <;> rfl
@[simp] theorem x_tput (i : Nat) (d : D) (ρ : Env) : Tg.put (.nm i) d ρ = put i (.v d) ρ := by simp [Tg.put]
@[simp] theorem x_tputt (ts : List Tg) (ds : List D) (ρ : Env) : Tg.put (.tp ts) (.tuple ds) ρ = Tg.puts ts ds ρ := by simp [Tg.put]
@[simp] theorem x_tputs_nil (ρ : Env) : Tg.puts [] [] ρ = some ρ := by simp [Tg.puts]
@[simp] theorem x_tputs_cons (t : Tg) (ts : List Tg) (d : D) (ds : List D) (ρ : Env) : Tg.puts (t :: ts) (d :: ds) ρ = match t.put d ρ with
    | some ρ1 => Tg.puts ts ds ρ1
    | none => none := by first | (rw [Tg.puts]; done) | (rw [Tg.puts]; cases Tg.put t d ρ <;> rfl)
@[simp] theorem x_oAddI (i j : Int) : oAdd (.int i) (.int j) = some (.at (.int (i + j))) := (rfl)
@[simp] theorem x_oSub (i j : Int) : oSub (.int i) (.int j) = some (.at (.int (i - j))) := (rfl)
@[simp] theorem x_oLt (i j : Int) : oLt (.int i) (.int j) = some (.at (.bool (decide (i < j)))) := (rfl)
@[simp] theorem x_oLe (i j : Int) : oLe (.int i) (.int j) = some (.at (.bool (decide (i ≤ j)))) := (rfl)
@[simp] theorem x_oGt (i j : Int) : oGt (.int i) (.int j) = some (.at (.bool (decide (j < i)))) := (rfl)
@[simp] theorem x_oGe (i j : Int) : oGe (.int i) (.int j) = some (.at (.bool (decide (j ≤ i)))) := (rfl)
/-! depth, == -/
@[simp] theorem x_dep_int (i : Int) : PyData.depth (.int i) = 0 := by rw [PyData.depth]
@[simp] theorem x_dep_bool (i : Bool) : PyData.depth (.bool i) = 0 := by rw [PyData.depth]
@[simp] theorem x_dep_str (i : Str) : PyData.depth (.str i) = 0 := by rw [PyData.depth]
@[simp] theorem x_dep_none : PyData.depth .none = 0 := by rw [PyData.depth]
@[simp] theorem x_dep_list (xs : List PyData) : PyData.depth (.list xs) = PyData.depthAll xs + 1 := by rw [PyData.depth]
@[simp] theorem x_dep_tuple (xs : List PyData) : PyData.depth (.tuple xs) = PyData.depthAll xs + 1 := by rw [PyData.depth]
@[simp] theorem x_dep_nil : PyData.depthAll [] = 0 := by rw [PyData.depthAll]
@[simp] theorem x_dep_cons (x : PyData) (xs : List PyData) : PyData.depthAll (x :: xs) = max x.depth (PyData.depthAll xs) := by rw [PyData.depthAll]
theorem depthAll_le {n : Nat} : ∀ {xs : List PyData}, (∀ x ∈ xs, x.depth ≤ n) → PyData.depthAll xs ≤ n
  | [], _ => by simp
  | x :: xs, h => by
    have h1 := h x (by simp)
    have h2 := depthAll_le (xs := xs) (n := n) fun y hy => h y (by simp [hy])
    simp only [x_dep_cons]
    omega
@[simp] theorem x_dep_ints (is : List Int) : PyData.depthAll (is.map .int) = 0 := by
  have := depthAll_le (n := 0) (xs := is.map .int) (by simp)
  omega
@[simp] theorem x_pl_int (i : Int) : PyData.plain (.int i) = true := by rw [PyData.plain]
@[simp] theorem x_pl_bool (i : Bool) : PyData.plain (.bool i) = true := by rw [PyData.plain]
@[simp] theorem x_pl_str (i : Str) : PyData.plain (.str i) = true := by rw [PyData.plain]
@[simp] theorem x_pl_none : PyData.plain .none = true := by rw [PyData.plain]
@[simp] theorem x_pl_list (xs : List PyData) : PyData.plain (.list xs) = PyData.plainAll xs := by rw [PyData.plain]
@[simp] theorem x_pl_tuple (xs : List PyData) : PyData.plain (.tuple xs) = PyData.plainAll xs := by rw [PyData.plain]
@[simp] theorem x_pl_nil : PyData.plainAll [] = true := by rw [PyData.plainAll]
@[simp] theorem x_pl_cons (x : PyData) (xs : List PyData) : PyData.plainAll (x :: xs) = (x.plain && PyData.plainAll xs) := by rw [PyData.plainAll]
theorem plainAll_of : ∀ {xs : List PyData}, (∀ x ∈ xs, x.plain = true) → PyData.plainAll xs = true
  | [], _ => x_pl_nil
  | x :: xs, h => by rw [x_pl_cons, h x (by simp), plainAll_of fun y hy => h y (List.mem_cons_of_mem _ hy)]; rfl
@[simp] theorem x_pl_map {α : Type} (f : α → PyData) (xs : List α) : PyData.plainAll (xs.map f) = xs.all fun a => (f a).plain := by
  induction xs with
  | nil => simp
  | cons x xs ih => rw [List.map_cons, x_pl_cons, ih, List.all_cons]
theorem x_oEq (a b : D) (h : a.depth ≤ 64 ∨ b.depth ≤ 64) (ha : a.plain = true := by simp) (hb : b.plain = true := by simp) : oEq a b = some (.at (.bool (PyData.eqv a b))) := by
  unfold oEq
  rw [if_pos ⟨by omega, ha, hb⟩]
theorem x_oNe (a b : D) (h : a.depth ≤ 64 ∨ b.depth ≤ 64) (ha : a.plain = true := by simp) (hb : b.plain = true := by simp) : oNe a b = some (.at (.bool (!PyData.eqv a b))) := by
  unfold oNe
  rw [if_pos ⟨by omega, ha, hb⟩]
@[simp] theorem x_oEqI (i j : Int) : oEq (.int i) (.int j) = some (.at (.bool (decide (i = j)))) := by
  rw [x_oEq _ _ (by simp), PyData.eqv]; simp [BEq.beq]
@[simp] theorem x_oNeI (i j : Int) : oNe (.int i) (.int j) = some (.at (.bool (!decide (i = j)))) := by
  rw [x_oNe _ _ (by simp), PyData.eqv]; simp [BEq.beq]
@[simp] theorem x_oEqS (i j : Str) : oEq (.str i) (.str j) = some (.at (.bool (i == j))) := by
  rw [x_oEq _ _ (by simp), PyData.eqv]
@[simp] theorem x_oNeS (i j : Str) : oNe (.str i) (.str j) = some (.at (.bool (!(i == j)))) := by
  rw [x_oNe _ _ (by simp), PyData.eqv]
@[simp] theorem eqv_int (i j : Int) : PyData.eqv (.int i) (.int j) = decide (i = j) := by rw [PyData.eqv]; simp [BEq.beq]
@[simp] theorem eqv_list (i j : List PyData) : PyData.eqv (.list i) (.list j) = PyData.eqvAll i j := by rw [PyData.eqv]
@[simp] theorem eqv_tuple (i j : List PyData) : PyData.eqv (.tuple i) (.tuple j) = PyData.eqvAll i j := by rw [PyData.eqv]
@[simp] theorem eqvAll_nil : PyData.eqvAll [] [] = true := by rw [PyData.eqvAll]
@[simp] theorem eqvAll_cons (x y : PyData) (xs ys : List PyData) : PyData.eqvAll (x :: xs) (y :: ys) = (PyData.eqv x y && PyData.eqvAll xs ys) := by rw [PyData.eqvAll]
@[simp] theorem eqvAll_n1 (x : PyData) (xs : List PyData) : PyData.eqvAll (x :: xs) [] = false := by rw [PyData.eqvAll]
@[simp] theorem eqvAll_n2 (x : PyData) (xs : List PyData) : PyData.eqvAll [] (x :: xs) = false := by rw [PyData.eqvAll]
@[simp] theorem eqvAll_ints : ∀ xs ys : List Int, PyData.eqvAll (xs.map .int) (ys.map .int) = decide (xs = ys)
  | [], [] => by simp
  | x :: xs, [] => by simp
  | [], y :: ys => by simp
  | x :: xs, y :: ys => by simp [eqvAll_ints xs ys]
@[simp] theorem x_oIxL (xs : List D) (i : Int) : oIx (.list xs) (.int i) = (atI xs i).map .at := (rfl)
@[simp] theorem x_oIxT (xs : List D) (i : Int) : oIx (.tuple xs) (.int i) = (atI xs i).map .at := (rfl)
@[simp] theorem x_oLenL (xs : List D) : oLen [.list xs] = some (.at (.int (xs.length : Nat))) := (rfl)
@[simp] theorem x_oLenT (xs : List D) : oLen [.tuple xs] = some (.at (.int (xs.length : Nat))) := (rfl)
@[simp] theorem x_oAbs (i : Int) : oAbs [.int i] = some (.at (.int (if i < 0 then -i else i))) := (rfl)
@[simp] theorem x_oIntI (i : Int) : oInt [.int i] = some (.at (.int i)) := (rfl)
@[simp] theorem x_oMax2 (i j : Int) : oMax [.int i, .int j] = some (.at (.int (if j > i then j else i))) := (rfl)
@[simp] theorem x_oMin2 (i j : Int) : oMin [.int i, .int j] = some (.at (.int (if j < i then j else i))) := (rfl)
@[simp] theorem x_sRet (f : DEx) (ρ : Env) : sRet f ρ = match f ρ with
  | some (.sl i, ρ1) => match ρ1[i]? with
    | some (.own _) => .rt (.sl i) ρ1
    | _ => .bad
  | some (r, ρ1) => .rt r ρ1
  | none => .bad := (rfl)
@[simp] theorem x_sSet (i : Nat) (f : DEx) (ρ : Env) : sSet i f ρ = match f ρ with
  | some (.fz d, ρ1) => match put i (.v d) ρ1 with
    | some ρ2 => .nx ρ2
    | none => .bad
  | some (.fr xs, ρ1) => match put i (.own xs) ρ1 with
    | some ρ2 => .nx ρ2
    | none => .bad
  | some (.sl j, ρ1) => if i = j then .bad else match ρ1[j]? with
    | some (.own xs) => match put j .un ρ1 with
      | some ρ2 => match put i (.own xs) ρ2 with
        | some ρ3 => .nx ρ3
        | none => .bad
      | none => .bad
    | _ => .bad
  | none => .bad := (rfl)
@[simp] theorem x_sPar (i j : Nat) (fs : List DEx) (ρ : Env) : sPar i j fs ρ = match eArgs fs ρ with
  | some ([.fz a, .fz b], ρ1) => match put i (.v a) ρ1 with
    | some ρ2 => match put j (.v b) ρ2 with
      | some ρ3 => .nx ρ3
      | none => .bad
    | none => .bad
  | some ([.fr a, .fz b], ρ1) => match put i (.own a) ρ1 with
    | some ρ2 => match put j (.v b) ρ2 with
      | some ρ3 => .nx ρ3
      | none => .bad
    | none => .bad
  | some ([.fz a, .fr b], ρ1) => match put i (.v a) ρ1 with
    | some ρ2 => match put j (.own b) ρ2 with
      | some ρ3 => .nx ρ3
      | none => .bad
    | none => .bad
  | _ => .bad := (rfl)
@[simp] theorem x_sPar3 (i j l : Nat) (fs : List DEx) (ρ : Env) : sPar3 i j l fs ρ = match eArgs fs ρ with
  | some ([a, b, c], ρ1) => if frs1 [a, b, c] ≤ 1 then match putR i a ρ1 with
    | some ρ2 => match putR j b ρ2 with
      | some ρ3 => match putR l c ρ3 with
        | some ρ4 => .nx ρ4
        | none => .bad
      | none => .bad
    | none => .bad
    else .bad
  | _ => .bad := (rfl)
@[simp] theorem x_iSeq (f : DEx) (ρ : Env) : iSeq f ρ = match f ρ with
  | some (r, ρ1) => match itOf r with
    | some ds => some (ds, ρ1)
    | none => none
  | none => none := (rfl)
@[simp] theorem x_sUnp (t : Tg) (f : DEx) (ρ : Env) : sUnp t f ρ = match f ρ with
  | some (.fz d, ρ1) => match t.put d ρ1 with
    | some ρ2 => .nx ρ2
    | none => .bad
  | _ => .bad := (rfl)
@[simp] theorem x_sFor (it : DIt) (t : Tg) (g : DSt) (ρ : Env) : sFor it t g ρ = match it ρ with
  | some (ds, ρ1) => fN t g ds ρ1
  | none => .bad := (rfl)
@[simp] theorem x_iRange (fs : List DEx) (ρ : Env) : iRange fs ρ = match eArgs fs ρ with
  | some (rs, ρ1) => match fzs rs with
    | some as => match rngOf as with
      | some ds => some (ds, ρ1)
      | none => none
    | none => none
  | none => none := (rfl)
@[simp] theorem x_iEnumD (f : DEx) (ρ : Env) : iEnumD f ρ = match f ρ with
  | some (.fz (.list ds), ρ1) => some (enumD 0 ds, ρ1)
  | _ => none := (rfl)
@[simp] theorem x_iEnumB (f : DEx) (ρ : Env) : iEnumB f ρ = match f ρ with
  | some (.fz (.list ds), ρ1) => some (enumD 0 ds, ρ1)
  | some (.fz (.tuple ds), ρ1) => some (enumD 0 ds, ρ1)
  | _ => none := (rfl)
@[simp] theorem x_iZipB (f g : DEx) (ρ : Env) : iZipB f g ρ = match eArgs [f, g] ρ with
  | some ([.fz (.list xs), .fz (.list ys)], ρ1) => some (zipD xs ys, ρ1)
  | some ([.fz (.tuple xs), .fz (.tuple ys)], ρ1) => some (zipD xs ys, ρ1)
  | _ => none := (rfl)
@[simp] theorem x_iZipD (f g : DEx) (ρ : Env) : iZipD f g ρ = match eArgs [f, g] ρ with
  | some ([.fz (.list xs), .fz (.list ys)], ρ1) => some (zipD xs ys, ρ1)
  | _ => none := (rfl)
@[simp] theorem x_eLc (it : DIt) (t : Tg) (tt : DTx) (f : DEx) (vs : List Nat) (ρ : Env) : eLc it t tt f vs ρ = match it ρ with
  | some (ds, ρ1) => if noC ρ1 vs = true then match lcL t tt f vs ds (wipeD ρ1 vs) [] with
      | some (ys, ρ4) => some (.fr ys, unwD ρ1 ρ4 vs)
      | none => none
    else none
  | none => none := (rfl)
@[simp] theorem x_eMth (m : List D → List D → Option (D × List D)) (i : Nat) (fs : List DEx) (ρ : Env) : eMth m i fs ρ = match ρ[i]? with
  | some c0 => if (contL c0).isSome = true then match eArgs fs ρ with
      | some (rs, ρ1) => match fzs rs with
        | some as => match ρ1[i]? with
          | some c1 => match contL c1 with
            | some xs => match m xs as with
              | some (r, ys) => some (.fz r, ρ1.set i (setC ys c1))
              | none => none
            | none => none
          | none => none
        | none => none
      | none => none
    else none
  | none => none := (rfl)
@[simp] theorem x_eExt (i : Nat) (f : DEx) (ρ : Env) : eExt i f ρ = match ρ[i]? with
  | some c0 => if (contL c0).isSome = true then match f ρ with
      | some (.fr ys, ρ1) => match ρ1[i]? with
        | some c1 => match contL c1 with
          | some xs => if xs.length + ys.length ≤ LIM then some (.fz .none, ρ1.set i (setC (xs ++ ys) c1)) else none
          | none => none
        | none => none
      | _ => none
    else none
  | none => none := (rfl)
@[simp] theorem x_sStore (i : Nat) (fi fv : DEx) (ρ : Env) : sStore i fi fv ρ = match fv ρ with
  | some (.fz d, ρ1) => match ρ1[i]? with
    | some c0 => if (contL c0).isSome = true then match fi ρ1 with
        | some (.fz (.int k), ρ2) => match ρ2[i]? with
          | some c1 => match contL c1 with
            | some xs => match ixN xs.length k with
              | some j => .nx (ρ2.set i (setC (xs.set j d) c1))
              | none => .bad
            | none => .bad
          | none => .bad
        | _ => .bad
      else .bad
    | none => .bad
  | _ => .bad := (rfl)
@[simp] theorem x_sUnpS (i : Nat) (fi : DEx) (j : Nat) (f : DEx) (ρ : Env) : sUnpS i fi j f ρ = match f ρ with
  | some (.fz (.tuple [a, b]), ρ1) => match ρ1[i]? with
    | some c0 => if (contL c0).isSome = true then match fi ρ1 with
        | some (.fz (.int k), ρ2) => match ρ2[i]? with
          | some c1 => match contL c1 with
            | some xs => match ixN xs.length k with
              | some l => match put j (.v b) (ρ2.set i (setC (xs.set l a) c1)) with
                | some ρ3 => .nx ρ3
                | none => .bad
              | none => .bad
            | none => .bad
          | none => .bad
        | _ => .bad
      else .bad
    | none => .bad
  | _ => .bad := (rfl)
@[simp] theorem x_oPart (f : Option DEx) (ρ : Env) : oPart f ρ = match f with
  | none => some (none, ρ)
  | some f => match f ρ with
    | some (.fz (.int i), ρ1) => some (some i, ρ1)
    | _ => none := (rfl)
@[simp] theorem x_eSl (f : DEx) (lo hi : Option DEx) (ρ : Env) : eSl f lo hi ρ = match f ρ with
  | some (r, ρ1) => match oPart lo ρ1 with
    | some (l, ρ2) => match oPart hi ρ2 with
      | some (h, ρ3) => match deref ρ3 r with
        | some (.list xs) => some (.fr (cutD xs l h), ρ3)
        | some (.tuple xs) => some (.fz (.tuple (cutD xs l h)), ρ3)
        | some (.str z) => if z.length ≤ LIM then some (.fz (.str (cutS z l h)), ρ3) else none
        | _ => none
      | none => none
    | none => none
  | none => none := (rfl)
@[simp] theorem x_eCallV (F : List D → Option RV) (dd : List D) (fs : List DEx) (ρ : Env) : eCallV F dd fs ρ = match eArgs fs ρ with
  | some (rs, ρ1) => match derefs ρ1 rs with
    | some ds => match F (ds ++ dd) with
      | some r => if flatR r = true then some (r, ρ1) else none
      | _ => none
    | none => none
  | none => none := (rfl)
@[simp] theorem x_itOfL (ds : List D) : itOf (.fz (.list ds)) = some ds := (rfl)
@[simp] theorem x_itOfT (ds : List D) : itOf (.fz (.tuple ds)) = some ds := (rfl)
@[simp] theorem x_fN_nil (t : Tg) (g : DSt) (ρ : Env) : fN t g [] ρ = .nx ρ := (rfl)
theorem x_fN_cons (t : Tg) (g : DSt) (d : D) (ds : List D) (ρ : Env) : fN t g (d :: ds) ρ = match t.put d ρ with
    | some ρ1 => match g ρ1 with
      | .nx ρ2 => fN t g ds ρ2
      | .ct ρ2 => fN t g ds ρ2
      | .bk ρ2 => .nx ρ2
      | .rt r ρ2 => .rt r ρ2
      | .bad => .bad
    | none => .bad := rfl
@[simp] theorem x_lcL_nil (t : Tg) (tt : DTx) (f : DEx) (vs : List Nat) (ρ : Env) (acc : List D) : lcL t tt f vs [] ρ acc = some (acc, ρ) := (rfl)
theorem x_lcL_cons (t : Tg) (tt : DTx) (f : DEx) (vs : List Nat) (d : D) (ds : List D) (ρ : Env) (acc : List D) : lcL t tt f vs (d :: ds) ρ acc = match t.put d ρ with
    | some ρ1 => match tt ρ1 with
      | some (true, ρ2) => match eFz f ρ2 with
        | some (.fz x, ρ3) => if noC ρ3 vs = true ∧ acc.length ≤ LIM then lcL t tt f vs ds (wipeD ρ3 vs) (acc ++ [x]) else none
        | _ => none
      | some (false, ρ2) => if noC ρ2 vs = true then lcL t tt f vs ds (wipeD ρ2 vs) acc else none
      | none => none
    | none => none := rfl
end DL
namespace DL
open PySem PySem.Spec PyProof.Rows L2
theorem log2_lt {n k : Nat} (h : n < 2 ^ k) (hk : k ≠ 0) : n.log2 < k := by
  by_cases hn : n = 0
  · subst hn; rw [show Nat.log2 0 = 0 from by decide]; omega
  · exact (Nat.log2_lt hn).mpr h
theorem mulOk_of {i j : Int} (h : (-(2 ^ 63) ≤ i ∧ i ≤ 2 ^ 63) ∨ (-(2 ^ 63) ≤ j ∧ j ≤ 2 ^ 63)) : mulOk i j = true := by
  unfold mulOk
  simp only [Bool.or_eq_true, dP_iff]
  rcases h with h | h
  · exact .inl (.inl (log2_lt (by omega) (by decide)))
  · exact .inl (.inr (log2_lt (by omega) (by decide)))
theorem x_oMul {i j : Int} (h : (-(2 ^ 63) ≤ i ∧ i ≤ 2 ^ 63) ∨ (-(2 ^ 63) ≤ j ∧ j ≤ 2 ^ 63)) : oMul (.int i) (.int j) = some (.at (.int (i * j))) := by
  unfold oMul oOr oMulI oII
  simp only [mulOk_of h, if_true]
theorem x_oFdiv {i j : Int} (h : 0 < j ∧ j ≤ 2 ^ 63) : oFdiv (.int i) (.int j) = some (.at (.int (i / j))) := by
  unfold oFdiv oII divOk
  have : j.natAbs.log2 < 64 := log2_lt (by omega) (by decide)
  simp only [Int.fdiv_eq_ediv_of_nonneg i (by omega : 0 ≤ j)]
  rw [if_pos]
  simp only [Bool.and_eq_true, dP_iff]
  omega
theorem x_oMod {i j : Int} (h : 0 < j) : oMod (.int i) (.int j) = some (.at (.int (i % j))) := by
  unfold oMod oII
  simp only [Int.fmod_eq_emod_of_nonneg i (by omega : 0 ≤ j)]
  rw [if_pos]
  simp only [dP_iff]
  omega
theorem x_oDivmod {i j : Int} (h : 0 < j ∧ j ≤ 2 ^ 63) : oDivmod [.int i, .int j] = some (.nt [.int (i / j), .int (i % j)]) := by
  unfold oDivmod
  have : j.natAbs.log2 < 64 := log2_lt (by omega) (by decide)
  simp only
  rw [if_pos (by rw [dP_iff]; omega)]
theorem x_oPow {i j : Int} (h : powOk i j = true) : oPow (.int i) (.int j) = some (.at (.int (i ^ j.toNat))) := by
  unfold oPow oII
  simp only [h, if_true]
theorem bnd62_of {i : Int} (h : -(2 ^ 62) ≤ i ∧ i < 2 ^ 62) : bnd62 i = true := by
  unfold bnd62
  simp only [Bool.and_eq_true, dP_iff]
  exact h
theorem x_rng1 {j : Int} (h : -(2 ^ 62) ≤ j ∧ j < 2 ^ 62) : rngOf [.int j] = some (rngD 0 1 j.toNat) := by
  unfold rngOf
  simp only [bnd62_of h, if_true]
theorem x_rng2 {i j : Int} (h : (-(2 ^ 62) ≤ i ∧ i < 2 ^ 62) ∧ -(2 ^ 62) ≤ j ∧ j < 2 ^ 62) : rngOf [.int i, .int j] = some (rngD i 1 (j - i).toNat) := by
  unfold rngOf
  simp only [bnd62_of h.1, bnd62_of h.2, and_self, if_true]
end DL
namespace DL
open PySem PySem.Spec PyProof.Rows L2
/-! turns -/
def lcT (t : Tg) (tt : DTx) (f : DEx) (vs : List Nat) (ρ : Env) (d : D) : Option (Option D × Env) := match t.put d ρ with
    | some ρ1 => match tt ρ1 with
      | some (true, ρ2) => match eFz f ρ2 with
        | some (.fz x, ρ3) => if noC ρ3 vs = true then some (some x, wipeD ρ3 vs) else none
        | _ => none
      | some (false, ρ2) => if noC ρ2 vs = true then some (none, wipeD ρ2 vs) else none
      | none => none
    | none => none
theorem lcL_turn (t : Tg) (tt : DTx) (f : DEx) (vs : List Nat) (d : D) (ds : List D) (ρ : Env) (acc : List D) (hl : acc.length ≤ LIM) : lcL t tt f vs (d :: ds) ρ acc = match lcT t tt f vs ρ d with
    | some (some x, ρ1) => lcL t tt f vs ds ρ1 (acc ++ [x])
    | some (none, ρ1) => lcL t tt f vs ds ρ1 acc
    | none => none := by
  rw [x_lcL_cons]
  unfold lcT
  cases t.put d ρ with
  | none => rfl
  | some ρ1 =>
    simp only
    cases tt ρ1 with
    | none => rfl
    | some z =>
      obtain ⟨b, ρ2⟩ := z
      cases b with
      | false =>
        simp only
        by_cases hn : noC ρ2 vs = true
        · rw [if_pos hn, if_pos hn]
        · rw [if_neg hn, if_neg hn]
      | true =>
        simp only
        cases eFz f ρ2 with
        | none => rfl
        | some y =>
          obtain ⟨r, ρ3⟩ := y
          cases r with
          | fz x =>
            simp only
            by_cases hn : noC ρ3 vs = true
            · rw [if_pos ⟨hn, hl⟩, if_pos hn]
            · rw [if_neg fun h => hn h.1, if_neg hn]
          | fr _ => rfl
          | sl _ => rfl
theorem lcL_pure {α : Type} {t : Tg} {tt : DTx} {f : DEx} {vs : List Nat} {ρ : Env} {enc : α → D} (p : α → Bool) (g : α → D) : ∀ {xs : List α} {acc : List D}, (∀ a ∈ xs, lcT t tt f vs ρ (enc a) = some (if p a then some (g a) else none, ρ)) → acc.length + xs.length ≤ LIM → lcL t tt f vs (xs.map enc) ρ acc = some (acc ++ (xs.filter p).map g, ρ)
  | [], acc, _, _ => by simp
  | a :: xs, acc, h, hl => by
    rw [List.length_cons] at hl
    rw [List.map_cons, lcL_turn (hl := by omega), h a (by simp)]
    have h' := fun b (hb : b ∈ xs) => h b (by simp [hb])
    by_cases hp : p a = true
    · rw [if_pos hp]
      simp only
      rw [lcL_pure p g h' (by rw [List.length_append, List.length_singleton]; omega), List.filter_cons_of_pos hp]
      simp
    · rw [if_neg hp]
      simp only
      rw [lcL_pure p g h' (by omega), List.filter_cons_of_neg hp]
theorem lcL_map {α : Type} {t : Tg} {tt : DTx} {f : DEx} {vs : List Nat} {ρ : Env} {enc : α → D} (g : α → D) {xs : List α} (h : ∀ a ∈ xs, lcT t tt f vs ρ (enc a) = some (some (g a), ρ)) (hl : xs.length ≤ LIM) : lcL t tt f vs (xs.map enc) ρ [] = some (xs.map g, ρ) := by
  rw [lcL_pure (fun _ => true) g (by simpa using h) (by simpa using hl), List.filter_eq_self.mpr (fun _ _ => rfl), List.nil_append]
def fT (t : Tg) (g : DSt) (ρ : Env) (d : D) : Out := match t.put d ρ with
    | some ρ1 => g ρ1
    | none => .bad
theorem fN_turn (t : Tg) (g : DSt) (d : D) (ds : List D) (ρ : Env) : fN t g (d :: ds) ρ = match fT t g ρ d with
      | .nx ρ2 => fN t g ds ρ2
      | .ct ρ2 => fN t g ds ρ2
      | .bk ρ2 => .nx ρ2
      | .rt r ρ2 => .rt r ρ2
      | .bad => .bad := by
  rw [x_fN_cons]
  unfold fT
  cases t.put d ρ with
  | none => rfl
  | some ρ1 => rfl
theorem fN_fold {α β : Type} {t : Tg} {g : DSt} {enc : α → D} (env : β → Env) (step : β → α → β) : ∀ {xs : List α} {b : β}, (∀ b, ∀ a ∈ xs, fT t g (env b) (enc a) = .nx (env (step b a)) ∨ fT t g (env b) (enc a) = .ct (env (step b a))) → fN t g (xs.map enc) (env b) = .nx (env (xs.foldl step b))
  | [], _, _ => rfl
  | a :: xs, b, h => by
    have r := fN_fold env step (xs := xs) (b := step b a) fun b c hc => h b c (List.mem_cons_of_mem _ hc)
    rw [List.map_cons, fN_turn, List.foldl_cons]
    rcases h b a (List.mem_cons_self ..) with e | e
    · simp only [e]; exact r
    · simp only [e]; exact r
theorem fN_inv {t : Tg} {g : DSt} (P : Env → Prop) : ∀ {ds : List D} {ρ : Env}, (∀ d ∈ ds, ∀ ρ, P ρ → ∃ ρ', (fT t g ρ d = .nx ρ' ∨ fT t g ρ d = .ct ρ') ∧ P ρ') → P ρ → ∃ ρ', fN t g ds ρ = .nx ρ' ∧ P ρ'
  | [], ρ, _, p => ⟨ρ, rfl, p⟩
  | d :: ds, ρ, h, p => by
    obtain ⟨ρ1, e, p1⟩ := h d (by simp) ρ p
    obtain ⟨ρ2, e2, p2⟩ := fN_inv P (ds := ds) (fun d hd => h d (List.mem_cons_of_mem _ hd)) p1
    refine ⟨ρ2, ?_, p2⟩
    rw [fN_turn]
    rcases e with e | e
    · simp only [e]; exact e2
    · simp only [e]; exact e2
theorem fN_invI {t : Tg} {g : DSt} (P : List D → Env → Prop) : ∀ {ds : List D} {ρ : Env}, (∀ d rest, ∀ ρ, P (d :: rest) ρ → ∃ ρ', (fT t g ρ d = .nx ρ' ∨ fT t g ρ d = .ct ρ') ∧ P rest ρ') → P ds ρ → ∃ ρ', fN t g ds ρ = .nx ρ' ∧ P [] ρ'
  | [], ρ, _, p => ⟨ρ, rfl, p⟩
  | d :: ds, ρ, h, p => by
    obtain ⟨ρ1, e, p1⟩ := h d ds ρ p
    obtain ⟨ρ2, e2, p2⟩ := fN_invI P h p1
    refine ⟨ρ2, ?_, p2⟩
    rw [fN_turn]
    rcases e with e | e
    · simp only [e]; exact e2
    · simp only [e]; exact e2
theorem rngD_map (lo c : Int) (n : Nat) : rngD lo c n = (List.range n).map fun k : Nat => PyData.int (lo + (k : Int) * c) := rfl
end DL
namespace DL
open PySem PySem.Spec PyProof.Rows L2
@[simp] theorem x_kB0 : kitB "NoneType" "int" = some false := (rfl)
@[simp] theorem x_kB1 : kitB "NoneType" "bool" = some false := (rfl)
@[simp] theorem x_kB2 : kitB "NoneType" "str" = some false := (rfl)
@[simp] theorem x_kB3 : kitB "NoneType" "list" = some false := (rfl)
@[simp] theorem x_kB4 : kitB "NoneType" "tuple" = some false := (rfl)
@[simp] theorem x_kB5 : kitB "NoneType" "dict" = some false := (rfl)
@[simp] theorem x_kB6 : kitB "bool" "int" = some true := (rfl)
@[simp] theorem x_kB7 : kitB "bool" "bool" = some true := (rfl)
@[simp] theorem x_kB8 : kitB "bool" "str" = some false := (rfl)
@[simp] theorem x_kB9 : kitB "bool" "list" = some false := (rfl)
@[simp] theorem x_kB10 : kitB "bool" "tuple" = some false := (rfl)
@[simp] theorem x_kB11 : kitB "bool" "dict" = some false := (rfl)
@[simp] theorem x_kB12 : kitB "int" "int" = some true := (rfl)
@[simp] theorem x_kB13 : kitB "int" "bool" = some false := (rfl)
@[simp] theorem x_kB14 : kitB "int" "str" = some false := (rfl)
@[simp] theorem x_kB15 : kitB "int" "list" = some false := (rfl)
@[simp] theorem x_kB16 : kitB "int" "tuple" = some false := (rfl)
@[simp] theorem x_kB17 : kitB "int" "dict" = some false := (rfl)
@[simp] theorem x_kB18 : kitB "str" "int" = some false := (rfl)
@[simp] theorem x_kB19 : kitB "str" "bool" = some false := (rfl)
@[simp] theorem x_kB20 : kitB "str" "str" = some true := (rfl)
@[simp] theorem x_kB21 : kitB "str" "list" = some false := (rfl)
@[simp] theorem x_kB22 : kitB "str" "tuple" = some false := (rfl)
@[simp] theorem x_kB23 : kitB "str" "dict" = some false := (rfl)
@[simp] theorem x_kB24 : kitB "list" "int" = some false := (rfl)
@[simp] theorem x_kB25 : kitB "list" "bool" = some false := (rfl)
@[simp] theorem x_kB26 : kitB "list" "str" = some false := (rfl)
@[simp] theorem x_kB27 : kitB "list" "list" = some true := (rfl)
@[simp] theorem x_kB28 : kitB "list" "tuple" = some false := (rfl)
@[simp] theorem x_kB29 : kitB "list" "dict" = some false := (rfl)
@[simp] theorem x_kB30 : kitB "tuple" "int" = some false := (rfl)
@[simp] theorem x_kB31 : kitB "tuple" "bool" = some false := (rfl)
@[simp] theorem x_kB32 : kitB "tuple" "str" = some false := (rfl)
@[simp] theorem x_kB33 : kitB "tuple" "list" = some false := (rfl)
@[simp] theorem x_kB34 : kitB "tuple" "tuple" = some true := (rfl)
@[simp] theorem x_kB35 : kitB "tuple" "dict" = some false := (rfl)
@[simp] theorem x_kB36 : kitB "dict" "int" = some false := (rfl)
@[simp] theorem x_kB37 : kitB "dict" "bool" = some false := (rfl)
@[simp] theorem x_kB38 : kitB "dict" "str" = some false := (rfl)
@[simp] theorem x_kB39 : kitB "dict" "list" = some false := (rfl)
@[simp] theorem x_kB40 : kitB "dict" "tuple" = some false := (rfl)
@[simp] theorem x_kB41 : kitB "dict" "dict" = some true := (rfl)
end DL
namespace DL
open PySem PySem.Spec PyProof.Rows L2
@[simp] theorem x_deref_sl (i : Nat) (ρ : Env) : deref ρ (.sl i) = match ρ[i]? with
    | some (.own xs) => some (.list xs)
    | some (.par xs) => some (.list xs)
    | _ => none := (rfl)
end DL
namespace DL
open PySem PySem.Spec PyProof.Rows L2
theorem fN_foldI {α β : Type} {t : Tg} {g : DSt} {enc : α → D} (env : β → Env) (step : β → α → β) (I : List α → β → Prop) : ∀ {xs : List α} {b : β}, (∀ a rest b, I (a :: rest) b → (fT t g (env b) (enc a) = .nx (env (step b a)) ∨ fT t g (env b) (enc a) = .ct (env (step b a))) ∧ I rest (step b a)) → I xs b → fN t g (xs.map enc) (env b) = .nx (env (xs.foldl step b)) ∧ I [] (xs.foldl step b)
  | [], _, _, i => ⟨rfl, i⟩
  | a :: xs, b, h, i => by
    obtain ⟨e, i'⟩ := h a xs b i
    have r := fN_foldI env step I (xs := xs) (b := step b a) h i'
    refine ⟨?_, r.2⟩
    rw [List.map_cons, fN_turn, List.foldl_cons]
    rcases e with e | e
    · simp only [e]; exact r.1
    · simp only [e]; exact r.1
theorem atI_pos {α : Type} {xs : List α} {i : Int} (h : 0 ≤ i ∧ i < xs.length) : atI xs i = xs[i.toNat]? := by
  unfold atI ixN
  rw [if_pos h.1, if_pos h.2]
  rfl
theorem atI_neg {α : Type} {xs : List α} {i : Int} (h : i < 0 ∧ -(xs.length : Int) ≤ i) : atI xs i = xs[(i + xs.length).toNat]? := by
  unfold atI ixN
  rw [if_neg (by omega), if_pos h.2]
  rfl
theorem cutD_to {α : Type} (xs : List α) {i : Int} (h : 0 ≤ i) : cutD xs none (some i) = xs.take i.toNat := by
  unfold cutD HT.sIx
  simp only [Nat.sub_zero, List.drop_zero]
  rw [if_neg (by omega)]
  by_cases hl : i.toNat ≤ xs.length
  · rw [Nat.min_eq_left hl]
  · rw [Nat.min_eq_right (by omega), List.take_length, List.take_of_length_le (by omega)]
end DL
namespace DL
open PySem PySem.Spec PyProof.Rows L2
theorem fN_range' {t : Tg} {g : DSt} {enc : Nat → D} (I : Nat → Env → Prop) (N : Nat) (h : ∀ k, k < N → ∀ ρ, I k ρ → ∃ ρ', (fT t g ρ (enc k) = .nx ρ' ∨ fT t g ρ (enc k) = .ct ρ') ∧ I (k + 1) ρ') : ∀ {n s : Nat} {ρ : Env}, s + n = N → I s ρ → ∃ ρ', fN t g ((List.range' s n).map enc) ρ = .nx ρ' ∧ I N ρ'
  | 0, s, ρ, e, i => ⟨ρ, rfl, by rw [← e]; exact i⟩
  | n + 1, s, ρ, e, i => by
    obtain ⟨ρ1, e1, i1⟩ := h s (by omega) ρ i
    obtain ⟨ρ2, e2, i2⟩ := fN_range' I N h (n := n) (s := s + 1) (by omega) i1
    refine ⟨ρ2, ?_, i2⟩
    rw [List.range'_succ, List.map_cons, fN_turn]
    rcases e1 with e1 | e1
    · simp only [e1]; exact e2
    · simp only [e1]; exact e2
theorem fN_range {t : Tg} {g : DSt} {enc : Nat → D} (I : Nat → Env → Prop) {n : Nat} {ρ : Env} (i : I 0 ρ) (h : ∀ k, k < n → ∀ ρ, I k ρ → ∃ ρ', (fT t g ρ (enc k) = .nx ρ' ∨ fT t g ρ (enc k) = .ct ρ') ∧ I (k + 1) ρ') : ∃ ρ', fN t g ((List.range n).map enc) ρ = .nx ρ' ∧ I n ρ' := by
  rw [List.range_eq_range']
  exact fN_range' I n h (by omega) i
/-- how many turns of range(i, j, c) -/
def rsz (i j c : Int) : Nat := if i < j then ((j - i - 1) / c + 1).toNat else 0
theorem x_rng3 {i j c : Int} (h : 0 < c ∧ c < 1073741824 ∧ -(2 ^ 61) ≤ i ∧ i ≤ 2 ^ 61 ∧ -(2 ^ 61) ≤ j ∧ j ≤ 2 ^ 61) : rngOf [.int i, .int j, .int c] = some (rngD i c (rsz i j c)) := by
  have hs : Builtin.Range.rangeSize i j c = if i < j then (j - i - 1) / c + 1 else 0 := by
    unfold Builtin.Range.rangeSize
    rw [if_pos h.1]
  have hb : 0 ≤ Builtin.Range.rangeSize i j c ∧ Builtin.Range.rangeSize i j c ≤ 2 ^ 62 := by
    rw [hs]
    by_cases hl : i < j
    · rw [if_pos hl]
      have h1 : 0 ≤ (j - i - 1) / c := Int.ediv_nonneg (by omega) (by omega)
      have h2 : (j - i - 1) / c ≤ j - i - 1 := Int.ediv_le_self _ (by omega)
      omega
    · rw [if_neg hl]; omega
  have hsm : Builtin.Range.small i j c = true := by
    unfold Builtin.Range.small Builtin.Range.rangeFitsLong
    rw [if_pos h.1]
    simp only [Bool.and_eq_true, decide_eq_true_eq, Bool.or_eq_true]
    generalize Builtin.Range.rangeSize i j c = z at hb
    refine ⟨⟨⟨⟨⟨?_, ?_⟩, ?_, ?_⟩, ?_, ?_⟩, ?_, ?_⟩, .inr ⟨?_, ?_⟩⟩ <;> omega
  unfold rngOf
  simp only
  rw [if_pos (by rw [dP_iff]; exact ⟨by omega, by omega, hsm⟩), hs]
  unfold rsz
  by_cases hl : i < j
  · rw [if_pos hl, if_pos hl]
  · rw [if_neg hl, if_neg hl]; rfl
end DL
namespace DL
open PySem PySem.Spec PyProof.Rows L2
theorem ixN_nat {n : Nat} {i : Int} (k : Nat) (e : i = (k : Int)) (h : k < n) : ixN n i = some k := by
  subst e
  unfold ixN
  rw [if_pos (by omega), if_pos (by omega)]
  rfl
end DL
namespace DL
open PySem PySem.Spec PyProof.Rows L2
theorem x_oRep {xs : List D} {k : Int} (h : -(2 ^ 62) ≤ k ∧ k ≤ 2 ^ 62) (hl : xs.length * k.toNat ≤ LIM) : oMul (.list xs) (.int k) = some (.nl (List.replicate k.toNat xs).flatten) := by
  unfold oMul oOr oMulI oII oRep repOk
  simp only
  rw [if_pos]
  simp only [Bool.and_eq_true, dP_iff]
  exact ⟨⟨by omega, by omega⟩, hl⟩
theorem x_oRep1 {x : D} {k : Int} (n : Nat) (e : k = (n : Int)) (hl : n ≤ 16000000) : oMul (.list [x]) (.int k) = some (.nl (List.replicate n x)) := by
  subst e
  rw [x_oRep (by omega) (lim_of (by show 1 * n ≤ 16000000; omega))]
  congr 2
  show (List.replicate n [x]).flatten = _
  induction n with
  | zero => rfl
  | succ n ih => rw [List.replicate_succ, List.flatten_cons, ih (by omega), List.replicate_succ]; rfl
end DL
namespace DL
open PySem PySem.Spec PyProof.Rows L2
@[simp] theorem x_noC_nil (ρ : DL.Env) : noC ρ [] = true := (rfl)
@[simp] theorem x_noC_cons (ρ : DL.Env) (i : Nat) (vs : List Nat) : noC ρ (i :: vs) = ((match ρ[i]? with
  | some (.own _) => false
  | some (.par _) => false
  | some (.dc _) => false
  | _ => true) && noC ρ vs) := (rfl)
@[simp] theorem x_wipe_nil (ρ : DL.Env) : wipeD ρ [] = ρ := (rfl)
@[simp] theorem x_wipe_cons (ρ : DL.Env) (v : Nat) (vs : List Nat) : wipeD ρ (v :: vs) = (wipeD ρ vs).set v .un := (rfl)
@[simp] theorem x_unw_nil (ρ ρ4 : DL.Env) : unwD ρ ρ4 [] = ρ4 := (rfl)
@[simp] theorem x_unw_cons (ρ ρ4 : DL.Env) (v : Nat) (vs : List Nat) : unwD ρ ρ4 (v :: vs) = match ρ[v]? with
    | some c => (unwD ρ ρ4 vs).set v c
    | none => unwD ρ ρ4 vs := (rfl)
theorem x_oCat {xs ys : List D} (h : xs.length + ys.length ≤ 16000000) : oAdd (.list xs) (.list ys) = some (.nl (xs ++ ys)) := by
  unfold oAdd oOr oAddI oII oCat
  simp only
  rw [if_pos (lim_of h)]
end DL
namespace DL
open PySem PySem.Spec PyProof.Rows L2
theorem sWhile_inv {t : DTx} {g : DSt} (I Post : DL.Env → Prop) (μ : DL.Env → Nat)
    (h : ∀ ρ, I ρ → (∃ ρ1, t ρ = some (false, ρ1) ∧ Post ρ1) ∨ (∃ ρ1 ρ2, t ρ = some (true, ρ1) ∧ (g ρ1 = .nx ρ2 ∨ g ρ1 = .ct ρ2) ∧ I ρ2 ∧ μ ρ2 < μ ρ)) {ρ : DL.Env} (i : I ρ) : ∃ ρ', sWhile t g ρ = .nx ρ' ∧ Post ρ' := by
  suffices hs : ∀ n ρ, μ ρ < n → I ρ → ∃ ρ', wN t g n ρ = some (.nx ρ') ∧ Post ρ' by
    obtain ⟨ρ', e, p⟩ := hs (μ ρ + 1) ρ (by omega) i
    exact ⟨ρ', sWhile_eq e, p⟩
  intro n
  induction n with
  | zero => intro ρ hl; omega
  | succ n ih =>
    intro ρ hl i
    rcases h ρ i with ⟨ρ1, e, p⟩ | ⟨ρ1, ρ2, e, e2, i2, l⟩
    · exact ⟨ρ1, by rw [wN, e], p⟩
    · obtain ⟨ρ', e3, p⟩ := ih ρ2 (by omega) i2
      refine ⟨ρ', ?_, p⟩
      rw [wN, e]
      rcases e2 with e2 | e2
      · simp only [e2]; exact e3
      · simp only [e2]; exact e3
theorem sWhile_stop {t : DTx} {g : DSt} {ρ ρ1 : DL.Env} (h : t ρ = some (false, ρ1)) : sWhile t g ρ = .nx ρ1 := sWhile_eq (n := 1) (by rw [wN, h])
theorem sWhile_go {t : DTx} {g : DSt} {ρ ρ1 ρ2 ρ' : DL.Env} (h : t ρ = some (true, ρ1)) (h2 : g ρ1 = .nx ρ2) (h3 : ∃ n, wN t g n ρ2 = some (.nx ρ')) : ∃ n, wN t g n ρ = some (.nx ρ') := by
  obtain ⟨n, e⟩ := h3
  exact ⟨n + 1, by rw [wN, h]; simp only [h2]; exact e⟩
end DL
namespace DL
open PySem PySem.Spec PyProof.Rows L2
@[simp] theorem x_putR_fz (i : Nat) (d : D) (ρ : DL.Env) : putR i (.fz d) ρ = put i (.v d) ρ := (rfl)
@[simp] theorem x_putR_fr (i : Nat) (d : List D) (ρ : DL.Env) : putR i (.fr d) ρ = put i (.own d) ρ := (rfl)
end DL
namespace DL
open PySem PySem.Spec PyProof.Rows L2
/-- data whose text repr gives, with bounds -/
structure Tx (d : D) (k n : Nat) : Prop where
  show_ : d.showable = true
  dict : d.hasDict = false
  dep : d.depth ≤ k
  len : d.shown.length ≤ n
theorem Tx.int {i : Int} (h : i.natAbs < 10 ^ 20) : Tx (.int i) 0 21 := by
  refine ⟨?_, ?_, ?_, ?_⟩
  · rw [PyData.showable, decide_eq_true_eq]
    exact Nat.lt_trans (log2_lt (k := 67) (by omega) (by decide)) (by decide)
  · rw [PyData.hasDict]
  · simp
  · rw [PyData.shown, PySem.ofString_length]
    exact int_text_length_le10 (by decide) h
theorem Tx.bool {b : Bool} : Tx (.bool b) 0 5 := ⟨by rw [PyData.showable], by rw [PyData.hasDict], by simp, by cases b <;> decide⟩
theorem Tx.none : Tx .none 0 4 := ⟨by rw [PyData.showable], by rw [PyData.hasDict], by simp, by decide⟩
theorem Tx.mono {d : D} {k n k' n' : Nat} (h : Tx d k n) (hk : k ≤ k') (hn : n ≤ n') : Tx d k' n' := ⟨h.1, h.2, Nat.le_trans h.3 hk, Nat.le_trans h.4 hn⟩
theorem Tx.all {k m : Nat} : ∀ {xs : List D}, (∀ x ∈ xs, Tx x k m) → PyData.showableAll xs = true ∧ PyData.hasDictAll xs = false ∧ PyData.depthAll xs ≤ k ∧ ((PyData.shownAll xs).map (·.length)).sum ≤ xs.length * m ∧ (PyData.shownAll xs).length = xs.length
  | [], _ => ⟨by rw [PyData.showableAll], by rw [PyData.hasDictAll], by simp, by rw [PyData.shownAll]; simp, by rw [PyData.shownAll]; rfl⟩
  | x :: xs, h => by
    have hx := h x (by simp)
    obtain ⟨h1, h2, h3, h4, h5⟩ := Tx.all (xs := xs) (k := k) (m := m) fun y hy => h y (List.mem_cons_of_mem _ hy)
    refine ⟨?_, ?_, ?_, ?_, ?_⟩
    · rw [PyData.showableAll, hx.1, h1]; rfl
    · rw [PyData.hasDictAll, hx.2, h2]; rfl
    · rw [x_dep_cons]; have := hx.3; omega
    · rw [PyData.shownAll, List.map_cons, List.sum_cons, List.length_cons, Nat.succ_mul]
      have := hx.4
      omega
    · rw [PyData.shownAll, List.length_cons, List.length_cons, h5]
theorem Tx.list {k m : Nat} {xs : List D} (L : Nat) (h : ∀ x ∈ xs, Tx x k m) (hl : xs.length ≤ L) : Tx (.list xs) (k + 1) (3 + L * (m + 2)) := by
  obtain ⟨h1, h2, h3, h4, h5⟩ := Tx.all h
  refine ⟨by rw [PyData.showable, h1], by rw [PyData.hasDict, h2], by rw [x_dep_list]; omega, ?_⟩
  rw [PyData.shown]
  have := listText_len_le (PyData.shownAll xs)
  have hm := Nat.mul_le_mul_right (m + 2) hl
  rw [Nat.mul_add, Nat.mul_add] at hm
  rw [Nat.mul_add]
  omega
theorem Tx.tuple {k m : Nat} {xs : List D} (L : Nat) (h : ∀ x ∈ xs, Tx x k m) (hl : xs.length ≤ L) : Tx (.tuple xs) (k + 1) (3 + L * (m + 2)) := by
  obtain ⟨h1, h2, h3, h4, h5⟩ := Tx.all h
  refine ⟨by rw [PyData.showable, h1], by rw [PyData.hasDict, h2], by rw [x_dep_tuple]; omega, ?_⟩
  rw [PyData.shown]
  have := tupleText_len_le (PyData.shownAll xs)
  have hm := Nat.mul_le_mul_right (m + 2) hl
  rw [Nat.mul_add, Nat.mul_add] at hm
  rw [Nat.mul_add]
  omega
theorem Tx.repr {d : D} {k n : Nat} (h : Tx d k n) (hk : k ≤ 64) (hn : n ≤ 16777216) : oRepr [d] = some (.at (.str d.shown)) := by
  unfold oRepr
  simp only
  rw [if_pos (dP_iff.mpr ⟨h.1, h.2, Nat.le_trans h.3 hk, Nat.le_trans h.4 (Nat.le_trans hn (by decide))⟩)]
end DL
namespace DL
open PySem PySem.Spec PyProof.Rows L2
theorem seq_nx {g g' : DSt} {ρ ρ1 : DL.Env} (h : g ρ = .nx ρ1) : sSeq g g' ρ = g' ρ1 := by rw [x_sSeq, h]
end DL
namespace DL
open PySem PySem.Spec PyProof.Rows L2
@[simp] theorem x_kAny_nil (t : String) : kitAnyB t [] = some false := (rfl)
@[simp] theorem x_kAny_cons (t T : String) (Ts : List String) : kitAnyB t (T :: Ts) = match kitB t T, kitAnyB t Ts with
    | some a, some b => some (a || b)
    | _, _ => none := (rfl)
@[simp] theorem x_eIsiT (Ts : List String) (f : DEx) (ρ : DL.Env) : eIsiT Ts f ρ = match f ρ with
  | some (r, ρ1) => match deref ρ1 r with
    | some d => match kitAnyB (tyN d) Ts with
      | some b => some (.fz (.bool b), ρ1)
      | none => none
    | none => none
  | none => none := (rfl)
@[simp] theorem x_oTupleL (xs : List D) : oTuple [.list xs] = some (.nt xs) := (rfl)
@[simp] theorem x_oTupleT (xs : List D) : oTuple [.tuple xs] = some (.at (.tuple xs)) := (rfl)
@[simp] theorem x_eLstRg (fs : List DEx) (ρ : DL.Env) : eLstRg fs ρ = match iRange fs ρ with
  | some (ds, ρ1) => if ds.length ≤ LIM then some (.fr ds, ρ1) else none
  | none => none := (rfl)
@[simp] theorem x_sFrz (i : Nat) (g : DSt) (ρ : DL.Env) : sFrz i g ρ = match ρ[i]? with
  | some (.own xs) => g (ρ.set i (.v (.list xs)))
  | _ => g ρ := (rfl)
@[simp] theorem x_eAppF (f g : DEx) (ρ : DL.Env) : eAppF f g ρ = match f ρ with
  | some (.fr xs, ρ1) => match g ρ1 with
    | some (.fz _, ρ2) => if xs.length ≤ LIM then some (.fz .none, ρ2) else none
    | _ => none
  | _ => none := (rfl)
end DL
namespace DL
open PySem PySem.Spec PyProof.Rows L2
@[simp] theorem x_sParF (i j : Nat) (f g : DEx) (ρ : DL.Env) : sParF i j f g ρ = match f ρ with
  | some (.fr a, ρ1) => match g ρ1 with
    | some (.fr b, ρ2) => match put i (.own a) ρ2 with
      | some ρ3 => match put j (.own b) ρ3 with
        | some ρ4 => .nx ρ4
        | none => .bad
      | none => .bad
    | _ => .bad
  | _ => .bad := (rfl)
end DL
namespace DL
open PySem PySem.Spec PyProof.Rows L2
/-! dicts -/
@[simp] theorem x_sDct0 (i : Nat) (ρ : DL.Env) : sDct0 i ρ = match put i (.dc []) ρ with
  | some ρ1 => .nx ρ1
  | none => .bad := (rfl)
@[simp] theorem x_sParD0 (i j : Nat) (f : DEx) (ρ : DL.Env) : sParD0 i j f ρ = match f ρ with
  | some (.fz d, ρ1) => match put i (.dc []) ρ1 with
    | some ρ2 => match put j (.v d) ρ2 with
      | some ρ3 => .nx ρ3
      | none => .bad
    | none => .bad
  | some (.fr xs, ρ1) => match put i (.dc []) ρ1 with
    | some ρ2 => match put j (.own xs) ρ2 with
      | some ρ3 => .nx ρ3
      | none => .bad
    | none => .bad
  | _ => .bad := (rfl)
@[simp] theorem x_eDGet2 (i : Nat) (fk fv : DEx) (ρ : DL.Env) : eDGet2 i fk fv ρ = match ρ[i]? with
  | some (.dc _) => match fk ρ with
    | some (.fz kd, ρ1) => match fv ρ1 with
      | some (.fz d0, ρ2) => match ρ2[i]? with
        | some (.dc kvs) => match keyOf kd with
          | some k => some (.fz ((dval kvs k).getD d0), ρ2)
          | none => none
        | _ => none
      | _ => none
    | _ => none
  | _ => none := (rfl)
@[simp] theorem x_eDIx (i : Nat) (fk : DEx) (ρ : DL.Env) : eDIx i fk ρ = match ρ[i]? with
  | some (.dc _) => match fk ρ with
    | some (.fz kd, ρ1) => match ρ1[i]? with
      | some (.dc kvs) => match keyOf kd with
        | some k => match dval kvs k with
          | some d => some (.fz d, ρ1)
          | none => none
        | none => none
      | _ => none
    | _ => none
  | _ => none := (rfl)
@[simp] theorem x_eDIn (neg : Bool) (fk : DEx) (i : Nat) (ρ : DL.Env) : eDIn neg fk i ρ = match fk ρ with
  | some (.fz kd, ρ1) => match ρ1[i]? with
    | some (.dc kvs) => match keyOf kd with
      | some k => some (.fz (.bool ((dval kvs k).isSome != neg)), ρ1)
      | none => none
    | _ => none
  | _ => none := (rfl)
@[simp] theorem x_sDPut (i : Nat) (fk fv : DEx) (ρ : DL.Env) : sDPut i fk fv ρ = match fv ρ with
  | some (.fz d, ρ1) => match ρ1[i]? with
    | some (.dc _) => match fk ρ1 with
      | some (.fz kd, ρ2) => match ρ2[i]? with
        | some (.dc kvs) => match keyOf kd with
          | some k => if kvs.length ≤ LIM then .nx (ρ2.set i (.dc (dput kvs k d))) else .bad
          | none => .bad
        | _ => .bad
      | _ => .bad
    | _ => .bad
  | _ => .bad := (rfl)
@[simp] theorem x_sDPutPar (i : Nat) (fk : DEx) (j : Nat) (fs : List DEx) (ρ : DL.Env) : sDPutPar i fk j fs ρ = match eArgs fs ρ with
  | some ([.fz a, .fz b], ρ1) => match ρ1[i]? with
    | some (.dc _) => match fk ρ1 with
      | some (.fz kd, ρ2) => match ρ2[i]? with
        | some (.dc kvs) => match keyOf kd with
          | some k => if kvs.length ≤ LIM then match put j (.v b) (ρ2.set i (.dc (dput kvs k a))) with
              | some ρ3 => .nx ρ3
              | none => .bad
            else .bad
          | none => .bad
        | _ => .bad
      | _ => .bad
    | _ => .bad
  | _ => .bad := (rfl)
@[simp] theorem x_eDKeys (i : Nat) (ρ : DL.Env) : eDKeys i ρ = match ρ[i]? with
  | some (.dc kvs) => some (.fr (kvs.map fun kv => keyD kv.1), ρ)
  | _ => none := (rfl)
@[simp] theorem x_eRev (f : DEx) (ρ : DL.Env) : eRev f ρ = match f ρ with
  | some (r, ρ1) => match deref ρ1 r with
    | some (.list xs) => some (.fr xs.reverse, ρ1)
    | _ => none
  | none => none := (rfl)
@[simp] theorem x_keyInt (i : Int) : keyOf (.int i) = some (.inl i) := (rfl)
@[simp] theorem x_keyStr (x : PySem.Str) : keyOf (.str x) = some (.inr x) := (rfl)
@[simp] theorem x_keyDI (i : Int) : keyD (.inl i) = .int i := (rfl)
@[simp] theorem x_eDct0 (ρ : DL.Env) : eDct0 ρ = some (.fz (.dict []), ρ) := (rfl)
@[simp] theorem x_seqOf_l (xs : List D) : seqOf (.fz (.list xs)) = some (true, xs) := (rfl)
@[simp] theorem x_seqOf_t (xs : List D) : seqOf (.fz (.tuple xs)) = some (false, xs) := (rfl)
@[simp] theorem x_iZipC (f g : DEx) (ρ : DL.Env) : iZipC f g ρ = match eArgs [f, g] ρ with
  | some ([r, t], ρ1) => match seqOf r, seqOf t with
    | some (_, xs), some (_, ys) => some (zipD xs ys, ρ1)
    | _, _ => none
  | _ => none := (rfl)
@[simp] theorem x_eSSet (f : DEx) (ρ : Env) : eSSet f ρ = match f ρ with
  | some (r, ρ1) => match deref ρ1 r with
    | some (.list xs) => match intsOf xs with
      | some is => if is.length < 64 then some (.fr ((sortI (dedI is)).map .int), ρ1) else none
      | none => none
    | _ => none
  | none => none := (rfl)
@[simp] theorem x_eLSet (f : DEx) (ρ : Env) : eLSet f ρ = match f ρ with
  | some (r, ρ1) => match deref ρ1 r with
    | some (.list xs) => match intsOf xs with
      | some is => if is.length ≤ 1000 then some (.fz (.int ((dedI is).length : Nat)), ρ1) else none
      | none => none
    | _ => none
  | none => none := (rfl)
@[simp] theorem x_eCount (f fk : DEx) (ρ : Env) : eCount f fk ρ = match f ρ with
  | some (.fz (.list xs), ρ1) => match intsOf xs with
    | some is => match fk ρ1 with
      | some (.fz (.int k), ρ2) => some (.fz (.int (is.count k : Nat)), ρ2)
      | _ => none
    | none => none
  | _ => none := (rfl)
@[simp] theorem x_eDictOf (f : DEx) (ρ : Env) : eDictOf f ρ = match f ρ with
  | some (r, ρ1) => match deref ρ1 r with
    | some (.list xs) => match pairsOf xs with
      | some kvs => some (.fz (.dict (dkvs (dmerge kvs))), ρ1)
      | none => none
    | _ => none
  | none => none := (rfl)
@[simp] theorem x_dOf (kvs : List (Key × D)) : dOf (.fz (.dict (dkvs kvs))) = some kvs := kvsOf_dkvs kvs
@[simp] theorem x_eDIxA (f fk : DEx) (ρ : Env) : eDIxA f fk ρ = match f ρ with
  | some (r, ρ1) => match dOf r with
    | some kvs => match fk ρ1 with
      | some (.fz kd, ρ2) => match keyOf kd with
        | some k => match dval kvs k with
          | some d => some (.fz d, ρ2)
          | none => none
        | none => none
      | _ => none
    | none => none
  | none => none := (rfl)
@[simp] theorem x_eDGetA (f fk fv : DEx) (ρ : Env) : eDGetA f fk fv ρ = match f ρ with
  | some (r, ρ1) => match dOf r with
    | some kvs => match fk ρ1 with
      | some (.fz kd, ρ2) => match fv ρ2 with
        | some (.fz d0, ρ3) => match keyOf kd with
          | some k => some (.fz ((dval kvs k).getD d0), ρ3)
          | none => none
        | _ => none
      | _ => none
    | none => none
  | none => none := (rfl)
@[simp] theorem x_eDInA (neg : Bool) (fk f : DEx) (ρ : Env) : eDInA neg fk f ρ = match fk ρ with
  | some (.fz kd, ρ1) => match f ρ1 with
    | some (r, ρ2) => match dOf r with
      | some kvs => match keyOf kd with
        | some k => some (.fz (.bool ((dval kvs k).isSome != neg)), ρ2)
        | none => none
      | none => none
    | none => none
  | _ => none := (rfl)
@[simp] theorem x_iKeysA (f : DEx) (ρ : Env) : iKeysA f ρ = match f ρ with
  | some (r, ρ1) => match dOf r with
    | some kvs => some (kvs.map fun kv => keyD kv.1, ρ1)
    | none => none
  | none => none := (rfl)
@[simp] theorem x_iItemsA (f : DEx) (ρ : Env) : iItemsA f ρ = match f ρ with
  | some (r, ρ1) => match dOf r with
    | some kvs => some (kvs.map pairD, ρ1)
    | none => none
  | none => none := (rfl)
@[simp] theorem x_sFrzD (i : Nat) (g : DSt) (ρ : Env) : sFrzD i g ρ = match ρ[i]? with
  | some (.dc kvs) => g (ρ.set i (.v (.dict (dkvs kvs))))
  | _ => g ρ := (rfl)
@[simp] theorem x_oIsB (a b : Bool) : oIsB (.bool a) (.bool b) = some (.at (.bool (decide (a = b)))) := (rfl)
@[simp] theorem x_oNotB (a b : Bool) : oNotB (.bool a) (.bool b) = some (.at (.bool (!decide (a = b)))) := (rfl)
end DL
/-! Plain numbers. -/
namespace NT
/-- no one of ps goes into x -/
def fr (ps : List Nat) (x : Nat) : Bool := ps.all fun p => decide (x % p ≠ 0)
/-- how many of 1..n -/
def cnt (ps : List Nat) : Nat → Nat
  | 0 => 0
  | n + 1 => cnt ps n + if fr ps (n + 1) = true then 1 else 0
theorem cnt_filter (ps : List Nat) : ∀ n : Nat, ((List.range n).filter fun k => fr ps (k + 1)).length = cnt ps n
  | 0 => rfl
  | n + 1 => by
    rw [List.range_succ, List.filter_append, List.length_append, cnt_filter ps n, cnt]
    by_cases h : fr ps (n + 1) = true
    · simp [h]
    · simp [h]
theorem cnt_nil : ∀ n : Nat, cnt [] n = n
  | 0 => rfl
  | n + 1 => by rw [cnt, cnt_nil n]; rfl
theorem cnt_le (ps : List Nat) : ∀ n : Nat, cnt ps n ≤ n
  | 0 => Nat.le_refl _
  | n + 1 => by
    have := cnt_le ps n
    rw [cnt]
    split <;> omega
/-- each two share nothing -/
def CoP : List Nat → Prop
  | [] => True
  | p :: ps => 0 < p ∧ (∀ q ∈ ps, Nat.gcd p q = 1) ∧ CoP ps
theorem fr_mul {p : Nat} {ps : List Nat} (h : ∀ q ∈ ps, Nat.gcd p q = 1) (y : Nat) : fr ps (p * y) = fr ps y := by
  unfold fr
  rw [Bool.eq_iff_iff, List.all_eq_true, List.all_eq_true]
  refine forall_congr' fun q => forall_congr' fun hq => ?_
  simp only [decide_eq_true_eq, ne_eq]
  refine not_congr ⟨fun e => ?_, fun e => ?_⟩
  · have d := Nat.dvd_of_mod_eq_zero e
    have g : Nat.Coprime q p := by rw [Nat.coprime_comm]; exact h q hq
    exact Nat.mod_eq_zero_of_dvd (g.dvd_of_dvd_mul_left d)
  · exact Nat.mod_eq_zero_of_dvd (Nat.dvd_trans (Nat.dvd_of_mod_eq_zero e) (Nat.dvd_mul_left _ _))
theorem cnt_cons {p : Nat} {ps : List Nat} (hp : 0 < p) (h : ∀ q ∈ ps, Nat.gcd p q = 1) : ∀ n : Nat, cnt (p :: ps) n + cnt ps (n / p) = cnt ps n
  | 0 => by simp [cnt]
  | n + 1 => by
    have ih := cnt_cons hp h n
    have fc : fr (p :: ps) (n + 1) = (decide ((n + 1) % p ≠ 0) && fr ps (n + 1)) := rfl
    by_cases d : (n + 1) % p = 0
    · have e1 : (n + 1) / p = n / p + 1 := by
        rw [Nat.succ_div, if_pos (Nat.dvd_of_mod_eq_zero d)]
      have e2 : fr ps (n + 1) = fr ps (n / p + 1) := by
        rw [← e1, ← fr_mul h ((n + 1) / p), Nat.mul_div_cancel' (Nat.dvd_of_mod_eq_zero d)]
      rw [e1, cnt, cnt, cnt, fc, e2]
      simp only [d, ne_eq, not_true, decide_false, Bool.false_and, Bool.false_eq_true, if_false]
      omega
    · have e1 : (n + 1) / p = n / p := by
        rw [Nat.succ_div, if_neg (fun q => d (Nat.mod_eq_zero_of_dvd q))]; rfl
      rw [e1, cnt, cnt, fc]
      simp only [d, ne_eq, not_false_eq_true, decide_true, Bool.true_and]
      omega
theorem fr_perm {ps qs : List Nat} (h : ∀ p, p ∈ ps ↔ p ∈ qs) (x : Nat) : fr ps x = fr qs x := by
  unfold fr
  rw [Bool.eq_iff_iff, List.all_eq_true, List.all_eq_true]
  exact forall_congr' fun q => by rw [h q]
theorem cnt_perm {ps qs : List Nat} (h : ∀ p, p ∈ ps ↔ p ∈ qs) : ∀ n : Nat, cnt ps n = cnt qs n
  | 0 => rfl
  | n + 1 => by rw [cnt, cnt, cnt_perm h n, fr_perm h]
/-- rounds -/
theorem cnt_add {ps : List Nat} {P : Nat} (h : ∀ p ∈ ps, p ∣ P) : ∀ n : Nat, cnt ps (P + n) = cnt ps P + cnt ps n
  | 0 => rfl
  | n + 1 => by
    have e : fr ps (P + n + 1) = fr ps (n + 1) := by
      unfold fr
      rw [Bool.eq_iff_iff, List.all_eq_true, List.all_eq_true]
      refine forall_congr' fun q => forall_congr' fun hq => ?_
      obtain ⟨c, rfl⟩ := h q hq
      rw [Nat.add_assoc, Nat.mul_add_mod]
    rw [← Nat.add_assoc, cnt, cnt, cnt_add h n, e]
    omega
theorem cnt_rounds {ps : List Nat} {P : Nat} (h : ∀ p ∈ ps, p ∣ P) (r : Nat) : ∀ q : Nat, cnt ps (q * P + r) = q * cnt ps P + cnt ps r
  | 0 => by simp
  | q + 1 => by
    have e : (q + 1) * P + r = P + (q * P + r) := by rw [Nat.succ_mul]; omega
    rw [e, cnt_add h, cnt_rounds h r q, Nat.succ_mul]
    omega
end NT
namespace NT
/-! primes -/
def isP (n : Nat) : Bool := decide (2 ≤ n) && (List.range n).all fun d => decide (d < 2) || decide (n % d ≠ 0)
theorem isP_iff {n : Nat} : isP n = true ↔ 2 ≤ n ∧ ∀ d, 2 ≤ d → d < n → n % d ≠ 0 := by
  unfold isP
  simp only [Bool.and_eq_true, decide_eq_true_eq, List.all_eq_true, List.mem_range, Bool.or_eq_true]
  constructor
  · rintro ⟨h, k⟩
    exact ⟨h, fun d h1 h2 => (k d h2).resolve_left (by omega)⟩
  · rintro ⟨h, k⟩
    refine ⟨h, fun d h2 => ?_⟩
    by_cases h1 : d < 2
    · exact .inl h1
    · exact .inr (k d (by omega) h2)
theorem two_le {n : Nat} (h : isP n = true) : 2 ≤ n := (isP_iff.mp h).1
/-- the divisors of a prime -/
theorem isP_dvd {p d : Nat} (h : isP p = true) (hd : d ∣ p) : d = 1 ∨ d = p := by
  obtain ⟨h2, k⟩ := isP_iff.mp h
  have hp : 0 < p := by omega
  have := Nat.le_of_dvd hp hd
  have d0 : 0 < d := Nat.pos_of_dvd_of_pos hd hp
  by_cases e : d = p
  · exact .inr e
  · by_cases e1 : d = 1
    · exact .inl e1
    · exact absurd (Nat.mod_eq_zero_of_dvd hd) (k d (by omega) (by omega))
/-- each number from 2 on has a prime that goes into it -/
theorem prime_in : ∀ {n : Nat}, 2 ≤ n → ∃ p, isP p = true ∧ p ∣ n := by
  intro n
  induction n using Nat.strongRecOn with
  | _ n ih =>
    intro h
    by_cases hp : isP n = true
    · exact ⟨n, hp, Nat.dvd_refl n⟩
    · have : ∃ d, 2 ≤ d ∧ d < n ∧ n % d = 0 := by
        false_or_by_contra
        rename_i hn
        refine hp (isP_iff.mpr ⟨h, fun d h1 h2 e => hn ⟨d, h1, h2, e⟩⟩)
      obtain ⟨d, h1, h2, h3⟩ := this
      obtain ⟨p, pp, pd⟩ := ih d h2 h1
      exact ⟨p, pp, Nat.dvd_trans pd (Nat.dvd_of_mod_eq_zero h3)⟩
theorem prime_cop {p q : Nat} (hp : isP p = true) (h : ¬ p ∣ q) : Nat.gcd p q = 1 := by
  rcases isP_dvd hp (Nat.gcd_dvd_left p q) with e | e
  · exact e
  · exact absurd (e ▸ Nat.gcd_dvd_right p q) h
theorem prime_mul {p a b : Nat} (hp : isP p = true) (h : p ∣ a * b) : p ∣ a ∨ p ∣ b := by
  by_cases ha : p ∣ a
  · exact .inl ha
  · exact .inr (Nat.Coprime.dvd_of_dvd_mul_left (prime_cop hp ha) h)
/-- one that is no prime has a prime whose square is not greater -/
theorem small_prime {n : Nat} (h : 2 ≤ n) (hn : isP n = false) : ∃ p, isP p = true ∧ p ∣ n ∧ p * p ≤ n ∧ p < n := by
  have : ∃ d, 2 ≤ d ∧ d < n ∧ n % d = 0 := by
    false_or_by_contra
    rename_i hx
    have : isP n = true := isP_iff.mpr ⟨h, fun d h1 h2 e => hx ⟨d, h1, h2, e⟩⟩
    rw [hn] at this; cases this
  obtain ⟨d, h1, h2, h3⟩ := this
  obtain ⟨e, he⟩ := Nat.dvd_of_mod_eq_zero h3
  have he2 : 2 ≤ e := by
    rcases e with _ | _ | e
    · omega
    · omega
    · omega
  by_cases hde : d ≤ e
  · obtain ⟨p, pp, pd⟩ := prime_in h1
    have := Nat.le_of_dvd (by omega) pd
    have hm : p * p ≤ d * e := Nat.mul_le_mul this (by omega)
    exact ⟨p, pp, Nat.dvd_trans pd ⟨e, he⟩, by omega, by omega⟩
  · obtain ⟨p, pp, pd⟩ := prime_in he2
    have := Nat.le_of_dvd (by omega) pd
    have hm : p * p ≤ d * e := Nat.mul_le_mul (by omega) this
    exact ⟨p, pp, Nat.dvd_trans pd ⟨d, by rw [he, Nat.mul_comm]⟩, by omega, by omega⟩
def primesTo (m : Nat) : List Nat := (List.range (m + 1)).filter isP
/-- what the sieve has left of j behind the numbers below k -/
def mk (k j : Nat) : Bool := (List.range k).all fun p => !(isP p && decide (p * p ≤ j) && decide (j % p = 0))
theorem mk_succ (k j : Nat) : mk (k + 1) j = (mk k j && !(isP k && decide (k * k ≤ j) && decide (j % k = 0))) := by
  unfold mk
  rw [List.range_succ, List.all_append]
  simp
theorem mk_zero (j : Nat) : mk 2 j = true := by
  unfold mk
  rw [show List.range 2 = [0, 1] from rfl]
  simp [show isP 0 = false from rfl, show isP 1 = false from rfl]
theorem mk_self {k : Nat} (h : 2 ≤ k) : mk k k = isP k := by
  rw [Bool.eq_iff_iff]
  constructor
  · intro hm
    cases hp : isP k with
    | true => rfl
    | false =>
      obtain ⟨p, pp, pd, pl, pk⟩ := small_prime h hp
      have := List.all_eq_true.mp hm p (List.mem_range.mpr pk)
      simp [pp, pl, Nat.mod_eq_zero_of_dvd pd] at this
  · intro hp
    refine List.all_eq_true.mpr fun p hk => ?_
    have hk := List.mem_range.mp hk
    cases pp : isP p with
    | false => rfl
    | true =>
      have := (isP_iff.mp hp).2 p (two_le pp) hk
      simp [this]
/-- a row told by a function, one changed -/
theorem map_set {α : Type} (f : Nat → α) (n i : Nat) (v : α) : ((List.range n).map f).set i v = (List.range n).map fun j => if j = i then v else f j := by
  refine List.ext_getElem? fun j => ?_
  rw [List.getElem?_set]
  by_cases hj : j < n
  · by_cases hi : i = j
    · subst hi
      simp [hj]
    · have : ¬ j = i := fun e => hi e.symm
      simp [hi, this, hj]
  · by_cases hi : i = j
    · subst hi
      simp [hj]
    · simp [hi, hj]
end NT
namespace NT
/-- the turns of range(i, j, c), plain -/
theorem turns_lt {i j c t : Nat} (hc : 0 < c) : t < (j - i + c - 1) / c ↔ i + t * c < j := by
  rw [Nat.lt_iff_add_one_le, Nat.le_div_iff_mul_le hc, Nat.add_mul]
  omega
end NT
namespace NT
theorem next_mult {k t j : Nat} (hk : 0 < k) (hj : j % k = 0) : j < k * k + (t + 1) * k ↔ j < k * k + t * k ∨ j = k * k + t * k := by
  obtain ⟨q, rfl⟩ := Nat.dvd_of_mod_eq_zero hj
  have e1 : k * k + (t + 1) * k = k * (k + (t + 1)) := by rw [Nat.mul_add, Nat.mul_comm k (t + 1)]
  have e2 : k * k + t * k = k * (k + t) := by rw [Nat.mul_add, Nat.mul_comm k t]
  rw [e1, e2, Nat.mul_lt_mul_left hk, Nat.mul_lt_mul_left hk, Nat.mul_right_inj (by omega)]
  omega
end NT
namespace NT
theorem primes_range (k : Nat) : (List.range (k + 1)).filter isP = (List.range k).filter isP ++ if isP k = true then [k] else [] := by
  rw [List.range_succ, List.filter_append]
  by_cases h : isP k = true
  · simp [h]
  · simp [h]
end NT
namespace NT
/-- parts: (1, n), less those of the quotients -/
def halves (ps : List (Int × Nat)) (p : Nat) : List (Int × Nat) := ps ++ (ps.filter fun x => decide (p ≤ x.2)).map fun x => (0 - x.1, x.2 / p)
def tot (qs : List Nat) : List (Int × Nat) → Int
  | [] => 0
  | x :: xs => x.1 * cnt qs x.2 + tot qs xs
theorem tot_append (qs : List Nat) : ∀ xs ys : List (Int × Nat), tot qs (xs ++ ys) = tot qs xs + tot qs ys
  | [], ys => by simp [tot]
  | x :: xs, ys => by simp [tot, tot_append qs xs ys, Int.add_assoc]
theorem tot_halves {p : Nat} {qs : List Nat} (hp : 0 < p) (h : ∀ q ∈ qs, Nat.gcd p q = 1) (xs : List (Int × Nat)) : tot qs (halves xs p) = tot (p :: qs) xs := by
  unfold halves
  rw [tot_append]
  induction xs with
  | nil => rfl
  | cons x xs ih =>
    have e := cnt_cons hp h x.2
    have e' : (cnt (p :: qs) x.2 : Int) = (cnt qs x.2 : Int) - (cnt qs (x.2 / p) : Int) := by omega
    by_cases hl : p ≤ x.2
    · rw [List.filter_cons_of_pos (by simp [hl]), List.map_cons, tot, tot, tot, e', Int.mul_sub, ← ih]
      simp only [Int.zero_sub, Int.neg_mul]
      omega
    · have e0 : cnt qs (x.2 / p) = 0 := by rw [Nat.div_eq_of_lt (by omega)]; rfl
      rw [List.filter_cons_of_neg (by simp [hl]), tot, tot, e', e0, ← ih]
      simp only [Int.natCast_zero, Int.sub_zero]
      omega
theorem tot_all : ∀ {qs : List Nat} (_ : CoP qs) (xs : List (Int × Nat)), tot [] (qs.foldl halves xs) = tot qs xs
  | [], _, xs => rfl
  | p :: qs, ⟨h1, h2, h3⟩, xs => by rw [List.foldl_cons, tot_all h3, tot_halves h1 h2]
/-- left_of, plain -/
def leftN (n : Nat) (qs : List Nat) : Int := tot [] (qs.foldl halves [(1, n)])
theorem leftN_eq {qs : List Nat} (h : CoP qs) (n : Nat) : leftN n qs = cnt qs n := by
  unfold leftN
  rw [tot_all h, tot, tot]
  show 1 * (cnt qs n : Int) + 0 = _
  omega
def FIRST : List Nat := [2, 3, 5, 7, 11, 13, 17, 19, 23, 29, 31, 37]
theorem CoP_take : ∀ {qs : List Nat} (k : Nat), CoP qs → CoP (qs.take k)
  | [], k, _ => by rw [List.take_nil]; trivial
  | q :: qs, 0, _ => trivial
  | q :: qs, k + 1, ⟨h1, h2, h3⟩ => ⟨h1, fun x hx => h2 x (List.mem_of_mem_take hx), CoP_take k h3⟩
instance CoP_dec : ∀ qs : List Nat, Decidable (CoP qs)
  | [] => .isTrue trivial
  | p :: qs => by
    unfold CoP
    have := CoP_dec qs
    infer_instance
theorem CoP_first : CoP FIRST := by decide
end NT
namespace NT
theorem first_pre (n : Nat) : primesTo (37 + n) = FIRST ++ ((List.range n).map (38 + ·)).filter isP := by
  have h0 : (List.range 38).filter isP = FIRST := by decide +kernel
  unfold primesTo
  rw [show 37 + n + 1 = 38 + n from by omega, List.range_add, List.filter_append, h0]
theorem first_at (n k : Nat) (hk : k < 12) : (primesTo (37 + n))[k]? = FIRST[k]? := by
  rw [first_pre, List.getElem?_append_left (by exact hk)]
end NT
namespace NT
theorem filter_step : ∀ {ps : List Nat} (n : Nat), ps.Nodup → (ps.filter fun p => decide (p ≤ n + 1)).length = (ps.filter fun p => decide (p ≤ n)).length + if n + 1 ∈ ps then 1 else 0
  | [], n, _ => rfl
  | p :: ps, n, h => by
    have h' := List.nodup_cons.mp h
    have ih := filter_step n h'.2
    by_cases e : p = n + 1
    · subst e
      rw [List.filter_cons_of_pos (by simp), List.filter_cons_of_neg (by simp), List.length_cons, ih, if_neg h'.1, if_pos (by simp)]
    · have e' : ¬ n + 1 = p := fun q => e q.symm
      have hm : n + 1 ∈ p :: ps ↔ n + 1 ∈ ps := by simp [e']
      by_cases l : p ≤ n
      · rw [List.filter_cons_of_pos (by simp; omega), List.filter_cons_of_pos (by simp; omega), List.length_cons, List.length_cons, ih]
        simp only [hm]
        omega
      · rw [List.filter_cons_of_neg (by simp; omega), List.filter_cons_of_neg (by simp; omega), ih]
        simp only [hm]
theorem primesTo_succ (n : Nat) : (primesTo (n + 1)).length = (primesTo n).length + if isP (n + 1) = true then 1 else 0 := by
  unfold primesTo
  rw [primes_range (n + 1), List.length_append]
  split <;> rfl
theorem cnt_primes {ps : List Nat} {q : Nat} (hn : ps.Nodup) (hp : ∀ p ∈ ps, isP p = true) (hq : ∀ p, isP p = true → p < q → p ∈ ps) : ∀ n : Nat, 1 ≤ n → n < q * q → cnt ps n + (ps.filter fun p => decide (p ≤ n)).length = 1 + (primesTo n).length
  | 0, h, _ => by omega
  | 1, _, _ => by
    have h1 : fr ps 1 = true := List.all_eq_true.mpr fun p hm => by
      have := two_le (hp p hm)
      rw [Nat.mod_eq_of_lt (by omega)]
      simp
    have h2 : ps.filter (fun p => decide (p ≤ 1)) = [] := List.filter_eq_nil_iff.mpr fun p hm => by
      have := two_le (hp p hm)
      simp
      omega
    rw [h2, cnt, cnt, if_pos h1]
    rfl
  | n + 2, _, hl => by
    have ih := cnt_primes hn hp hq (n + 1) (by omega) (by omega)
    rw [cnt, filter_step (n + 1) hn, primesTo_succ (n + 1)]
    by_cases hm : n + 2 ∈ ps
    · have hpr := hp _ hm
      have hf : ¬ fr ps (n + 2) = true := fun h => by
        have := List.all_eq_true.mp h _ hm
        simp at this
      rw [if_neg hf, if_pos hm, if_pos hpr]
      omega
    · rw [if_neg hm]
      by_cases hpr : isP (n + 2) = true
      · have hf : fr ps (n + 2) = true := List.all_eq_true.mpr fun p hm2 => by
          simp only [decide_eq_true_eq]
          intro e
          rcases isP_dvd hpr (Nat.dvd_of_mod_eq_zero e) with h | h
          · have := two_le (hp p hm2); omega
          · exact hm (h ▸ hm2)
        rw [if_pos hf, if_pos hpr]
        omega
      · obtain ⟨p, pp, pd, pl, pk⟩ := small_prime (n := n + 2) (by omega) (by simpa using hpr)
        have hpq : p < q := by
          false_or_by_contra
          have := Nat.mul_le_mul (show q ≤ p by omega) (show q ≤ p by omega)
          omega
        have hf : ¬ fr ps (n + 2) = true := fun h => by
          have := List.all_eq_true.mp h p (hq p pp hpq)
          simp [Nat.mod_eq_zero_of_dvd pd] at this
        rw [if_neg hf, if_neg hpr]
        omega
theorem first_primes (k : Nat) (hk : k < 12) : (∀ p ∈ FIRST.take k, isP p = true) ∧ (FIRST.take k).Nodup ∧ ∀ p, isP p = true → p < FIRST.getD k 0 → p ∈ FIRST.take k := by
  have h1 : ∀ p ∈ FIRST, isP p = true := by decide +kernel
  have h2 : FIRST.Nodup := by decide +kernel
  refine ⟨fun p hp => h1 p (List.mem_of_mem_take hp), h2.sublist (List.take_sublist k _), fun p pp hl => ?_⟩
  have h3 : ∀ k < 12, ∀ p < FIRST.getD k 0, isP p = true → p ∈ FIRST.take k := by decide +kernel
  exact h3 k hk p hl pp
theorem first_le (k : Nat) (hk : k < 12) : ∀ p ∈ FIRST.take (k + 1), p ≤ FIRST.getD k 0 := by
  have : ∀ k < 12, ∀ p ∈ FIRST.take (k + 1), p ≤ FIRST.getD k 0 := by decide +kernel
  exact this k hk
/-- 1 and the primes above -/
theorem left_primes {k n : Nat} (hk : k + 1 < 12) (h1 : FIRST.getD k 0 ≤ n) (h2 : n < FIRST.getD (k + 1) 0 * FIRST.getD (k + 1) 0) : cnt (FIRST.take (k + 1)) n + (k + 1) = 1 + (primesTo n).length := by
  obtain ⟨a, b, c⟩ := first_primes (k + 1) hk
  have h0 : 1 ≤ n := by
    have : ∀ k < 12, 1 ≤ FIRST.getD k 0 := by decide +kernel
    have := this k (by omega)
    omega
  have e := cnt_primes b a c n h0 h2
  have hf : (FIRST.take (k + 1)).filter (fun p => decide (p ≤ n)) = FIRST.take (k + 1) := List.filter_eq_self.mpr fun p hp => by
    have := first_le k (by omega) p hp
    simp
    omega
  rw [hf, List.length_take] at e
  have : min (k + 1) FIRST.length = k + 1 := by
    show min (k + 1) 12 = _
    omega
  omega
/-- one prime more -/
theorem cnt_more (k n : Nat) (hk : k < 12) : cnt (FIRST.take (k + 1)) n + cnt (FIRST.take k) (n / FIRST.getD k 0) = cnt (FIRST.take k) n := by
  have hc : ∀ k < 12, 0 < FIRST.getD k 0 ∧ ∀ q ∈ FIRST.take k, Nat.gcd (FIRST.getD k 0) q = 1 := by decide +kernel
  have hm : ∀ k < 12, ∀ p, p ∈ FIRST.take (k + 1) ↔ p ∈ FIRST.getD k 0 :: FIRST.take k := by
    intro k hk p
    have : FIRST.take (k + 1) = FIRST.take k ++ [FIRST.getD k 0] := by
      have : ∀ k < 12, FIRST.take (k + 1) = FIRST.take k ++ [FIRST.getD k 0] := by decide +kernel
      exact this k hk
    rw [this, List.mem_append, List.mem_singleton, List.mem_cons]
    exact Or.comm
  rw [cnt_perm (hm k hk)]
  exact cnt_cons (hc k hk).1 (hc k hk).2 n
def prodF (k : Nat) : Nat := (FIRST.take k).foldl (· * ·) 1
def freeF (k : Nat) : Nat := (FIRST.take k).foldl (fun a p => a * (p - 1)) 1
theorem rounds_first {k : Nat} (hk : k < 6) (n : Nat) : cnt (FIRST.take k) n = n / prodF k * freeF k + cnt (FIRST.take k) (n % prodF k) := by
  have h1 : ∀ k < 6, ∀ p ∈ FIRST.take k, prodF k % p = 0 := by decide +kernel
  have h2 : ∀ k < 6, cnt (FIRST.take k) (prodF k) = freeF k := by decide +kernel
  have e := cnt_rounds (ps := FIRST.take k) (P := prodF k) (fun p hp => Nat.dvd_of_mod_eq_zero (h1 k hk p hp)) (n % prodF k) (n / prodF k)
  rw [h2 k hk, Nat.div_add_mod' n (prodF k)] at e
  exact e
end NT
/-! Powers of primes, plain. -/
namespace NT
/-- how often p goes into n -/
def vl (p : Nat) : Nat → Nat
  | 0 => 0
  | n + 1 => if h : 2 ≤ p ∧ (n + 1) % p = 0 then vl p ((n + 1) / p) + 1 else 0
termination_by n => n
decreasing_by exact Nat.div_lt_self (by omega) h.1
theorem vl_go {p n : Nat} (hp : 2 ≤ p) (hn : 0 < n) (h : n % p = 0) : vl p n = vl p (n / p) + 1 := by
  cases n with
  | zero => omega
  | succ n => rw [vl, dif_pos ⟨hp, h⟩]
theorem vl_stop {p n : Nat} (h : n % p ≠ 0) : vl p n = 0 := by
  cases n with
  | zero => rw [vl]
  | succ n => rw [vl, dif_neg (fun q => h q.2)]
theorem vl_pos {p n : Nat} (hp : 2 ≤ p) (hn : 0 < n) : 0 < vl p n ↔ n % p = 0 := by
  by_cases h : n % p = 0
  · rw [vl_go hp hn h]; simp [h]
  · rw [vl_stop h]; simp [h]
/-- n without p -/
def wo (p n : Nat) : Nat := n / p ^ vl p n
theorem vl_pow_dvd {p : Nat} (hp : 2 ≤ p) : ∀ n : Nat, p ^ vl p n ∣ n := by
  intro n
  induction n using Nat.strongRecOn with
  | _ n ih =>
    by_cases hn : n = 0
    · subst hn; exact Nat.dvd_zero _
    · by_cases h : n % p = 0
      · rw [vl_go hp (by omega) h, Nat.pow_succ]
        have := ih (n / p) (Nat.div_lt_self (by omega) hp)
        have e := Nat.mul_dvd_mul this (Nat.dvd_refl p)
        rwa [Nat.div_mul_cancel (Nat.dvd_of_mod_eq_zero h)] at e
      · rw [vl_stop h]; exact Nat.one_dvd _
/-- the powers of n, by ascending primes -/
def pw (n : Nat) : List (Nat × Nat) := ((List.range (n + 1)).filter fun p => isP p && decide (n % p = 0)).map fun p => (p, vl p n)
end NT
namespace NT
theorem vl_dvd {p : Nat} (hp : 2 ≤ p) : ∀ (k n : Nat), 0 < n → (p ^ k ∣ n ↔ k ≤ vl p n)
  | 0, n, _ => by simp
  | k + 1, n, hn => by
    by_cases h : n % p = 0
    · have hd := Nat.dvd_of_mod_eq_zero h
      obtain ⟨m, rfl⟩ := hd
      have hm : 0 < m := Nat.pos_of_ne_zero fun e => by subst e; omega
      rw [vl_go hp hn h, Nat.mul_div_cancel_left m (by omega), Nat.pow_succ, Nat.mul_comm (p ^ k) p, Nat.mul_dvd_mul_iff_left (by omega), vl_dvd hp k m hm]
      omega
    · rw [vl_stop h]
      constructor
      · intro q
        exact absurd (Nat.mod_eq_zero_of_dvd (Nat.dvd_trans (by rw [Nat.pow_succ]; exact Nat.dvd_mul_left _ _) q)) h
      · intro q; omega
theorem vl_eq {p n k : Nat} (hp : 2 ≤ p) (hn : 0 < n) (h : p ^ k ∣ n) (h2 : ¬ p ^ (k + 1) ∣ n) : vl p n = k := by
  rw [vl_dvd hp k n hn] at h
  rw [vl_dvd hp (k + 1) n hn] at h2
  omega
theorem vl_congr {p n m : Nat} (hp : 2 ≤ p) (hn : 0 < n) (hm : 0 < m) (h : ∀ k, p ^ k ∣ n ↔ p ^ k ∣ m) : vl p n = vl p m := by
  have a := (vl_dvd hp (vl p n) m hm).mp ((h _).mp ((vl_dvd hp _ n hn).mpr (Nat.le_refl _)))
  have b := (vl_dvd hp (vl p m) n hn).mp ((h _).mpr ((vl_dvd hp _ m hm).mpr (Nat.le_refl _)))
  omega
theorem pow_cop {p q : Nat} (hp : isP p = true) (hq : isP q = true) (h : p ≠ q) (k : Nat) : Nat.Coprime (q ^ k) p := by
  refine Nat.Coprime.pow_left k ?_
  rw [Nat.coprime_comm]
  refine prime_cop hp fun d => ?_
  rcases isP_dvd hq d with e | e
  · have := two_le hp; omega
  · exact h e
theorem vl_div {p q n : Nat} (hp : isP p = true) (hq : isP q = true) (h : p ≠ q) (hn : 0 < n) (hd : p ∣ n) : vl q (n / p) = vl q n := by
  have p2 := two_le hp
  obtain ⟨m, rfl⟩ := hd
  have hm : 0 < m := Nat.pos_of_ne_zero fun e => by subst e; omega
  rw [Nat.mul_div_cancel_left m (by omega)]
  refine vl_congr (two_le hq) hm hn fun k => ⟨fun d => Nat.dvd_trans d (Nat.dvd_mul_left _ _), fun d => (pow_cop hp hq h k).dvd_of_dvd_mul_left d⟩
end NT
namespace NT
theorem filter_tail {P : Nat → Bool} {a l : Nat} {c : Bool} : ∀ {k : Nat}, (∀ q, a ≤ q → q < a + k → (P q = true ↔ c = true ∧ q = l)) → (c = true → a ≤ l ∧ l < a + k) → (List.range (a + k)).filter P = (List.range a).filter P ++ if c = true then [l] else []
  | 0, _, h2 => by
    cases c with
    | false => simp
    | true => have := h2 rfl; omega
  | k + 1, h, h2 => by
    rw [← Nat.add_assoc, List.range_succ, List.filter_append]
    by_cases hc : c = true ∧ l = a + k
    · obtain ⟨hc, rfl⟩ := hc
      have hp : P (a + k) = true := (h (a + k) (by omega) (by omega)).mpr ⟨hc, rfl⟩
      have h' := filter_tail (P := P) (a := a) (l := a + k) (c := false) (k := k) (fun q h3 h4 => by
        have := h q h3 (by omega)
        constructor
        · intro e; have := (this.mp e).2; omega
        · intro e; exact absurd e.1 (by simp)) (by simp)
      rw [h', if_pos hc]
      simp [hp]
    · have hp : ¬ P (a + k) = true := fun e => hc ⟨((h (a + k) (by omega) (by omega)).mp e).1, (((h (a + k) (by omega) (by omega)).mp e).2).symm⟩
      have h' := filter_tail (P := P) (a := a) (l := l) (c := c) (k := k) (fun q h3 h4 => h q h3 (by omega)) (fun e => by
        have h3 := h2 e
        have : l ≠ a + k := fun e2 => hc ⟨e, e2⟩
        omega)
      rw [h']
      simp [hp]
def pq (n p : Nat) : Bool := isP p && decide (n % p = 0)
def pwTo (n p : Nat) : List (Nat × Nat) := ((List.range p).filter (pq n)).map fun q => (q, vl q n)
theorem pw_eq (n : Nat) : pw n = pwTo n (n + 1) := rfl
/-- trial division so far -/
structure Td (n l p : Nat) : Prop where
  pos : 0 < l
  le : l ≤ n
  odd : p = 2 ∨ p % 2 = 1 ∧ 3 ≤ p
  small : ∀ q, isP q = true → q < p → ¬ q ∣ l
  great : ∀ q, isP q = true → p ≤ q → vl q l = vl q n
theorem Td.start {n : Nat} (h : 0 < n) : Td n n 2 := ⟨h, Nat.le_refl _, .inl rfl, fun q hq hl => by have := two_le hq; omega, fun _ _ _ => rfl⟩
/-- the end -/
theorem Td.stop {n l p : Nat} (t : Td n l p) (h : l < p * p) : pw n = pwTo n p ++ if 1 < l then [(l, 1)] else [] := by
  have hp2 : 2 ≤ p := by rcases t.odd with h | h <;> omega
  have hn : 0 < n := Nat.lt_of_lt_of_le t.pos t.le
  have hl : 1 < l → isP l = true ∧ p ≤ l := fun h1 => by
    have hpr : isP l = true := by
      cases e : isP l with
      | true => rfl
      | false =>
        obtain ⟨q, pq, qd, ql, _⟩ := small_prime h1 e
        have : q < p := by
          false_or_by_contra
          have := Nat.mul_le_mul (show p ≤ q by omega) (show p ≤ q by omega)
          omega
        exact absurd qd (t.small q pq this)
    refine ⟨hpr, ?_⟩
    false_or_by_contra
    exact t.small l hpr (by omega) (Nat.dvd_refl l)
  have key : ∀ q, p ≤ q → (pq n q = true ↔ decide (1 < l) = true ∧ q = l) := fun q hq => by
    unfold pq
    rw [Bool.and_eq_true, decide_eq_true_eq, decide_eq_true_eq]
    constructor
    · rintro ⟨h1, h2⟩
      have h3 := (vl_pos (two_le h1) hn).mpr h2
      rw [← t.great q h1 hq, vl_pos (two_le h1) t.pos] at h3
      have hd := Nat.dvd_of_mod_eq_zero h3
      have hle := Nat.le_of_dvd t.pos hd
      have h1l : 1 < l := by have := two_le h1; omega
      rcases isP_dvd (hl h1l).1 hd with e | e
      · have := two_le h1; omega
      · exact ⟨h1l, e⟩
    · rintro ⟨h1, rfl⟩
      refine ⟨(hl h1).1, ?_⟩
      have h3 := (vl_pos (two_le (hl h1).1) t.pos).mpr (Nat.mod_self q)
      rw [t.great q (hl h1).1 hq] at h3
      exact (vl_pos (two_le (hl h1).1) hn).mp h3
  have hv : 1 < l → vl l n = 1 := fun h1 => by
    rw [← t.great l (hl h1).1 (hl h1).2]
    refine vl_eq (by omega) t.pos (by rw [Nat.pow_one]; exact Nat.dvd_refl l) fun d => ?_
    have := Nat.le_of_dvd t.pos d
    have h4 : l ^ (1 + 1) = l * l := by rw [Nat.pow_succ, Nat.pow_one]
    have := Nat.mul_le_mul h1 (Nat.le_refl l)
    omega
  rw [pw_eq]
  unfold pwTo
  by_cases hpn : p ≤ n + 1
  · obtain ⟨k, hk⟩ : ∃ k, n + 1 = p + k := ⟨n + 1 - p, by omega⟩
    rw [hk, filter_tail (P := pq n) (a := p) (l := l) (c := decide (1 < l)) (k := k) (fun q h1 _ => key q h1) (fun e => by
      have := hl (by simpa using e)
      have := t.le
      omega), List.map_append]
    by_cases h1 : 1 < l
    · simp [h1, hv h1]
    · simp [h1]
  · obtain ⟨k, hk⟩ : ∃ k, p = n + 1 + k := ⟨p - (n + 1), by omega⟩
    have h1 : ¬ 1 < l := fun e => by
      have := hl e
      have := t.le
      omega
    rw [if_neg h1, hk, filter_tail (P := pq n) (a := n + 1) (l := 0) (c := false) (k := k) (fun q h1 _ => ⟨fun e => by
      unfold pq at e
      rw [Bool.and_eq_true, decide_eq_true_eq] at e
      have := Nat.le_of_dvd hn (Nat.dvd_of_mod_eq_zero e.2)
      omega, fun e => by simp at e⟩) (by simp)]
    simp
end NT
namespace NT
theorem vl_div_pow {p q : Nat} (hp : isP p = true) (hq : isP q = true) (h : p ≠ q) : ∀ (k n : Nat), 0 < n → p ^ k ∣ n → vl q (n / p ^ k) = vl q n
  | 0, n, _, _ => by simp
  | k + 1, n, hn, hd => by
    have p2 := two_le hp
    have hd1 : p ∣ n := Nat.dvd_trans (by rw [Nat.pow_succ]; exact Nat.dvd_mul_left _ _) hd
    obtain ⟨m, rfl⟩ := hd1
    have hm : 0 < m := Nat.pos_of_ne_zero fun e => by subst e; omega
    rw [Nat.pow_succ, Nat.mul_comm (p ^ k) p] at hd ⊢
    have hd2 := (Nat.mul_dvd_mul_iff_left (by omega : 0 < p)).mp hd
    have e := vl_div hp hq h hn (Nat.dvd_mul_right p m)
    rw [Nat.mul_div_cancel_left m (by omega)] at e
    rw [Nat.mul_div_mul_left _ _ (by omega), vl_div_pow hp hq h k m hm hd2, e]
theorem wo_not {p n : Nat} (hp : 2 ≤ p) (hn : 0 < n) : ¬ p ∣ wo p n := by
  intro h
  unfold wo at h
  have hd := vl_pow_dvd hp n
  have : p ^ (vl p n + 1) ∣ n := by
    have e := Nat.mul_dvd_mul_left (p ^ vl p n) h
    rwa [Nat.mul_div_cancel' hd, ← Nat.pow_succ] at e
  rw [vl_dvd hp _ n hn] at this
  omega
theorem wo_pos {p n : Nat} (hp : 2 ≤ p) (hn : 0 < n) : 0 < wo p n := Nat.div_pos (Nat.le_of_dvd hn (vl_pow_dvd hp n)) (Nat.pow_pos (by omega))
theorem wo_dvd {p n : Nat} (hp : 2 ≤ p) : wo p n ∣ n := Nat.div_dvd_of_dvd (vl_pow_dvd hp n)
theorem pwTo_succ (n p : Nat) : pwTo n (p + 1) = pwTo n p ++ if pq n p = true then [(p, vl p n)] else [] := by
  unfold pwTo
  rw [List.range_succ, List.filter_append, List.map_append]
  by_cases h : pq n p = true
  · simp [h]
  · simp [h]
def nxt (p : Nat) : Nat := if p = 2 then 3 else p + 2
theorem Td.next {n l p : Nat} (t : Td n l p) : Td n (wo p l) (nxt p) ∧ pwTo n (nxt p) = pwTo n p ++ if 0 < vl p l then [(p, vl p l)] else [] := by
  have hp2 : 2 ≤ p := by rcases t.odd with h | h <;> omega
  have hn : 0 < n := Nat.lt_of_lt_of_le t.pos t.le
  have hle : wo p l ≤ n := Nat.le_trans (Nat.le_of_dvd t.pos (wo_dvd hp2)) t.le
  have hodd : nxt p = 2 ∨ nxt p % 2 = 1 ∧ 3 ≤ nxt p := by
    unfold nxt
    rcases t.odd with h | h
    · rw [if_pos h]; exact .inr ⟨rfl, Nat.le_refl _⟩
    · rw [if_neg (by omega)]; exact .inr ⟨by omega, by omega⟩
  have hev : ∀ q, isP q = true → p < q → q < nxt p → False := fun q hq h1 h2 => by
    unfold nxt at h2
    rcases t.odd with h | h
    · rw [if_pos h] at h2; omega
    · rw [if_neg (by omega)] at h2
      have e : q = p + 1 := by omega
      have h3 := (isP_iff.mp hq).2 2 (by omega) (by omega)
      omega
  have hpl : isP p = false → ¬ p ∣ l := fun e d => by
    obtain ⟨q, hq, qd, _, ql⟩ := small_prime hp2 e
    exact t.small q hq ql (Nat.dvd_trans qd d)
  have hv0 : isP p = false → vl p l = 0 := fun e => vl_stop fun h => hpl e (Nat.dvd_of_mod_eq_zero h)
  refine ⟨⟨wo_pos hp2 t.pos, hle, hodd, fun q hq hl d => ?_, fun q hq hl => ?_⟩, ?_⟩
  · by_cases h1 : q < p
    · exact t.small q hq h1 (Nat.dvd_trans d (wo_dvd hp2))
    · by_cases h2 : q = p
      · subst h2; exact wo_not hp2 t.pos d
      · exact hev q hq (by omega) hl
  · have hpq : p < q := by
      unfold nxt at hl
      split at hl <;> omega
    rw [← t.great q hq (by omega)]
    cases hpp : isP p with
    | true => exact vl_div_pow hpp hq (by omega) _ l t.pos (vl_pow_dvd hp2 l)
    | false => unfold wo; rw [hv0 hpp, Nat.pow_zero, Nat.div_one]
  · have h1 : pwTo n (nxt p) = pwTo n (p + 1) := by
      unfold nxt
      rcases t.odd with h | h
      · rw [if_pos h, h]
      · rw [if_neg (by omega), show p + 2 = p + 1 + 1 from rfl, pwTo_succ n (p + 1), if_neg, List.append_nil]
        intro e
        unfold pq at e
        rw [Bool.and_eq_true] at e
        have h3 := (isP_iff.mp e.1).2 2 (by omega) (by omega)
        omega
    rw [h1, pwTo_succ]
    congr 1
    cases hpp : isP p with
    | true =>
      have e := t.great p hpp (Nat.le_refl p)
      have h3 := vl_pos hp2 hn
      rw [← e] at h3
      unfold pq
      rw [hpp, ← e]
      by_cases h4 : n % p = 0
      · rw [if_pos (by simp [h4]), if_pos (h3.mpr h4)]
      · rw [if_neg (by simp [h4]), if_neg fun q => h4 (h3.mp q)]
    | false =>
      unfold pq
      rw [hpp, hv0 hpp]
      rfl
end NT
/-! Products of powers; divisors by powers. -/
namespace NT
def prodP : List (Nat × Nat) → Nat
  | [] => 1
  | x :: xs => x.1 ^ x.2 * prodP xs
theorem prodP_append : ∀ xs ys : List (Nat × Nat), prodP (xs ++ ys) = prodP xs * prodP ys
  | [], ys => by simp [prodP]
  | x :: xs, ys => by simp [prodP, prodP_append xs ys, Nat.mul_assoc]
theorem pwTo_two (n : Nat) : pwTo n 2 = [] := by
  unfold pwTo pq
  rw [show List.range 2 = [0, 1] from rfl]
  simp [show isP 0 = false from rfl, show isP 1 = false from rfl]
theorem wo_mul {p n : Nat} (hp : 2 ≤ p) : wo p n * p ^ vl p n = n := Nat.div_mul_cancel (vl_pow_dvd hp n)
theorem prod_go {n : Nat} : ∀ (k l p : Nat), n + 3 ≤ p + k → Td n l p → l * prodP (pwTo n p) = n → prodP (pw n) = n
  | 0, l, p, hk, t, e => by
    have h : l < p * p := by
      have := t.le
      have := Nat.mul_le_mul (show 1 ≤ p by omega) (Nat.le_refl p)
      omega
    rw [t.stop h, prodP_append]
    refine Eq.trans ?_ e
    by_cases h1 : 1 < l
    · simp [h1, prodP, Nat.mul_comm]
    · have : l = 1 := by have := t.pos; omega
      simp [this, prodP]
  | k + 1, l, p, hk, t, e => by
    have hp2 : 2 ≤ p := by rcases t.odd with h | h <;> omega
    by_cases h : l < p * p
    · rw [t.stop h, prodP_append]
      refine Eq.trans ?_ e
      by_cases h1 : 1 < l
      · simp [h1, prodP, Nat.mul_comm]
      · have : l = 1 := by have := t.pos; omega
        simp [this, prodP]
    · obtain ⟨t', e'⟩ := t.next
      refine prod_go k (wo p l) (nxt p) (by unfold nxt; split <;> omega) t' ?_
      rw [e', prodP_append]
      have hm := wo_mul (p := p) (n := l) hp2
      have h2 : prodP (if 0 < vl p l then [(p, vl p l)] else []) = p ^ vl p l := by
        by_cases h3 : 0 < vl p l
        · simp [h3, prodP]
        · have : vl p l = 0 := by omega
          simp [this, prodP]
      rw [h2, Nat.mul_comm (prodP _), ← Nat.mul_assoc, hm, e]
theorem prod_pw {n : Nat} (h : 0 < n) : prodP (pw n) = n := prod_go (n + 3) n 2 (by omega) (Td.start h) (by rw [pwTo_two]; simp [prodP])
end NT
/-! Sums, and sums over divisors, plain. -/
namespace NT
def sm (f : Nat → Int) : Nat → Int
  | 0 => 0
  | n + 1 => sm f n + f n
theorem sm_congr {f g : Nat → Int} : ∀ {n : Nat}, (∀ i, i < n → f i = g i) → sm f n = sm g n
  | 0, _ => rfl
  | n + 1, h => by rw [sm, sm, sm_congr fun i hi => h i (by omega), h n (by omega)]
theorem sm_none {f : Nat → Int} : ∀ {n : Nat}, (∀ i, i < n → f i = 0) → sm f n = 0
  | 0, _ => rfl
  | n + 1, h => by rw [sm, sm_none fun i hi => h i (by omega), h n (by omega)]; rfl
theorem sm_add (f g : Nat → Int) : ∀ n : Nat, sm (fun i => f i + g i) n = sm f n + sm g n
  | 0 => rfl
  | n + 1 => by rw [sm, sm, sm, sm_add f g n]; omega
theorem sm_sub (f g : Nat → Int) : ∀ n : Nat, sm (fun i => f i - g i) n = sm f n - sm g n
  | 0 => rfl
  | n + 1 => by rw [sm, sm, sm, sm_sub f g n]; omega
theorem sm_mul (c : Int) (f : Nat → Int) : ∀ n : Nat, sm (fun i => c * f i) n = c * sm f n
  | 0 => by simp [sm]
  | n + 1 => by rw [sm, sm, sm_mul c f n, Int.mul_add]
theorem sm_mulr (c : Int) (f : Nat → Int) : ∀ n : Nat, sm (fun i => f i * c) n = sm f n * c
  | 0 => by simp [sm]
  | n + 1 => by rw [sm, sm, sm_mulr c f n, Int.add_mul]
theorem sm_swap (f : Nat → Nat → Int) (m : Nat) : ∀ n : Nat, sm (fun i => sm (f i) m) n = sm (fun j => sm (fun i => f i j) n) m
  | 0 => by rw [sm]; exact (sm_none fun _ _ => rfl).symm
  | n + 1 => by rw [sm, sm_swap f m n, ← sm_add]; rfl
theorem sm_single {f : Nat → Int} {k : Nat} : ∀ {n : Nat}, k < n → (∀ i, i < n → i ≠ k → f i = 0) → sm f n = f k
  | 0, h, _ => by omega
  | n + 1, h, h2 => by
    rw [sm]
    by_cases e : k = n
    · subst e
      rw [sm_none fun i hi => h2 i (by omega) (by omega), Int.zero_add]
    · rw [sm_single (k := k) (n := n) (by omega) fun i hi he => h2 i (by omega) he, h2 n (by omega) (by omega), Int.add_zero]
theorem sm_ext {f : Nat → Int} {a : Nat} : ∀ {k : Nat}, (∀ i, a ≤ i → i < a + k → f i = 0) → sm f (a + k) = sm f a
  | 0, _ => rfl
  | k + 1, h => by rw [← Nat.add_assoc, sm, sm_ext fun i h1 h2 => h i h1 (by omega), h (a + k) (by omega) (by omega), Int.add_zero]
theorem sm_ext' {f : Nat → Int} {a b : Nat} (hab : a ≤ b) (h : ∀ i, a ≤ i → i < b → f i = 0) : sm f b = sm f a := by
  obtain ⟨k, rfl⟩ : ∃ k, b = a + k := ⟨b - a, by omega⟩
  exact sm_ext h
theorem sm_list (f : Nat → Int) : ∀ n : Nat, ((List.range n).map f).sum = sm f n
  | 0 => rfl
  | n + 1 => by rw [List.range_succ, List.map_append, List.sum_append, sm_list f n, sm]; simp
theorem sm_abs {f : Nat → Int} {B : Nat} : ∀ {n : Nat}, (∀ i, i < n → (f i).natAbs ≤ B) → (sm f n).natAbs ≤ n * B
  | 0, _ => by simp [sm]
  | n + 1, h => by
    have h1 := sm_abs (f := f) (B := B) (n := n) fun i hi => h i (by omega)
    have h2 := h n (by omega)
    rw [sm, Nat.succ_mul]
    omega
/-- put together over divisors -/
def dir (f g : Nat → Int) (n : Nat) : Int := sm (fun i => if n % (i + 1) = 0 then f (i + 1) * g (n / (i + 1)) else 0) n
theorem dir_to {f g : Nat → Int} {n N : Nat} (h0 : 0 < n) (h : n ≤ N) : sm (fun i => if n % (i + 1) = 0 then f (i + 1) * g (n / (i + 1)) else 0) N = dir f g n := by
  unfold dir
  refine sm_ext' h fun i h1 h2 => ?_
  rw [if_neg]
  rw [Nat.mod_eq_of_lt (by omega)]; omega
theorem dir_dd {f g : Nat → Int} {n N : Nat} (h0 : 0 < n) (h : n ≤ N) : dir f g n = sm (fun i => sm (fun j => if (i + 1) * (j + 1) = n then f (i + 1) * g (j + 1) else 0) N) N := by
  rw [← dir_to h0 h]
  refine sm_congr fun i hi => ?_
  by_cases d : n % (i + 1) = 0
  · rw [if_pos d]
    obtain ⟨c, hc⟩ := Nat.dvd_of_mod_eq_zero d
    have c0 : 0 < c := Nat.pos_of_ne_zero fun e => by subst e; omega
    have hcn : c ≤ n := by rw [hc]; exact Nat.le_mul_of_pos_left c (by omega)
    have e1 : n / (i + 1) = c := by rw [hc, Nat.mul_div_cancel_left c (by omega)]
    rw [sm_single (k := c - 1) (by omega), e1, if_pos (by rw [show c - 1 + 1 = c by omega, hc]), show c - 1 + 1 = c by omega]
    intro j _ hj
    rw [if_neg]
    intro e
    have : (i + 1) * (j + 1) = (i + 1) * c := by rw [e, hc]
    have := Nat.eq_of_mul_eq_mul_left (by omega) this
    omega
  · rw [if_neg d]
    refine (sm_none fun j _ => ?_).symm
    rw [if_neg]
    intro e
    exact d (by rw [← e]; exact Nat.mul_mod_right _ _)
theorem dir_comm (f g : Nat → Int) {n : Nat} (h0 : 0 < n) : dir f g n = dir g f n := by
  rw [dir_dd h0 (Nat.le_refl n), dir_dd h0 (Nat.le_refl n), sm_swap]
  refine sm_congr fun i _ => sm_congr fun j _ => ?_
  rw [Nat.mul_comm (i + 1) (j + 1), Int.mul_comm]
theorem dir_congr {f g f' g' : Nat → Int} {n : Nat} (h0 : 0 < n) (hf : ∀ i, 0 < i → i ≤ n → f i = f' i) (hg : ∀ i, 0 < i → i ≤ n → g i = g' i) : dir f g n = dir f' g' n := by
  unfold dir
  refine sm_congr fun i hi => ?_
  by_cases d : n % (i + 1) = 0
  · rw [if_pos d, if_pos d, hf (i + 1) (by omega) (by omega), hg (n / (i + 1)) (Nat.div_pos (by omega) (by omega)) (Nat.div_le_self _ _)]
  · rw [if_neg d, if_neg d]
/-- three together -/
def tri (f g h : Nat → Int) (N n : Nat) : Int := sm (fun a => sm (fun b => sm (fun c => if (a + 1) * (b + 1) * (c + 1) = n then f (a + 1) * g (b + 1) * h (c + 1) else 0) N) N) N
theorem dir_tri (f g h : Nat → Int) {n N : Nat} (h0 : 0 < n) (hN : n ≤ N) : dir (dir f g) h n = tri f g h N n := by
  rw [dir_dd h0 hN]
  have e1 : ∀ d, d < N → sm (fun c => if (d + 1) * (c + 1) = n then dir f g (d + 1) * h (c + 1) else 0) N = sm (fun a => sm (fun b => sm (fun c => if (d + 1) * (c + 1) = n ∧ (a + 1) * (b + 1) = d + 1 then f (a + 1) * g (b + 1) * h (c + 1) else 0) N) N) N := fun d hd => by
    have : ∀ a, a < N → sm (fun b => sm (fun c => if (d + 1) * (c + 1) = n ∧ (a + 1) * (b + 1) = d + 1 then f (a + 1) * g (b + 1) * h (c + 1) else 0) N) N = sm (fun c => sm (fun b => if (d + 1) * (c + 1) = n ∧ (a + 1) * (b + 1) = d + 1 then f (a + 1) * g (b + 1) * h (c + 1) else 0) N) N := fun a _ => sm_swap _ _ _
    rw [sm_congr this, sm_swap]
    refine sm_congr fun c _ => ?_
    by_cases e : (d + 1) * (c + 1) = n
    · rw [if_pos e, dir_dd (by omega) (show d + 1 ≤ N by omega), ← sm_mulr]
      refine sm_congr fun a _ => ?_
      rw [← sm_mulr]
      refine sm_congr fun b _ => ?_
      by_cases e2 : (a + 1) * (b + 1) = d + 1
      · rw [if_pos e2, if_pos ⟨e, e2⟩]
      · rw [if_neg e2, if_neg (fun q => e2 q.2), Int.zero_mul]
    · rw [if_neg e]
      refine (sm_none fun a _ => sm_none fun b _ => if_neg fun q => e q.1).symm
  rw [sm_congr e1]
  unfold tri
  rw [sm_swap]
  refine sm_congr fun a _ => ?_
  rw [sm_swap]
  refine sm_congr fun b _ => ?_
  rw [sm_swap]
  refine sm_congr fun c _ => ?_
  by_cases e : (a + 1) * (b + 1) * (c + 1) = n
  · have hle : (a + 1) * (b + 1) ≤ n := by rw [← e]; exact Nat.le_mul_of_pos_right _ (by omega)
    have hpos : 0 < (a + 1) * (b + 1) := Nat.mul_pos (by omega) (by omega)
    have e3 : (a + 1) * (b + 1) - 1 + 1 = (a + 1) * (b + 1) := by omega
    rw [if_pos e, sm_single (k := (a + 1) * (b + 1) - 1) (by omega), if_pos (by rw [e3]; exact ⟨e, rfl⟩)]
    intro d _ hd
    rw [if_neg]
    rintro ⟨_, q⟩
    omega
  · rw [if_neg e]
    refine sm_none fun d _ => if_neg ?_
    rintro ⟨q1, q2⟩
    rw [q2] at e
    exact e q1
theorem tri_rot (f g h : Nat → Int) (N n : Nat) : tri f g h N n = tri g h f N n := by
  unfold tri
  rw [sm_swap]
  refine sm_congr fun b _ => ?_
  rw [sm_swap]
  refine sm_congr fun c _ => sm_congr fun a _ => ?_
  have e1 : (a + 1) * (b + 1) * (c + 1) = (b + 1) * (c + 1) * (a + 1) := by rw [Nat.mul_assoc, Nat.mul_comm]
  have e2 : f (a + 1) * g (b + 1) * h (c + 1) = g (b + 1) * h (c + 1) * f (a + 1) := by rw [Int.mul_assoc, Int.mul_comm]
  rw [e1, e2]
theorem dir_assoc (f g h : Nat → Int) {n : Nat} (h0 : 0 < n) : dir (dir f g) h n = dir f (dir g h) n := by
  rw [dir_tri f g h h0 (Nat.le_refl n), tri_rot, ← dir_tri g h f h0 (Nat.le_refl n), dir_comm _ _ h0]
/-- the one -/
def one1 (n : Nat) : Int := if n = 1 then 1 else 0
def ones (_ : Nat) : Int := 1
theorem dir_one (f : Nat → Int) {n : Nat} (h0 : 0 < n) : dir f one1 n = f n := by
  unfold dir
  rw [sm_single (k := n - 1) (by omega)]
  · rw [show n - 1 + 1 = n by omega, if_pos (Nat.mod_self n), Nat.div_self h0]
    simp [one1]
  · intro i h1 h2
    by_cases d : n % (i + 1) = 0
    · rw [if_pos d]
      obtain ⟨c, hc⟩ := Nat.dvd_of_mod_eq_zero d
      have : n / (i + 1) ≠ 1 := by
        rw [hc, Nat.mul_div_cancel_left c (by omega)]
        intro e
        subst e
        omega
      simp [one1, this]
    · rw [if_neg d]
theorem one_dir (f : Nat → Int) {n : Nat} (h0 : 0 < n) : dir one1 f n = f n := by rw [dir_comm _ _ h0, dir_one f h0]
/-- worths times how many multiples -/
theorem sm_multiples (f : Nat → Int) (M : Nat) : ∀ m : Nat, sm (fun i => f (i + 1) * ((m / (i + 1) : Nat) : Int)) M = sm (fun j => sm (fun i => if (j + 1) % (i + 1) = 0 then f (i + 1) else 0) M) m
  | 0 => by
    rw [sm]
    exact sm_none fun i _ => by rw [Nat.zero_div]; simp
  | m + 1 => by
    rw [sm, ← sm_multiples f M m, ← sm_add]
    refine sm_congr fun i _ => ?_
    by_cases d : (m + 1) % (i + 1) = 0
    · rw [if_pos d, Nat.succ_div, if_pos (Nat.dvd_of_mod_eq_zero d)]
      rw [Int.natCast_add, Int.mul_add]
      simp
    · rw [if_neg d, Nat.succ_div, if_neg (fun q => d (Nat.mod_eq_zero_of_dvd q))]
      simp
end NT
/-! Signs. -/
namespace NT
theorem vl_mul_out {p n : Nat} (hp : 2 ≤ p) (hn : 0 < n) : vl p (p * n) = vl p n + 1 := by
  rw [vl_go hp (Nat.mul_pos (by omega) hn) (Nat.mul_mod_right _ _), Nat.mul_div_cancel_left n (by omega)]
theorem vl_mul_other {p q n : Nat} (hp : isP p = true) (hq : isP q = true) (h : p ≠ q) (hn : 0 < n) : vl q (p * n) = vl q n := by
  have p2 := two_le hp
  have e := vl_div hp hq h (Nat.mul_pos (by omega) hn) (Nat.dvd_mul_right p n)
  rw [Nat.mul_div_cancel_left n (by omega)] at e
  exact e.symm
/-- how many primes -/
def pcI (n : Nat) : Int := sm (fun q => if pq n q = true then 1 else 0) (n + 1)
theorem len_sm (P : Nat → Bool) : ∀ n : Nat, (((List.range n).filter P).length : Int) = sm (fun q => if P q = true then 1 else 0) n
  | 0 => rfl
  | n + 1 => by
    rw [List.range_succ, List.filter_append, List.length_append, sm, ← len_sm P n]
    by_cases h : P n = true
    · simp [h]
    · simp [h]
theorem pw_len (n : Nat) : ((pw n).length : Int) = pcI n := by
  unfold pw pcI
  rw [List.length_map]
  exact len_sm (pq n) (n + 1)
theorem pq_mul {p n q : Nat} (hp : isP p = true) (hn : 0 < n) : pq (p * n) q = (decide (q = p) || pq n q) := by
  rw [Bool.eq_iff_iff]
  unfold pq
  simp only [Bool.and_eq_true, decide_eq_true_eq, Bool.or_eq_true]
  constructor
  · rintro ⟨h1, h2⟩
    rcases prime_mul h1 (Nat.dvd_of_mod_eq_zero h2) with d | d
    · left
      rcases isP_dvd hp d with e | e
      · have := two_le h1; omega
      · exact e
    · exact .inr ⟨h1, Nat.mod_eq_zero_of_dvd d⟩
  · rintro (e | ⟨h1, h2⟩)
    · subst e; exact ⟨hp, Nat.mul_mod_right _ _⟩
    · exact ⟨h1, Nat.mod_eq_zero_of_dvd (Nat.dvd_trans (Nat.dvd_of_mod_eq_zero h2) (Nat.dvd_mul_left _ _))⟩
theorem pcI_mul {p n : Nat} (hp : isP p = true) (hn : 0 < n) (h : ¬ p ∣ n) : pcI (p * n) = pcI n + 1 := by
  have p2 := two_le hp
  unfold pcI
  have e : ∀ q, q < p * n + 1 → (if pq (p * n) q = true then (1 : Int) else 0) = (if pq n q = true then 1 else 0) + (if q = p then 1 else 0) := fun q _ => by
    rw [pq_mul hp hn]
    by_cases e1 : q = p
    · subst e1
      have : pq n q = false := by
        unfold pq
        rw [Bool.and_eq_false_iff]
        exact .inr (by simp; intro e; exact h (Nat.dvd_of_mod_eq_zero e))
      simp [this]
    · simp [e1]
  have hle : n ≤ p * n := Nat.le_mul_of_pos_left n (by omega)
  have hpn : p ≤ p * n := Nat.le_mul_of_pos_right p hn
  rw [sm_congr e, sm_add, sm_single (f := fun q => if q = p then (1 : Int) else 0) (k := p) (by omega) (fun i _ hi => if_neg hi), if_pos rfl]
  congr 1
  refine sm_ext' (by omega) fun i h1 h2 => if_neg fun e => ?_
  unfold pq at e
  rw [Bool.and_eq_true, decide_eq_true_eq] at e
  have := Nat.le_of_dvd hn (Nat.dvd_of_mod_eq_zero e.2)
  omega
/-- a square of a prime goes into n -/
def sq (n : Nat) : Bool := (pw n).any fun x => decide (1 < x.2)
theorem sq_iff {n : Nat} (hn : 0 < n) : sq n = true ↔ ∃ q, isP q = true ∧ q * q ∣ n := by
  unfold sq pw
  rw [List.any_eq_true]
  constructor
  · rintro ⟨x, hx, h⟩
    rw [List.mem_map] at hx
    obtain ⟨q, hq, rfl⟩ := hx
    rw [List.mem_filter, Bool.and_eq_true] at hq
    have h2 := two_le hq.2.1
    refine ⟨q, hq.2.1, ?_⟩
    have := (vl_dvd h2 2 n hn).mpr (of_decide_eq_true h)
    rwa [Nat.pow_succ, Nat.pow_one] at this
  · rintro ⟨q, hq, d⟩
    have h2 := two_le hq
    have hd : q ∣ n := Nat.dvd_trans (Nat.dvd_mul_right q q) d
    refine ⟨(q, vl q n), ?_, ?_⟩
    · rw [List.mem_map]
      refine ⟨q, ?_, rfl⟩
      rw [List.mem_filter, List.mem_range, Bool.and_eq_true, decide_eq_true_eq]
      exact ⟨by have := Nat.le_of_dvd hn hd; omega, hq, Nat.mod_eq_zero_of_dvd hd⟩
    · have := (vl_dvd h2 2 n hn).mp (by rwa [Nat.pow_succ, Nat.pow_one])
      exact decide_eq_true this
def mu (n : Nat) : Int := if sq n = true then 0 else if (pw n).length % 2 = 0 then 1 else -1
theorem mu_abs (n : Nat) : (mu n).natAbs ≤ 1 := by
  unfold mu
  split
  · decide
  · split <;> decide
theorem pw_one : pw 1 = [] := by
  unfold pw
  rw [show List.range (1 + 1) = [0, 1] from rfl]
  simp [show isP 0 = false from rfl, show isP 1 = false from rfl]
theorem mu_one : mu 1 = 1 := by
  unfold mu sq
  rw [pw_one]
  rfl
theorem mu_sq {p n : Nat} (hp : isP p = true) (hn : 0 < n) (h : p ∣ n) : mu (p * n) = 0 := by
  have p2 := two_le hp
  unfold mu
  rw [if_pos]
  rw [sq_iff (Nat.mul_pos (by omega) hn)]
  exact ⟨p, hp, Nat.mul_dvd_mul_left p h⟩
theorem mu_mul {p n : Nat} (hp : isP p = true) (hn : 0 < n) (h : ¬ p ∣ n) : mu (p * n) = - mu n := by
  have p2 := two_le hp
  have e : sq (p * n) = sq n := by
    rw [Bool.eq_iff_iff, sq_iff (Nat.mul_pos (by omega) hn), sq_iff hn]
    constructor
    · rintro ⟨q, hq, d⟩
      refine ⟨q, hq, ?_⟩
      by_cases e : p = q
      · subst e
        exact absurd ((Nat.mul_dvd_mul_iff_left (by omega)).mp d) h
      · have := pow_cop hp hq e 2
        rw [Nat.pow_succ, Nat.pow_one] at this
        exact this.dvd_of_dvd_mul_left d
    · rintro ⟨q, hq, d⟩
      exact ⟨q, hq, Nat.dvd_trans d (Nat.dvd_mul_left _ _)⟩
  have l := pcI_mul hp hn h
  rw [← pw_len, ← pw_len] at l
  unfold mu
  rw [e]
  split
  · rfl
  · by_cases e2 : (pw n).length % 2 = 0
    · rw [if_neg (by omega), if_pos e2]
    · rw [if_pos (by omega), if_neg e2]; rfl
/-- only multiples -/
theorem sm_mult (F : Nat → Int) {p : Nat} (hp : 0 < p) : ∀ m : Nat, sm (fun i => if (i + 1) % p = 0 then F (i + 1) else 0) (p * m) = sm (fun j => F (p * (j + 1))) m
  | 0 => rfl
  | m + 1 => by
    rw [sm, ← sm_mult F hp m, Nat.mul_succ]
    have key : ∀ k, k < p → sm (fun i => if (i + 1) % p = 0 then F (i + 1) else 0) (p * m + k) = sm (fun i => if (i + 1) % p = 0 then F (i + 1) else 0) (p * m) := fun k hk => by
      refine sm_ext fun i h1 h2 => if_neg ?_
      obtain ⟨c, rfl⟩ : ∃ c, i = p * m + c := ⟨i - p * m, by omega⟩
      rw [Nat.add_assoc, Nat.mul_add_mod, Nat.mod_eq_of_lt (by omega)]
      omega
    obtain ⟨k, rfl⟩ : ∃ k, p = k + 1 := ⟨p - 1, by omega⟩
    have e2 : (k + 1) * m + k + 1 = (k + 1) * (m + 1) := by rw [Nat.mul_succ]; omega
    have e3 : ((k + 1) * m + k + 1) % (k + 1) = 0 := by rw [e2]; exact Nat.mul_mod_right _ _
    rw [← Nat.add_assoc, sm, key k (by omega), if_pos e3, e2]
/-- the signs of all divisors -/
theorem mu_sum {n : Nat} (hn : 0 < n) : dir mu ones n = one1 n := by
  by_cases h1 : n = 1
  · subst h1
    show 0 + (if 1 % (0 + 1) = 0 then mu (0 + 1) * ones (1 / (0 + 1)) else 0) = 1
    simp [mu_one, ones]
  · obtain ⟨p, hp, hd⟩ := prime_in (show 2 ≤ n by omega)
    have p2 := two_le hp
    obtain ⟨m, rfl⟩ := hd
    have hm : 0 < m := Nat.pos_of_ne_zero fun e => by subst e; omega
    have e0 : one1 (p * m) = 0 := if_neg h1
    rw [e0]
    unfold dir
    have split : ∀ i, i < p * m → (if p * m % (i + 1) = 0 then mu (i + 1) * ones (p * m / (i + 1)) else 0) = (if p * m % (i + 1) = 0 ∧ ¬ (i + 1) % p = 0 then mu (i + 1) else 0) + (if (i + 1) % p = 0 then (if p * m % (i + 1) = 0 then mu (i + 1) else 0) else 0) := fun i _ => by
      by_cases c1 : p * m % (i + 1) = 0
      · by_cases c2 : (i + 1) % p = 0
        · simp [c1, c2, ones]
        · simp [c1, c2, ones]
      · simp [c1]
    rw [sm_congr split, sm_add, sm_mult (fun i => if p * m % i = 0 then mu i else 0) (by omega) m]
    have hle : m ≤ p * m := Nat.le_mul_of_pos_left m (by omega)
    rw [sm_ext' hle (fun i h2 h3 => if_neg (by
      rintro ⟨c1, c2⟩
      have hc : Nat.Coprime (i + 1) p := by
        rw [Nat.coprime_comm]
        exact prime_cop hp fun d => c2 (Nat.mod_eq_zero_of_dvd d)
      have := hc.dvd_of_dvd_mul_left (Nat.dvd_of_mod_eq_zero c1)
      have := Nat.le_of_dvd hm this
      omega)), ← sm_add]
    refine sm_none fun i hi => ?_
    by_cases c2 : (i + 1) % p = 0
    · rw [if_neg (fun q => q.2 c2), mu_sq hp (by omega) (Nat.dvd_of_mod_eq_zero c2)]
      simp
    · have hnd : ¬ p ∣ (i + 1) := fun d => c2 (Nat.mod_eq_zero_of_dvd d)
      have hc : Nat.Coprime (i + 1) p := by
        rw [Nat.coprime_comm]
        exact prime_cop hp hnd
      rw [mu_mul hp (by omega) hnd]
      have ee : p * m % (p * (i + 1)) = 0 ↔ p * m % (i + 1) = 0 := by
        constructor
        · intro q
          exact Nat.mod_eq_zero_of_dvd (Nat.dvd_trans (Nat.dvd_mul_left _ _) (Nat.dvd_of_mod_eq_zero q))
        · intro q
          exact Nat.mod_eq_zero_of_dvd (Nat.mul_dvd_mul_left p (hc.dvd_of_dvd_mul_left (Nat.dvd_of_mod_eq_zero q)))
      by_cases c1 : p * m % (i + 1) = 0
      · rw [if_pos ⟨c1, c2⟩, if_pos (ee.mpr c1)]; omega
      · rw [if_neg (fun q => c1 q.1), if_neg (fun q => c1 (ee.mp q))]; rfl
end NT
/-! Divisors by powers, plain. -/
namespace NT
def dstep (found : List Nat) (x : Nat × Nat) : List Nat := (List.range (x.2 + 1)).flatMap fun t => found.map fun y => y * x.1 ^ t
def dvs (ps : List (Nat × Nat)) : List Nat := ps.foldl dstep [1]
/-- the divisors, rising -/
def divs (n : Nat) : List Nat := ((List.range n).map (· + 1)).filter fun d => decide (n % d = 0)
/-- a list that holds the divisors of M, each once -/
structure Dl (fs : List Nat) (M : Nat) : Prop where
  nd : fs.Nodup
  mem : ∀ y, y ∈ fs ↔ y ∣ M
theorem Dl.one : Dl [1] 1 := ⟨by simp, fun y => by simp⟩
theorem Dl.step {fs : List Nat} {M p k : Nat} (hM : 0 < M) (hp : isP p = true) (h : ¬ p ∣ M) (d : Dl fs M) : Dl (dstep fs (p, k)) (M * p ^ k) := by
  have p2 := two_le hp
  have vy : ∀ y t, y ∣ M → vl p (y * p ^ t) = t := fun y t hy => by
    have y0 : 0 < y := Nat.pos_of_dvd_of_pos hy hM
    refine vl_eq p2 (Nat.mul_pos y0 (Nat.pow_pos (by omega))) (Nat.dvd_mul_left _ _) fun q => ?_
    rw [Nat.pow_succ, Nat.mul_comm (p ^ t) p] at q
    have := Nat.dvd_of_mul_dvd_mul_right (Nat.pow_pos (by omega)) q
    exact h (Nat.dvd_trans this hy)
  refine ⟨?_, fun y => ?_⟩
  · unfold dstep
    show List.Pairwise _ _
    rw [List.pairwise_flatMap]
    refine ⟨fun t _ => ?_, ?_⟩
    · rw [List.pairwise_map]
      refine List.Pairwise.imp (fun {a b} hab e => hab ?_) d.nd
      exact Nat.eq_of_mul_eq_mul_right (Nat.pow_pos (by omega)) e
    · refine List.Pairwise.imp (fun {s t} hst x hx y hy e => ?_) (List.nodup_range (n := k + 1))
      rw [List.mem_map] at hx hy
      obtain ⟨a, ha, rfl⟩ := hx
      obtain ⟨b, hb, rfl⟩ := hy
      have e1 := vy a s ((d.mem a).mp ha)
      have e2 := vy b t ((d.mem b).mp hb)
      simp only at e
      rw [e, e2] at e1
      exact hst e1.symm
  · unfold dstep
    rw [List.mem_flatMap]
    constructor
    · rintro ⟨t, ht, hy⟩
      rw [List.mem_map] at hy
      obtain ⟨a, ha, rfl⟩ := hy
      rw [List.mem_range] at ht
      exact Nat.mul_dvd_mul ((d.mem a).mp ha) (Nat.pow_dvd_pow p (by simp only at ht; omega))
    · intro hy
      have hy0 : 0 < y := Nat.pos_of_dvd_of_pos hy (Nat.mul_pos hM (Nat.pow_pos (by omega)))
      refine ⟨vl p y, ?_, ?_⟩
      · rw [List.mem_range]
        simp only
        have h1 := Nat.dvd_trans (vl_pow_dvd p2 y) hy
        rw [vl_dvd p2 _ _ (Nat.mul_pos hM (Nat.pow_pos (by omega)))] at h1
        rw [vy M k (Nat.dvd_refl M)] at h1
        omega
      · rw [List.mem_map]
        refine ⟨wo p y, (d.mem _).mpr ?_, wo_mul p2⟩
        have h1 : Nat.Coprime (wo p y) (p ^ k) := by
          rw [Nat.coprime_comm]
          exact Nat.Coprime.pow_left k (prime_cop hp (wo_not p2 hy0))
        exact h1.dvd_of_dvd_mul_right (Nat.dvd_trans (wo_dvd p2) hy)
/-- the primes of a list of powers: unlike ones -/
def Pl : Nat → List (Nat × Nat) → Prop
  | _, [] => True
  | M, x :: xs => isP x.1 = true ∧ ¬ x.1 ∣ M ∧ Pl (M * x.1 ^ x.2) xs
theorem Dl.fold : ∀ {ps : List (Nat × Nat)} {fs : List Nat} {M : Nat}, 0 < M → Pl M ps → Dl fs M → Dl (ps.foldl dstep fs) (M * prodP ps)
  | [], fs, M, _, _, d => by rw [prodP, Nat.mul_one]; exact d
  | x :: xs, fs, M, hM, h, d => by
    rw [List.foldl_cons, prodP, ← Nat.mul_assoc]
    exact Dl.fold (Nat.mul_pos hM (Nat.pow_pos (by have := two_le h.1; omega))) h.2.2 (Dl.step hM h.1 h.2.1 d)
theorem Pl.of : ∀ {ps : List (Nat × Nat)} {M : Nat}, 0 < M → (∀ x ∈ ps, isP x.1 = true ∧ ¬ x.1 ∣ M) → ps.Pairwise (fun x y => x.1 ≠ y.1) → Pl M ps
  | [], _, _, _, _ => trivial
  | x :: xs, M, hM, h, hp => by
    have hx := h x (by simp)
    have x2 := two_le hx.1
    rw [List.pairwise_cons] at hp
    refine ⟨hx.1, hx.2, Pl.of (Nat.mul_pos hM (Nat.pow_pos (by omega))) (fun y hy => ?_) hp.2⟩
    have hy2 := h y (List.mem_cons_of_mem _ hy)
    refine ⟨hy2.1, fun d => ?_⟩
    have hc := pow_cop hy2.1 hx.1 (fun e => hp.1 y hy e.symm) x.2
    rw [Nat.coprime_comm] at hc
    exact hy2.2 (hc.dvd_of_dvd_mul_right d)
theorem pw_mem {n : Nat} {x : Nat × Nat} (h : x ∈ pw n) : isP x.1 = true ∧ n % x.1 = 0 ∧ x.2 = vl x.1 n := by
  unfold pw at h
  rw [List.mem_map] at h
  obtain ⟨q, hq, rfl⟩ := h
  rw [List.mem_filter, Bool.and_eq_true, decide_eq_true_eq] at hq
  exact ⟨hq.2.1, hq.2.2, rfl⟩
theorem pw_rising (n : Nat) : (pw n).Pairwise fun x y => x.1 < y.1 := by
  unfold pw
  rw [List.pairwise_map]
  exact List.Pairwise.filter _ List.pairwise_lt_range
theorem Pl.pw (n : Nat) : Pl 1 (pw n) := Pl.of (by omega) (fun x hx => ⟨(pw_mem hx).1, fun d => by
  have := two_le (pw_mem hx).1
  have := Nat.le_of_dvd (by omega) d
  omega⟩) (List.Pairwise.imp (fun {a b} h => Nat.ne_of_lt h) (pw_rising n))
theorem Dl.dvs {n : Nat} (h : 0 < n) : Dl (dvs (NT.pw n)) n := by
  have := Dl.fold (by omega) (Pl.pw n) Dl.one
  rwa [prod_pw h, Nat.one_mul] at this
theorem mem_divs {n d : Nat} (h : 0 < n) : d ∈ divs n ↔ d ∣ n := by
  unfold divs
  rw [List.mem_filter, List.mem_map, decide_eq_true_eq]
  constructor
  · rintro ⟨_, e⟩; exact Nat.dvd_of_mod_eq_zero e
  · intro d1
    refine ⟨⟨d - 1, ?_, ?_⟩, Nat.mod_eq_zero_of_dvd d1⟩
    · rw [List.mem_range]
      have := Nat.le_of_dvd h d1
      have := Nat.pos_of_dvd_of_pos d1 h
      omega
    · have := Nat.pos_of_dvd_of_pos d1 h
      omega
theorem divs_rising (n : Nat) : (divs n).Pairwise (· < ·) := by
  unfold divs
  refine List.Pairwise.filter _ ?_
  rw [List.pairwise_map]
  exact List.Pairwise.imp (fun {a b} h => by omega) List.pairwise_lt_range
theorem Dl.divs {n : Nat} (h : 0 < n) : Dl (divs n) n := ⟨List.Pairwise.imp (fun {a b} h => Nat.ne_of_lt h) (divs_rising n), fun y => mem_divs h⟩
theorem Dl.perm {fs gs : List Nat} {n : Nat} (d : Dl fs n) (e : Dl gs n) : fs.Perm gs := (List.perm_ext_iff_of_nodup d.nd e.nd).mpr fun a => by rw [d.mem, e.mem]
/-- numbers below s, each once -/
theorem nodup_le {L : List Nat} {s : Nat} (h : L.Nodup) (h2 : ∀ x ∈ L, x < s) : L.length ≤ s := by
  have hp : L.Perm ((List.range s).filter fun x => decide (x ∈ L)) := (List.perm_ext_iff_of_nodup h (List.Pairwise.filter _ List.nodup_range)).mpr fun a => by
    rw [List.mem_filter, List.mem_range, decide_eq_true_eq]
    exact ⟨fun q => ⟨h2 a q, q⟩, fun q => q.2⟩
  have := List.length_filter_le (fun x => decide (x ∈ L)) (List.range s)
  rw [List.length_range] at this
  rw [hp.length_eq]
  exact this
/-- few divisors -/
theorem Dl.few {fs : List Nat} {n s : Nat} (hn : 0 < n) (hs : n ≤ s * s) (d : Dl fs n) : fs.length ≤ 2 * s + 2 := by
  have hl : fs.length = (fs.filter fun x => decide (x ≤ s)).length + (fs.filter fun x => !decide (x ≤ s)).length := by
    rw [← (List.filter_append_perm (fun x => decide (x ≤ s)) fs).length_eq, List.length_append]
  have h1 : (fs.filter fun x => decide (x ≤ s)).length ≤ s + 1 := nodup_le (List.Pairwise.filter _ d.nd) fun x hx => by
    rw [List.mem_filter, decide_eq_true_eq] at hx
    omega
  have h2 : ((fs.filter fun x => !decide (x ≤ s)).map fun x => n / x).length ≤ s + 1 := by
    refine nodup_le ?_ fun y hy => ?_
    · show List.Pairwise _ _
      rw [List.pairwise_map]
      refine List.Pairwise.imp_of_mem (fun {a b} ha hb hab e => hab ?_) (List.Pairwise.filter _ d.nd)
      have ha' := (d.mem a).mp (List.mem_filter.mp ha).1
      have hb' := (d.mem b).mp (List.mem_filter.mp hb).1
      have e1 := Nat.mul_div_cancel' ha'
      have e2 := Nat.mul_div_cancel' hb'
      rw [e] at e1
      have : 0 < n / b := Nat.div_pos (Nat.le_of_dvd hn hb') (Nat.pos_of_dvd_of_pos hb' hn)
      refine Nat.eq_of_mul_eq_mul_right this ?_
      rw [e1, e2]
    · rw [List.mem_map] at hy
      obtain ⟨x, hx, rfl⟩ := hy
      rw [List.mem_filter] at hx
      have hx2 : s < x := by have := hx.2; simp at this; exact this
      have hd := Nat.mul_div_cancel' ((d.mem x).mp hx.1)
      false_or_by_contra
      have := Nat.mul_le_mul (show s + 1 ≤ x by omega) (show s + 1 ≤ n / x by omega)
      have h3 : (s + 1) * (s + 1) = s * s + 2 * s + 1 := by rw [Nat.succ_mul, Nat.mul_succ]; omega
      omega
  rw [List.length_map] at h2
  omega
end NT
namespace NT
theorem filt_sum (P : Nat → Bool) (f : Nat → Int) : ∀ n : Nat, ((((List.range n).map (· + 1)).filter P).map f).sum = sm (fun i => if P (i + 1) = true then f (i + 1) else 0) n
  | 0 => rfl
  | n + 1 => by
    rw [List.range_succ, List.map_append, List.filter_append, List.map_append, List.sum_append, filt_sum P f n, sm]
    by_cases h : P (n + 1) = true
    · simp [h]
    · simp [h]
theorem divs_sum (f : Nat → Int) (n : Nat) : ((divs n).map f).sum = sm (fun i => if n % (i + 1) = 0 then f (i + 1) else 0) n := by
  unfold divs
  rw [filt_sum]
  refine sm_congr fun i _ => ?_
  by_cases h : n % (i + 1) = 0
  · simp [h]
  · simp [h]
/-- only those to a bound -/
theorem divs_to_sum (f : Nat → Int) (n m : Nat) : (((divs n).filter fun d => decide (d ≤ m)).map f).sum = sm (fun i => if n % (i + 1) = 0 ∧ i + 1 ≤ m then f (i + 1) else 0) n := by
  unfold divs
  rw [List.filter_filter, filt_sum]
  refine sm_congr fun i _ => ?_
  by_cases h : n % (i + 1) = 0
  · by_cases h2 : i + 1 ≤ m
    · simp [h, h2]
    · simp [h, h2]
  · simp [h]
theorem sm_cap (f : Nat → Int) {n m : Nat} (hn : 0 < n) : sm (fun i => if n % (i + 1) = 0 ∧ i + 1 ≤ m then f (i + 1) else 0) n = sm (fun i => if n % (i + 1) = 0 then f (i + 1) else 0) m := by
  have h1 : sm (fun i => if n % (i + 1) = 0 ∧ i + 1 ≤ m then f (i + 1) else 0) (n + m) = sm (fun i => if n % (i + 1) = 0 ∧ i + 1 ≤ m then f (i + 1) else 0) n := sm_ext fun i h1 h2 => if_neg fun q => by
    have := Nat.le_of_dvd hn (Nat.dvd_of_mod_eq_zero q.1)
    omega
  have h2 : sm (fun i => if n % (i + 1) = 0 ∧ i + 1 ≤ m then f (i + 1) else 0) (m + n) = sm (fun i => if n % (i + 1) = 0 ∧ i + 1 ≤ m then f (i + 1) else 0) m := sm_ext fun i h1 h2 => if_neg fun q => by omega
  rw [← h1, Nat.add_comm, h2]
  refine sm_congr fun i hi => ?_
  by_cases h : n % (i + 1) = 0
  · rw [if_pos ⟨h, by omega⟩, if_pos h]
  · rw [if_neg h, if_neg fun q => h q.1]
end NT
namespace NT
/-- few primes go into a number -/
theorem pw_few {n : Nat} (hn : 1 ≤ n) (hn2 : n ≤ 1000000000000) : (pw n).length ≤ 16000000 := by
  have h1 : ((pw n).map Prod.fst).length ≤ (divs n).length := by
    have hn0 : ((pw n).map Prod.fst).Nodup := by
      show List.Pairwise _ _
      rw [List.pairwise_map]
      exact List.Pairwise.imp (fun {a b} h => Nat.ne_of_lt h) (pw_rising n)
    have hp : ((pw n).map Prod.fst).Perm ((divs n).filter fun d => decide (d ∈ (pw n).map Prod.fst)) :=
      (List.perm_ext_iff_of_nodup hn0 (List.Pairwise.filter _ (Dl.divs hn).nd)).mpr fun a => by
        rw [List.mem_filter, decide_eq_true_eq]
        refine ⟨fun q => ⟨?_, q⟩, fun q => q.2⟩
        rw [List.mem_map] at q
        obtain ⟨x, hx, rfl⟩ := q
        exact (mem_divs hn).mpr (Nat.dvd_of_mod_eq_zero (pw_mem hx).2.1)
    rw [hp.length_eq]
    exact List.length_filter_le _ _
  have h2 := (Dl.divs hn).few (s := 1000000) hn (by omega)
  rw [List.length_map] at h1
  omega
end NT
/-! Rows, plain: a row stands from 0 on; its worth at a number i stands at i - 1. -/
namespace NT
def wf (f : Nat → Int) : Nat → Int := fun i => f (i - 1)
def tog (f g : Nat → Int) : Nat → Int := fun j => dir (wf f) (wf g) (j + 1)
theorem wf_tog (f g : Nat → Int) {i : Nat} (h : 0 < i) : wf (tog f g) i = dir (wf f) (wf g) i := by
  show dir (wf f) (wf g) (i - 1 + 1) = _
  rw [show i - 1 + 1 = i by omega]
theorem tog_congr {f g f' g' : Nat → Int} {j : Nat} (hf : ∀ i, i ≤ j → f i = f' i) (hg : ∀ i, i ≤ j → g i = g' i) : tog f g j = tog f' g' j :=
  dir_congr (by omega) (fun i h1 h2 => hf (i - 1) (by omega)) fun i h1 h2 => hg (i - 1) (by omega)
theorem tog_comm (f g : Nat → Int) (j : Nat) : tog f g j = tog g f j := dir_comm _ _ (by omega)
theorem tog_assoc (f g h : Nat → Int) (j : Nat) : tog (tog f g) h j = tog f (tog g h) j := by
  have e1 : tog (tog f g) h j = dir (dir (wf f) (wf g)) (wf h) (j + 1) := dir_congr (by omega) (fun i h1 _ => wf_tog f g h1) fun _ _ _ => rfl
  have e2 : tog f (tog g h) j = dir (wf f) (dir (wf g) (wf h)) (j + 1) := dir_congr (by omega) (fun _ _ _ => rfl) fun i h1 _ => wf_tog g h h1
  rw [e1, e2, dir_assoc _ _ _ (by omega)]
/-- the row that leaves each one -/
def oneR (j : Nat) : Int := if j = 0 then 1 else 0
theorem tog_one (f : Nat → Int) (j : Nat) : tog f oneR j = f j := by
  have : tog f oneR j = dir (wf f) one1 (j + 1) := dir_congr (by omega) (fun _ _ _ => rfl) fun i h1 _ => by
    unfold wf oneR one1
    by_cases h : i = 1
    · subst h; rfl
    · rw [if_neg (by omega), if_neg h]
  rw [this, dir_one _ (by omega)]
  rfl
theorem tog_mu_ones (j : Nat) : tog (fun a => mu (a + 1)) (fun _ => 1) j = oneR j := by
  have : tog (fun a => mu (a + 1)) (fun _ => 1) j = dir mu ones (j + 1) := dir_congr (by omega) (fun i h1 _ => by
    unfold wf
    simp only
    rw [show i - 1 + 1 = i by omega]) fun _ _ _ => rfl
  rw [this, mu_sum (by omega)]
  unfold one1 oneR
  by_cases h : j = 0
  · subst h; rfl
  · rw [if_neg (by omega), if_neg h]
/-- there and back -/
theorem back_over (f : Nat → Int) (j : Nat) : tog (tog f fun a => mu (a + 1)) (fun _ => 1) j = f j := by
  rw [tog_assoc, tog_congr (f' := f) (g' := oneR) (fun _ _ => rfl) (fun i _ => tog_mu_ones i), tog_one]
theorem over_back (f : Nat → Int) (j : Nat) : tog (tog f fun _ => 1) (fun a => mu (a + 1)) j = f j := by
  rw [tog_assoc, tog_congr (f' := f) (g' := oneR) (fun _ _ => rfl) (fun i _ => (tog_comm _ _ i).trans (tog_mu_ones i)), tog_one]
/-- sums over divisors, to a place within -/
theorem tog_ones {f : Nat → Int} {j m : Nat} (h : j < m) : tog f (fun _ => 1) j = sm (fun i => if (j + 1) % (i + 1) = 0 then f i else 0) m := by
  unfold tog
  rw [← dir_to (by omega) (show j + 1 ≤ m by omega)]
  refine sm_congr fun i _ => ?_
  unfold wf
  by_cases d : (j + 1) % (i + 1) = 0
  · rw [if_pos d, if_pos d]; simp
  · rw [if_neg d, if_neg d]
theorem blocks_any (f : Nat → Int) (m n : Nat) : sm (fun i => f i * ((n / (i + 1) : Nat) : Int)) m = sm (fun j => sm (fun i => if (j + 1) % (i + 1) = 0 then f i else 0) m) n := sm_multiples (wf f) m n
theorem blocks_over {f : Nat → Int} {m n : Nat} (h : n ≤ m) : sm (fun i => f i * ((n / (i + 1) : Nat) : Int)) m = sm (tog f fun _ => 1) n := by
  rw [blocks_any]
  exact sm_congr fun j hj => (tog_ones (by omega)).symm
theorem blocks_back {f : Nat → Int} {m n : Nat} (h : n ≤ m) : sm (fun i => tog f (fun a => mu (a + 1)) i * ((n / (i + 1) : Nat) : Int)) m = sm f n := by
  rw [blocks_over h]
  exact sm_congr fun j _ => back_over f j
theorem blocks_signs {m n : Nat} (h0 : 1 ≤ n) (h : n ≤ m) : sm (fun i => mu (i + 1) * ((n / (i + 1) : Nat) : Int)) m = 1 := by
  rw [blocks_over (f := fun a => mu (a + 1)) h, sm_congr (g := oneR) fun j _ => tog_mu_ones j, sm_single (f := oneR) (k := 0) (by omega) fun i _ hi => if_neg hi]
  rfl
theorem dir_abs {f g : Nat → Int} {B : Nat} {n : Nat} (h : ∀ i j, 0 < i → i ≤ n → 0 < j → j ≤ n → (f i * g j).natAbs ≤ B) : (dir f g n).natAbs ≤ n * B := by
  unfold dir
  refine sm_abs fun i hi => ?_
  by_cases d : n % (i + 1) = 0
  · rw [if_pos d]
    exact h _ _ (by omega) (by omega) (Nat.div_pos (by omega) (by omega)) (Nat.div_le_self _ _)
  · rw [if_neg d]; exact Nat.zero_le _
theorem tog_abs {f g : Nat → Int} {B C : Nat} {j : Nat} (hf : ∀ i, i ≤ j → (f i).natAbs ≤ B) (hg : ∀ i, i ≤ j → (g i).natAbs ≤ C) : (tog f g j).natAbs ≤ (j + 1) * (B * C) := by
  refine dir_abs fun a b h1 h2 h3 h4 => ?_
  rw [Int.natAbs_mul]
  exact Nat.mul_le_mul (hf (a - 1) (by omega)) (hg (b - 1) (by omega))
/-- divisors of a number, worths to a bound -/
theorem divs_worths (f : Nat → Int) {n m : Nat} (hn : 0 < n) : (((divs n).filter fun d => decide (d ≤ m)).map fun d => f (d - 1)).sum = sm (fun i => if n % (i + 1) = 0 then f i else 0) m := by
  have e := divs_to_sum (wf f) n m
  rw [sm_cap (wf f) hn] at e
  exact e
end NT
/-! More of rows, plain: filtered sums, one worth alone, sums again and again; the sign by dividing. -/
namespace NT
theorem filt_sum0 (P : Nat → Bool) (g : Nat → Int) : ∀ n : Nat, (((List.range n).filter P).map g).sum = sm (fun i => if P i = true then g i else 0) n
  | 0 => rfl
  | n + 1 => by
    rw [List.range_succ, List.filter_append, List.map_append, List.sum_append, filt_sum0 P g n, sm]
    by_cases h : P n = true
    · simp [h]
    · simp [h]
theorem divs_all (f : Nat → Int) {n : Nat} (hn : 0 < n) : ((divs n).map fun d => f (d - 1)).sum = tog f (fun _ => 1) (n - 1) := by
  have e := divs_sum (wf f) n
  have e2 : ((divs n).map fun d => f (d - 1)).sum = ((divs n).map (wf f)).sum := rfl
  rw [e2, e, tog_ones (m := n) (by omega)]
  refine sm_congr fun i _ => ?_
  rw [show n - 1 + 1 = n by omega]
  rfl
theorem tog_sm (f g : Nat → Int) (j : Nat) : tog f g j = sm (fun i => if (j + 1) % (i + 1) = 0 then f i * g ((j + 1) / (i + 1) - 1) else 0) (j + 1) := rfl
def alone (k : Nat) : Nat → Int := fun i => if i + 1 = k then 1 else 0
theorem tog_alone (g : Nat → Int) {k : Nat} (hk : 0 < k) (j : Nat) : tog (alone k) g j = if (j + 1) % k = 0 then g ((j + 1) / k - 1) else 0 := by
  rw [tog_sm]
  by_cases h : k ≤ j + 1
  · rw [sm_single (k := k - 1) (by omega), show k - 1 + 1 = k by omega]
    · unfold alone
      rw [if_pos (show k - 1 + 1 = k by omega), Int.one_mul]
    · intro i _ hi
      unfold alone
      rw [if_neg (show ¬ i + 1 = k by omega)]
      simp
  · rw [sm_none, if_neg]
    · rw [Nat.mod_eq_of_lt (by omega)]; omega
    · intro i hi
      unfold alone
      rw [if_neg (show ¬ i + 1 = k by omega)]
      simp
/-- summed over divisors so many times -/
def ovN (f : Nat → Int) : Nat → Nat → Int
  | 0 => f
  | t + 1 => tog (ovN f t) fun _ => 1
theorem ovN_abs {f : Nat → Int} {B : Nat} (hf : ∀ j, j < 60 → (f j).natAbs ≤ B) : ∀ t j, j < 60 → (ovN f t j).natAbs ≤ B * 60 ^ t
  | 0, j, hj => by rw [Nat.pow_zero, Nat.mul_one]; exact hf j hj
  | t + 1, j, hj => by
    have h := tog_abs (f := ovN f t) (g := fun _ => 1) (B := B * 60 ^ t) (C := 1) (j := j) (fun i hi => ovN_abs hf t i (by omega)) (fun _ _ => by decide)
    refine Nat.le_trans h ?_
    rw [Nat.mul_one, Nat.pow_succ, ← Nat.mul_assoc B, Nat.mul_comm (j + 1)]
    exact Nat.mul_le_mul_left _ (by omega)
/-- the sign by dividing on -/
structure Ls (n l a : Nat) (s : Int) : Prop where
  pos : 0 < l
  le : l ≤ n
  two : 2 ≤ a
  low : ∀ q, isP q = true → q < a → ¬ q ∣ l
  sg : s * mu l = mu n
theorem Ls.start {n : Nat} (h : 0 < n) : Ls n n 2 1 := ⟨h, Nat.le_refl _, Nat.le_refl _, fun q hq hl => by have := two_le hq; omega, Int.one_mul _⟩
theorem Ls.prime {n l a : Nat} {s : Int} (t : Ls n l a s) (h : l % a = 0) : isP a = true := by
  cases e : isP a with
  | true => rfl
  | false =>
    obtain ⟨q, hq, qd, _, ql⟩ := small_prime t.two e
    exact absurd (Nat.dvd_trans qd (Nat.dvd_of_mod_eq_zero h)) (t.low q hq ql)
theorem Ls.zero {n l a : Nat} {s : Int} (t : Ls n l a s) (h : l % a = 0) (h2 : l / a % a = 0) : mu n = 0 := by
  have hp := t.prime h
  obtain ⟨c, rfl⟩ := Nat.dvd_of_mod_eq_zero h
  have a0 : 0 < a := by have := t.two; omega
  rw [Nat.mul_div_cancel_left c a0] at h2
  have c0 : 0 < c := Nat.pos_of_ne_zero fun e => by subst e; exact absurd t.pos (by simp)
  rw [← t.sg, mu_sq hp c0 (Nat.dvd_of_mod_eq_zero h2), Int.mul_zero]
theorem Ls.go {n l a : Nat} {s : Int} (t : Ls n l a s) (h : l % a = 0) (h2 : ¬ l / a % a = 0) : Ls n (l / a) (a + 1) (0 - s) := by
  have hp := t.prime h
  have a2 := t.two
  obtain ⟨c, rfl⟩ := Nat.dvd_of_mod_eq_zero h
  rw [Nat.mul_div_cancel_left c (by omega)] at h2 ⊢
  have c0 : 0 < c := Nat.pos_of_ne_zero fun e => by subst e; exact absurd t.pos (by simp)
  have hle : c ≤ a * c := Nat.le_mul_of_pos_left c (by omega)
  refine ⟨c0, Nat.le_trans hle t.le, by omega, fun q hq hl d => ?_, ?_⟩
  · by_cases e : q = a
    · subst e; exact h2 (Nat.mod_eq_zero_of_dvd d)
    · exact t.low q hq (by omega) (Nat.dvd_trans d (Nat.dvd_mul_left _ _))
  · rw [← t.sg, mu_mul hp c0 (fun d => h2 (Nat.mod_eq_zero_of_dvd d))]
    rw [Int.mul_neg, Int.zero_sub, Int.neg_mul]
theorem Ls.skip {n l a : Nat} {s : Int} (t : Ls n l a s) (h : ¬ l % a = 0) : Ls n l (a + 1) s := by
  refine ⟨t.pos, t.le, by have := t.two; omega, fun q hq hl d => ?_, t.sg⟩
  by_cases e : q = a
  · subst e; exact h (Nat.mod_eq_zero_of_dvd d)
  · exact t.low q hq (by omega) d
theorem Ls.bd {n l a : Nat} {s : Int} (t : Ls n l a s) (h : 1 < l) : a ≤ l := by
  obtain ⟨q, hq, qd⟩ := prime_in h
  have := Nat.le_of_dvd t.pos qd
  false_or_by_contra
  exact t.low q hq (by omega) qd
theorem Ls.fin {n l a : Nat} {s : Int} (t : Ls n l a s) (h : ¬ 1 < l) : s = mu n := by
  have : l = 1 := by have := t.pos; omega
  subst this
  rw [← t.sg, mu_one, Int.mul_one]
end NT
/-! Powers of rows, what undoes them, quotients, roots: plain. -/
namespace NT
def togN (f : Nat → Int) : Nat → Nat → Int
  | 0 => oneR
  | t + 1 => tog (togN f t) f
theorem tog_abs' {f g : Nat → Int} {B C m : Nat} (hf : ∀ i, i < m → (f i).natAbs ≤ B) (hg : ∀ i, i < m → (g i).natAbs ≤ C) : ∀ j, j < m → (tog f g j).natAbs ≤ m * (B * C) := fun j hj =>
  Nat.le_trans (tog_abs (fun i hi => hf i (by omega)) (fun i hi => hg i (by omega))) (Nat.mul_le_mul_right _ (by omega))
theorem togN_abs {f : Nat → Int} {B m : Nat} (hf : ∀ j, j < m → (f j).natAbs ≤ B) : ∀ t j, j < m → (togN f t j).natAbs ≤ (m * B) ^ t
  | 0, j, hj => by
    rw [Nat.pow_zero]
    show (oneR j).natAbs ≤ 1
    unfold oneR
    split <;> decide
  | t + 1, j, hj => by
    have h := tog_abs' (f := togN f t) (g := f) (B := (m * B) ^ t) (C := B) (m := m) (fun i hi => togN_abs hf t i hi) hf j hj
    refine Nat.le_trans h ?_
    rw [Nat.pow_succ, ← Nat.mul_assoc, Nat.mul_comm m, Nat.mul_assoc]
    exact Nat.le_refl _
theorem togN_congr {f g : Nat → Int} {j : Nat} (h : ∀ i, i ≤ j → f i = g i) : ∀ t i, i ≤ j → togN f t i = togN g t i
  | 0, _, _ => rfl
  | t + 1, i, hi => tog_congr (fun k hk => togN_congr h t k (by omega)) fun k hk => h k (by omega)
theorem tog_zero (f g : Nat → Int) : tog f g 0 = f 0 * g 0 := by
  rw [tog_sm]
  show 0 + (if (0 + 1) % (0 + 1) = 0 then f 0 * g ((0 + 1) / (0 + 1) - 1) else 0) = _
  rw [if_pos rfl, Int.zero_add]
theorem togN_zero {f : Nat → Int} (h : f 0 = 1) : ∀ t, togN f t 0 = 1
  | 0 => rfl
  | t + 1 => by
    show tog (togN f t) f 0 = 1
    rw [tog_zero, togN_zero h t, h]
    rfl
def off (g : Nat → Int) (t : Nat) : Nat → Int := fun j => if j = t then 0 else g j
theorem togN_off {g : Nat → Int} {t : Nat} (h : g 0 = 1) (ht : 0 < t) : ∀ k : Nat, togN g k t = togN (off g t) k t + (k : Int) * g t
  | 0 => by simp [togN]
  | k + 1 => by
    have h0 : off g t 0 = 1 := by
      unfold off
      rw [if_neg (by omega), h]
    have hoff : ∀ i, i < t → off g t i = g i := fun i hi => by
      unfold off
      rw [if_neg (by omega)]
    have a : ∀ i, i < t → togN (off g t) k i = togN g k i := fun i hi => togN_congr (j := t - 1) (fun q hq => hoff q (by omega)) k i (by omega)
    have ih := togN_off h ht k
    have b1 := togN_zero h k
    have b2 := togN_zero h0 k
    have e : ∀ i, i < t + 1 → (if (t + 1) % (i + 1) = 0 then togN g k i * g ((t + 1) / (i + 1) - 1) else 0) = (if (t + 1) % (i + 1) = 0 then togN (off g t) k i * off g t ((t + 1) / (i + 1) - 1) else 0) + ((if i = 0 then g t else 0) + (if i = t then (k : Int) * g t else 0)) := fun i hi => by
      by_cases h1 : i = 0
      · subst h1
        rw [if_pos (Nat.mod_one _), if_pos (Nat.mod_one _), if_pos rfl, if_neg (by omega), b1, b2]
        rw [show (t + 1) / (0 + 1) - 1 = t by rw [Nat.zero_add, Nat.div_one]; omega]
        have : off g t t = 0 := by unfold off; rw [if_pos rfl]
        rw [this]
        omega
      · by_cases h2 : i = t
        · subst h2
          rw [if_pos (Nat.mod_self _), if_pos (Nat.mod_self _), if_neg h1, if_pos rfl, Nat.div_self (by omega), Nat.sub_self, h, h0, ih]
          omega
        · rw [if_neg h1, if_neg h2]
          by_cases d : (t + 1) % (i + 1) = 0
          · have hq : (t + 1) / (i + 1) ≤ (t + 1) / 2 := Nat.div_le_div_left (by omega) (by omega)
            rw [if_pos d, if_pos d, a i (by omega), hoff _ (by omega)]
            omega
          · rw [if_neg d, if_neg d]; rfl
    show tog (togN g k) g t = tog (togN (off g t) k) (off g t) t + _
    rw [tog_sm, tog_sm, sm_congr e, sm_add, sm_add, sm_single (f := fun i => if i = 0 then g t else 0) (k := 0) (by omega) (fun i _ hi => if_neg hi), sm_single (f := fun i => if i = t then (k : Int) * g t else 0) (k := t) (by omega) (fun i _ hi => if_neg hi), if_pos rfl, if_pos rfl]
    have : ((k + 1 : Nat) : Int) * g t = (k : Int) * g t + g t := by rw [Int.natCast_succ, Int.add_mul, Int.one_mul]
    omega
/-- the divisors but the number itself -/
def divs' (k : Nat) : List Nat := ((List.range k).map (· + 1)).filter fun d => decide ((k + 1) % d = 0)
theorem divs_snoc (k : Nat) : divs (k + 1) = divs' k ++ [k + 1] := by
  unfold divs divs'
  rw [List.range_succ, List.map_append, List.filter_append]
  simp
theorem made_eq (f g : Nat → Int) (k : Nat) : ((divs' k).map fun d => f ((k + 1) / d - 1) * g (d - 1)).sum + g k * f 0 = tog g f k := by
  unfold divs'
  have e := filt_sum (fun d => decide ((k + 1) % d = 0)) (fun d => f ((k + 1) / d - 1) * g (d - 1)) k
  rw [e, tog_sm, sm, if_pos (Nat.mod_self _), Nat.div_self (by omega), Nat.sub_self]
  congr 1
  refine sm_congr fun i _ => ?_
  by_cases h : (k + 1) % (i + 1) = 0
  · simp [h, Int.mul_comm]
  · simp [h]
theorem divs'_mem {k d : Nat} (h : d ∈ divs' k) : 0 < d ∧ d ≤ k ∧ (k + 1) % d = 0 := by
  unfold divs' at h
  rw [List.mem_filter, List.mem_map, decide_eq_true_eq] at h
  obtain ⟨⟨a, ha, rfl⟩, h2⟩ := h
  rw [List.mem_range] at ha
  exact ⟨by omega, by omega, h2⟩
theorem divs'_len (k : Nat) : (divs' k).length ≤ k := by
  unfold divs'
  have := List.length_filter_le (fun d => decide ((k + 1) % d = 0)) ((List.range k).map (· + 1))
  rwa [List.length_map, List.length_range] at this
theorem divs_len (n : Nat) : (divs n).length ≤ n := by
  unfold divs
  have := List.length_filter_le (fun d => decide (n % d = 0)) ((List.range n).map (· + 1))
  rwa [List.length_map, List.length_range] at this
/-- prime or not, by powers -/
theorem pw_prime {n : Nat} (hn : 0 < n) : pw n = [(n, 1)] ↔ isP n = true := by
  constructor
  · intro h
    have : (n, 1) ∈ pw n := by rw [h]; simp
    exact (pw_mem this).1
  · intro h
    have h2 := two_le h
    unfold pw
    rw [List.range_succ, List.filter_append]
    have e1 : (List.range n).filter (fun p => isP p && decide (n % p = 0)) = [] := by
      rw [List.filter_eq_nil_iff]
      intro a ha q
      rw [Bool.and_eq_true, decide_eq_true_eq] at q
      rw [List.mem_range] at ha
      rcases isP_dvd h (Nat.dvd_of_mod_eq_zero q.2) with e | e
      · have := two_le q.1; omega
      · omega
    have e2 : vl n n = 1 := vl_eq (by omega) hn (by rw [Nat.pow_one]; exact Nat.dvd_refl n) fun d => by
      have := Nat.le_of_dvd hn d
      have h4 : n ^ (1 + 1) = n * n := by rw [Nat.pow_succ, Nat.pow_one]
      have := Nat.mul_le_mul h2 (Nat.le_refl n)
      omega
    rw [e1]
    simp [h, e2]
end NT
/-! Counts and sums of divisors to a number; blocks; least primes; powers by them: plain. -/
namespace NT
def tau (n : Nat) : Int := sm (fun i => if n % (i + 1) = 0 then 1 else 0) n
def sig (n : Nat) : Int := sm (fun i => if n % (i + 1) = 0 then ((i + 1 : Nat) : Int) else 0) n
theorem tau_divs (n : Nat) : tau n = (((divs n).length : Nat) : Int) := by
  have e := divs_sum (fun _ => 1) n
  unfold tau
  rw [← e]
  generalize divs n = xs
  induction xs with
  | nil => rfl
  | cons x xs ih => rw [List.map_cons, List.sum_cons, ih, List.length_cons]; omega
theorem sig_divs (n : Nat) : sig n = ((divs n).map fun d : Nat => (d : Int)).sum := (divs_sum (fun d => (d : Int)) n).symm
theorem tau_to {n N : Nat} (h0 : 0 < n) (h : n ≤ N) : sm (fun i => if n % (i + 1) = 0 then (1 : Int) else 0) N = tau n := by
  unfold tau
  refine sm_ext' h fun i h1 h2 => if_neg ?_
  rw [Nat.mod_eq_of_lt (by omega)]; omega
theorem sig_to {n N : Nat} (h0 : 0 < n) (h : n ≤ N) : sm (fun i => if n % (i + 1) = 0 then ((i + 1 : Nat) : Int) else 0) N = sig n := by
  unfold sig
  refine sm_ext' h fun i h1 h2 => if_neg ?_
  rw [Nat.mod_eq_of_lt (by omega)]; omega
/-- to a number -/
def tauS (n : Nat) : Int := sm (fun j => tau (j + 1)) n
def sigS (n : Nat) : Int := sm (fun j => sig (j + 1)) n
theorem tauS_quot (n : Nat) : tauS n = sm (fun i => ((n / (i + 1) : Nat) : Int)) n := by
  have e := blocks_any (fun _ => 1) n n
  have e1 : sm (fun i => (1 : Int) * ((n / (i + 1) : Nat) : Int)) n = sm (fun i => ((n / (i + 1) : Nat) : Int)) n := sm_congr fun i _ => Int.one_mul _
  rw [← e1, e]
  exact sm_congr fun j hj => (tau_to (by omega) (by omega)).symm
theorem sigS_quot (n : Nat) : sigS n = sm (fun i => ((i + 1 : Nat) : Int) * ((n / (i + 1) : Nat) : Int)) n := by
  rw [blocks_any (fun i => ((i + 1 : Nat) : Int)) n n]
  exact sm_congr fun j hj => (sig_to (by omega) (by omega)).symm
/-- how many j go -/
theorem sm_count {q N : Nat} (h : q ≤ N) : sm (fun j => if j < q then (1 : Int) else 0) N = (q : Int) := by
  have e : ∀ q, sm (fun _ => (1 : Int)) q = (q : Int) := fun q => by
    induction q with
    | zero => rfl
    | succ q ih => rw [sm, ih]; omega
  rw [sm_ext' h fun i h1 _ => if_neg (by omega), ← e q]
  exact sm_congr fun i hi => if_pos hi
theorem pair_count {n a N : Nat} (h : n ≤ N) (ha : 0 < a) : sm (fun j => if a * (j + 1) ≤ n then (1 : Int) else 0) N = ((n / a : Nat) : Int) := by
  have hq : n / a ≤ N := Nat.le_trans (Nat.div_le_self _ _) h
  rw [← sm_count hq]
  refine sm_congr fun j _ => ?_
  have : a * (j + 1) ≤ n ↔ j < n / a := by
    rw [← Nat.succ_le_iff, Nat.le_div_iff_mul_le ha, Nat.mul_comm]
  by_cases h1 : j < n / a
  · rw [if_pos (this.mpr h1), if_pos h1]
  · rw [if_neg (fun q => h1 (this.mp q)), if_neg h1]
theorem sm_split (f : Nat → Int) (a : Nat) : ∀ b : Nat, sm f (a + b) = sm f a + sm (fun i => f (a + i)) b
  | 0 => by rw [sm, Nat.add_zero, Int.add_zero]
  | b + 1 => by rw [← Nat.add_assoc, sm, sm_split f a b, sm]; omega
/-- halves of the couples -/
theorem hyper {n r : Nat} (h1 : r * r ≤ n) (h2 : n < (r + 1) * (r + 1)) : tauS n = 2 * sm (fun i => ((n / (i + 1) : Nat) : Int)) r - (r : Int) * (r : Int) := by
  rw [tauS_quot]
  have hrn : r ≤ n := Nat.le_trans (Nat.le_mul_self r) h1
  obtain ⟨b, rfl⟩ : ∃ b, n = r + b := ⟨n - r, by omega⟩
  generalize hn : r + b = n at *
  have e0 : sm (fun i => ((n / (i + 1) : Nat) : Int)) n = sm (fun i => ((n / (i + 1) : Nat) : Int)) r + sm (fun i => ((n / (r + i + 1) : Nat) : Int)) b := by
    have := sm_split (fun i => ((n / (i + 1) : Nat) : Int)) r b
    rw [hn] at this
    exact this
  -- the second half, the other way about
  have e1 : ∀ i, i < b → ((n / (r + i + 1) : Nat) : Int) = sm (fun j => if (r + i + 1) * (j + 1) ≤ n then (1 : Int) else 0) r := fun i _ => by
    rw [← pair_count (a := r + i + 1) (Nat.le_refl n) (by omega)]
    refine sm_ext' hrn fun j hj _ => if_neg fun q => ?_
    have := Nat.mul_le_mul (show r + 1 ≤ r + i + 1 by omega) (show r + 1 ≤ j + 1 by omega)
    omega
  have e2 : sm (fun i => ((n / (r + i + 1) : Nat) : Int)) b = sm (fun j => sm (fun i => if (r + i + 1) * (j + 1) ≤ n then (1 : Int) else 0) b) r := by
    rw [sm_congr e1, sm_swap]
  have e3 : ∀ j, j < r → sm (fun i => if (r + i + 1) * (j + 1) ≤ n then (1 : Int) else 0) b = ((n / (j + 1) : Nat) : Int) - (r : Int) := fun j hj => by
    have s := sm_split (fun i => if (i + 1) * (j + 1) ≤ n then (1 : Int) else 0) r b
    rw [hn] at s
    have t1 : sm (fun i => if (i + 1) * (j + 1) ≤ n then (1 : Int) else 0) n = ((n / (j + 1) : Nat) : Int) := by
      rw [← pair_count (a := j + 1) (Nat.le_refl n) (by omega)]
      exact sm_congr fun i _ => by rw [Nat.mul_comm]
    have t2 : sm (fun i => if (i + 1) * (j + 1) ≤ n then (1 : Int) else 0) r = (r : Int) := by
      rw [← sm_count (Nat.le_refl r)]
      refine sm_congr fun i hi => ?_
      rw [if_pos hi, if_pos]
      exact Nat.le_trans (Nat.mul_le_mul (show i + 1 ≤ r by omega) (show j + 1 ≤ r by omega)) h1
    have t3 : sm (fun i => if (r + i + 1) * (j + 1) ≤ n then (1 : Int) else 0) b = sm (fun i => (fun i => if (i + 1) * (j + 1) ≤ n then (1 : Int) else 0) (r + i)) b := rfl
    rw [t3]
    omega
  rw [e0, e2, sm_congr e3, sm_sub]
  have e4 : sm (fun _ => (r : Int)) r = (r : Int) * (r : Int) := by
    have : ∀ k : Nat, sm (fun _ => (r : Int)) k = (k : Int) * (r : Int) := fun k => by
      induction k with
      | zero => simp [sm]
      | succ k ih => rw [sm, ih, Int.natCast_succ, Int.add_mul, Int.one_mul]
    exact this r
  rw [e4]
  omega
/-- one stretch of one quotient -/
theorem stretch {n f q : Nat} (hf : 0 < f) (hfn : f ≤ n) (hq : q = n / f) : 0 < q ∧ f ≤ n / q ∧ n / q ≤ n ∧ ∀ i, f ≤ i → i ≤ n / q → n / i = q := by
  have q0 : 0 < q := by rw [hq]; exact Nat.div_pos hfn hf
  have h1 : f ≤ n / q := by
    rw [Nat.le_div_iff_mul_le q0, hq, Nat.mul_comm]
    exact Nat.div_mul_le_self n f
  refine ⟨q0, h1, Nat.div_le_self _ _, fun i h2 h3 => ?_⟩
  have i0 : 0 < i := by omega
  have a : q ≤ n / i := by
    rw [Nat.le_div_iff_mul_le i0, Nat.mul_comm]
    exact (Nat.le_div_iff_mul_le q0).mp h3
  have b : n / i ≤ q := by rw [hq]; exact Nat.div_le_div_left h2 hf
  omega
theorem block_count {n q a : Nat} : ∀ {k : Nat}, (∀ i, a < i → i ≤ a + k → n / i = q) → sm (fun i => ((n / (i + 1) : Nat) : Int)) (a + k) = sm (fun i => ((n / (i + 1) : Nat) : Int)) a + (k : Int) * (q : Int)
  | 0, _ => by simp
  | k + 1, h => by
    rw [← Nat.add_assoc, sm, block_count (k := k) fun i h1 h2 => h i h1 (by omega), h (a + k + 1) (by omega) (by omega), Int.natCast_succ, Int.add_mul, Int.one_mul]
    omega
theorem block_sum {n q a : Nat} : ∀ {k : Nat}, (∀ i, a < i → i ≤ a + k → n / i = q) → 2 * sm (fun i => ((i + 1 : Nat) : Int) * ((n / (i + 1) : Nat) : Int)) (a + k) = 2 * sm (fun i => ((i + 1 : Nat) : Int) * ((n / (i + 1) : Nat) : Int)) a + (q : Int) * ((a : Int) + 1 + ((a : Int) + k)) * (k : Int)
  | 0, _ => by simp
  | k + 1, h => by
    rw [← Nat.add_assoc, sm, Int.mul_add, block_sum (k := k) fun i h1 h2 => h i h1 (by omega), h (a + k + 1) (by omega) (by omega)]
    have e1 : ((a + k + 1 : Nat) : Int) = (a : Int) + (k : Int) + 1 := by omega
    have e2 : ((k + 1 : Nat) : Int) = (k : Int) + 1 := by omega
    rw [e1, e2]
    generalize (q : Int) = Q
    generalize (a : Int) = A
    generalize (k : Int) = K
    simp only [Int.mul_add, Int.add_mul, Int.mul_one, Int.one_mul]
    simp only [Int.mul_comm, Int.mul_left_comm]
    omega
end NT
/-! Least primes by a sieve, powers by them; counts and sums of divisors by powers: plain. -/
namespace NT
/-- the least divisor from 2 on that is less than K, else j -/
def ld (j K : Nat) : Nat := ((List.range K).find? fun d => decide (2 ≤ d) && decide (j % d = 0)).getD j
theorem ld_two (j : Nat) : ld j 2 = j := rfl
open Classical in
theorem ld_succ (j K : Nat) : ld j (K + 1) = if (∃ d, 2 ≤ d ∧ d < K ∧ j % d = 0) then ld j K else if 2 ≤ K ∧ j % K = 0 then K else j := by
  unfold ld
  rw [List.range_succ, List.find?_append]
  by_cases h : ∃ d, 2 ≤ d ∧ d < K ∧ j % d = 0
  · rw [if_pos h]
    obtain ⟨d, h1, h2, h3⟩ := h
    cases e : (List.range K).find? fun d => decide (2 ≤ d) && decide (j % d = 0) with
    | some x => rfl
    | none =>
      rw [List.find?_eq_none] at e
      have := e d (List.mem_range.mpr h2)
      simp [h1, h3] at this
  · rw [if_neg h]
    have e : (List.range K).find? (fun d => decide (2 ≤ d) && decide (j % d = 0)) = none := by
      rw [List.find?_eq_none]
      intro d hd q
      simp only [Bool.and_eq_true, decide_eq_true_eq] at q
      exact h ⟨d, q.1, List.mem_range.mp hd, q.2⟩
    rw [e]
    by_cases h2 : 2 ≤ K ∧ j % K = 0
    · rw [if_pos h2]
      simp [h2.1, h2.2]
    · rw [if_neg h2]
      have : (decide (2 ≤ K) && decide (j % K = 0)) = false := by
        rw [Bool.and_eq_false_iff, decide_eq_false_iff_not, decide_eq_false_iff_not]
        by_cases h3 : 2 ≤ K
        · exact .inr fun q => h2 ⟨h3, q⟩
        · exact .inl h3
      simp [this]
theorem ld_some {j K : Nat} (h : ∃ d, 2 ≤ d ∧ d < K ∧ j % d = 0) : 2 ≤ ld j K ∧ ld j K < K ∧ j % ld j K = 0 ∧ ∀ d, 2 ≤ d → d < ld j K → j % d ≠ 0 := by
  unfold ld
  cases e : (List.range K).find? fun d => decide (2 ≤ d) && decide (j % d = 0) with
  | none =>
    obtain ⟨d, h1, h2, h3⟩ := h
    rw [List.find?_eq_none] at e
    have := e d (List.mem_range.mpr h2)
    simp [h1, h3] at this
  | some x =>
    have h1 := List.find?_some e
    simp only [Bool.and_eq_true, decide_eq_true_eq] at h1
    have h2 := List.mem_range.mp (List.mem_of_find?_eq_some e)
    refine ⟨h1.1, h2, h1.2, fun d hd hl q => ?_⟩
    simp only [Option.getD_some] at hl
    rw [List.find?_range_eq_some] at e
    have := e.2.2 d hl
    simp [hd, q] at this
theorem ld_none {j K : Nat} (h : ¬ ∃ d, 2 ≤ d ∧ d < K ∧ j % d = 0) : ld j K = j := by
  unfold ld
  have e : (List.range K).find? (fun d => decide (2 ≤ d) && decide (j % d = 0)) = none := by
    rw [List.find?_eq_none]
    intro d hd q
    simp only [Bool.and_eq_true, decide_eq_true_eq] at q
    exact h ⟨d, q.1, List.mem_range.mp hd, q.2⟩
  rw [e]
  rfl
/-- the sieve's turn at K: K is no multiple of a lesser one, then its multiples from 2K on -/
theorem ld_turn {K : Nat} (hK : 2 ≤ K) (j : Nat) (hj : 0 < j) : ld j (K + 1) = if ld K K = K ∧ j % K = 0 ∧ 2 * K ≤ j then min (ld j K) K else ld j K := by
  by_cases h : ∃ d, 2 ≤ d ∧ d < K ∧ j % d = 0
  · rw [ld_succ, if_pos h]
    have := (ld_some h).2.1
    by_cases c : ld K K = K ∧ j % K = 0 ∧ 2 * K ≤ j
    · rw [if_pos c, Nat.min_eq_left (by omega)]
    · rw [if_neg c]
  · rw [ld_succ, if_neg h, ld_none h]
    by_cases d : j % K = 0
    · rw [if_pos ⟨hK, d⟩]
      have hKK : ¬ ∃ d, 2 ≤ d ∧ d < K ∧ K % d = 0 := fun ⟨d', h1, h2, h3⟩ => h ⟨d', h1, h2, Nat.mod_eq_zero_of_dvd (Nat.dvd_trans (Nat.dvd_of_mod_eq_zero h3) (Nat.dvd_of_mod_eq_zero d))⟩
      have hle := Nat.le_of_dvd hj (Nat.dvd_of_mod_eq_zero d)
      by_cases h2 : 2 * K ≤ j
      · rw [if_pos ⟨ld_none hKK, d, h2⟩, Nat.min_eq_right hle]
      · rw [if_neg (fun q => h2 q.2.2)]
        obtain ⟨c, hc⟩ := Nat.dvd_of_mod_eq_zero d
        have : c = 1 := by
          rcases c with _ | _ | c
          · omega
          · rfl
          · have := Nat.mul_le_mul_left K (show 2 ≤ c + 1 + 1 by omega)
            rw [← hc] at this
            omega
        subst this
        omega
    · rw [if_neg (fun q => d q.2), if_neg (fun q => d q.2.1)]
/-- at the end: the least prime -/
theorem ld_prime {j K : Nat} (hj : 2 ≤ j) (hK : j < K) : isP (ld j K) = true ∧ ld j K ∣ j ∧ ∀ q, isP q = true → q < ld j K → ¬ q ∣ j := by
  obtain ⟨h1, h2, h3, h4⟩ := ld_some (j := j) (K := K) ⟨j, hj, hK, Nat.mod_self j⟩
  refine ⟨isP_iff.mpr ⟨h1, fun d hd hl q => ?_⟩, Nat.dvd_of_mod_eq_zero h3, fun q hq hl d => h4 q (two_le hq) hl (Nat.mod_eq_zero_of_dvd d)⟩
  exact h4 d hd hl (Nat.mod_eq_zero_of_dvd (Nat.dvd_trans (Nat.dvd_of_mod_eq_zero q) (Nat.dvd_of_mod_eq_zero h3)))
/-- division by the primes below a done -/
structure Tq (n l a : Nat) : Prop where
  pos : 0 < l
  le : l ≤ n
  low : ∀ q, isP q = true → q < a → ¬ q ∣ l
  great : ∀ q, isP q = true → a ≤ q → vl q l = vl q n
theorem Tq.start {n : Nat} (h : 0 < n) : Tq n n 0 := ⟨h, Nat.le_refl _, fun q _ hl => by omega, fun _ _ _ => rfl⟩
theorem pwTo_skip {n a : Nat} : ∀ {k : Nat}, (∀ q, isP q = true → a ≤ q → q < a + k → ¬ n % q = 0) → pwTo n (a + k) = pwTo n a
  | 0, _ => rfl
  | k + 1, h => by
    rw [← Nat.add_assoc, pwTo_succ, if_neg, List.append_nil, pwTo_skip fun q hq h1 h2 => h q hq h1 (by omega)]
    intro e
    unfold pq at e
    rw [Bool.and_eq_true, decide_eq_true_eq] at e
    exact h (a + k) e.1 (by omega) (by omega) e.2
theorem Tq.next {n l a p : Nat} (t : Tq n l a) (hp : isP p = true) (hd : p ∣ l) (hl : ∀ q, isP q = true → q < p → ¬ q ∣ l) : Tq n (wo p l) (p + 1) ∧ pwTo n (p + 1) = pwTo n a ++ [(p, vl p l)] := by
  have p2 := two_le hp
  have hn : 0 < n := Nat.lt_of_lt_of_le t.pos t.le
  have hap : a ≤ p := by
    false_or_by_contra
    exact t.low p hp (by omega) hd
  refine ⟨⟨wo_pos p2 t.pos, Nat.le_trans (Nat.le_of_dvd t.pos (wo_dvd p2)) t.le, fun q hq hlt d => ?_, fun q hq hge => ?_⟩, ?_⟩
  · by_cases e : q = p
    · subst e; exact wo_not p2 t.pos d
    · exact hl q hq (by omega) (Nat.dvd_trans d (wo_dvd p2))
  · rw [← t.great q hq (by omega)]
    exact vl_div_pow hp hq (by omega) _ l t.pos (vl_pow_dvd p2 l)
  · have hv := t.great p hp hap
    have hpos : 0 < vl p l := (vl_pos p2 t.pos).mpr (Nat.mod_eq_zero_of_dvd hd)
    have hnp : n % p = 0 := (vl_pos p2 hn).mp (by omega)
    obtain ⟨k, rfl⟩ : ∃ k, p = a + k := ⟨p - a, by omega⟩
    rw [pwTo_succ, if_pos, hv, pwTo_skip]
    · intro q hq h1 h2 h3
      have := (vl_pos (two_le hq) hn).mpr h3
      rw [← t.great q hq h1, vl_pos (two_le hq) t.pos] at this
      exact hl q hq (by omega) (Nat.dvd_of_mod_eq_zero this)
    · unfold pq
      rw [hp, hnp]
      rfl
theorem Tq.stop {n a : Nat} (t : Tq n 1 a) : pw n = pwTo n a := by
  have hn : 0 < n := Nat.lt_of_lt_of_le t.pos t.le
  have hno : ∀ q, isP q = true → a ≤ q → ¬ n % q = 0 := fun q hq h1 h3 => by
    have := (vl_pos (two_le hq) hn).mpr h3
    rw [← t.great q hq h1, vl_pos (two_le hq) (by omega)] at this
    have := two_le hq
    rw [Nat.mod_eq_of_lt (by omega)] at *
    omega
  rw [pw_eq]
  by_cases h : a ≤ n + 1
  · obtain ⟨k, hk⟩ : ∃ k, n + 1 = a + k := ⟨n + 1 - a, by omega⟩
    rw [hk]
    exact pwTo_skip fun q hq h1 _ => hno q hq h1
  · obtain ⟨k, hk⟩ : ∃ k, a = n + 1 + k := ⟨a - (n + 1), by omega⟩
    rw [hk]
    refine (pwTo_skip fun q hq h1 h2 h3 => ?_).symm
    have := Nat.le_of_dvd hn (Nat.dvd_of_mod_eq_zero h3)
    omega
/-- counts, sums by powers -/
theorem dstep_len (fs : List Nat) (x : Nat × Nat) : (dstep fs x).length = (x.2 + 1) * fs.length := by
  unfold dstep
  have : ∀ t, ((List.range t).flatMap fun t => fs.map fun y => y * x.1 ^ t).length = t * fs.length := fun t => by
    induction t with
    | zero => simp
    | succ t ih => rw [List.range_succ, List.flatMap_append, List.length_append, ih, Nat.succ_mul]; simp
  exact this _
def part (p : Nat) : Nat → Int
  | 0 => 1
  | k + 1 => part p k * (p : Int) + 1
def sumN (fs : List Nat) : Int := (fs.map fun d : Nat => (d : Int)).sum
theorem sumN_append (xs ys : List Nat) : sumN (xs ++ ys) = sumN xs + sumN ys := by
  unfold sumN
  rw [List.map_append, List.sum_append]
theorem sumN_mul (c : Nat) : ∀ fs : List Nat, sumN (fs.map fun y => y * c) = sumN fs * (c : Int)
  | [] => by simp [sumN]
  | x :: fs => by
    have e : sumN ((x :: fs).map fun y => y * c) = ((x * c : Nat) : Int) + sumN (fs.map fun y => y * c) := by
      unfold sumN
      rw [List.map_cons, List.map_cons, List.sum_cons]
    have e2 : sumN (x :: fs) = (x : Int) + sumN fs := by
      unfold sumN
      rw [List.map_cons, List.sum_cons]
    rw [e, e2, sumN_mul c fs, Int.natCast_mul, Int.add_mul]
theorem part_sum (p : Nat) : ∀ k : Nat, part p (k + 1) = part p k + ((p ^ (k + 1) : Nat) : Int)
  | 0 => by simp [part]; omega
  | k + 1 => by
    have e1 : part p (k + 1 + 1) = part p (k + 1) * (p : Int) + 1 := rfl
    have e2 : part p (k + 1) = part p k * (p : Int) + 1 := rfl
    have ih := part_sum p k
    have e3 : ((p ^ (k + 1 + 1) : Nat) : Int) = ((p ^ (k + 1) : Nat) : Int) * (p : Int) := by rw [Nat.pow_succ, Int.natCast_mul]
    have e4 : part p (k + 1) * (p : Int) = part p k * (p : Int) + ((p ^ (k + 1) : Nat) : Int) * (p : Int) := by rw [ih, Int.add_mul]
    rw [e1, e3]
    omega
theorem dstep_sum (fs : List Nat) (x : Nat × Nat) : sumN (dstep fs x) = sumN fs * part x.1 x.2 := by
  unfold dstep
  have : ∀ t, sumN ((List.range (t + 1)).flatMap fun t => fs.map fun y => y * x.1 ^ t) = sumN fs * part x.1 t := fun t => by
    induction t with
    | zero => simp [part]
    | succ t ih =>
      rw [List.range_succ, List.flatMap_append, sumN_append, ih, part_sum, Int.mul_add]
      congr 1
      have := sumN_mul (x.1 ^ (t + 1)) fs
      simpa using this
  exact this _
theorem dvs_len : ∀ (ps : List (Nat × Nat)) (fs : List Nat), (((ps.foldl dstep fs).length : Nat) : Int) = ps.foldl (fun w x => w * ((x.2 : Int) + 1)) ((fs.length : Nat) : Int)
  | [], _ => rfl
  | x :: ps, fs => by
    rw [List.foldl_cons, List.foldl_cons, dvs_len ps, dstep_len]
    congr 1
    rw [Int.natCast_mul, Int.mul_comm]
    rfl
theorem dvs_sum : ∀ (ps : List (Nat × Nat)) (fs : List Nat), sumN (ps.foldl dstep fs) = ps.foldl (fun w x => w * part x.1 x.2) (sumN fs)
  | [], _ => rfl
  | x :: ps, fs => by rw [List.foldl_cons, List.foldl_cons, dvs_sum ps, dstep_sum]
def countP' (n : Nat) : Int := (pw n).foldl (fun w x => w * ((x.2 : Int) + 1)) 1
def sumP' (n : Nat) : Int := (pw n).foldl (fun w x => w * part x.1 x.2) 1
theorem countP'_tau {n : Nat} (h : 0 < n) : countP' n = tau n := by
  rw [tau_divs, ← ((Dl.dvs h).perm (Dl.divs h)).length_eq]
  exact (dvs_len (pw n) [1]).symm
theorem sumN_perm {xs ys : List Nat} (h : xs.Perm ys) : sumN xs = sumN ys := by
  unfold sumN
  induction h with
  | nil => rfl
  | cons x _ ih => rw [List.map_cons, List.map_cons, List.sum_cons, List.sum_cons, ih]
  | swap x y l => rw [List.map_cons, List.map_cons, List.map_cons, List.map_cons, List.sum_cons, List.sum_cons, List.sum_cons, List.sum_cons]; omega
  | trans _ _ h1 h2 => rw [h1, h2]
theorem sumP'_sig {n : Nat} (h : 0 < n) : sumP' n = sig n := by
  rw [sig_divs]
  have e := sumN_perm ((Dl.dvs h).perm (Dl.divs h))
  unfold sumN at e
  rw [← e]
  exact (dvs_sum (pw n) [1]).symm
end NT
namespace NT
/-- the stretches from f on (k: more than enough) -/
def blk (n : Nat) : Nat → Nat → List (Nat × Nat × Nat)
  | 0, _ => []
  | k + 1, f => if f ≤ n then (f, n / (n / f), n / f) :: blk n k (n / (n / f) + 1) else []
end NT
namespace NT
/-- what the sieve of least primes holds before its turn at K -/
def ldz (K j : Nat) : Nat := if j = 0 then 0 else ld j K
theorem ldz_two (j : Nat) : ldz 2 j = j := by
  unfold ldz
  by_cases h : j = 0
  · rw [if_pos h, h]
  · rw [if_neg h, ld_two]
theorem ldz_turn {K : Nat} (hK : 2 ≤ K) (j : Nat) : ldz (K + 1) j = if ldz K K = K ∧ j % K = 0 ∧ 2 * K ≤ j then min (ldz K j) K else ldz K j := by
  unfold ldz
  by_cases h : j = 0
  · subst h
    rw [if_pos rfl, if_neg (fun q => by have := q.2.2; omega), if_pos rfl]
  · rw [if_neg h, if_neg h, if_neg (show ¬ K = 0 by omega), ld_turn hK j (by omega)]
theorem part_bd {p : Nat} (hp : 2 ≤ p) : ∀ k : Nat, 0 ≤ part p k ∧ part p k + 1 ≤ ((2 * p ^ k : Nat) : Int)
  | 0 => by
    have : part p 0 = 1 := rfl
    rw [this, Nat.pow_zero]
    omega
  | k + 1 => by
    obtain ⟨h1, h2⟩ := part_bd hp k
    have e : part p (k + 1) = part p k * (p : Int) + 1 := rfl
    have e2 : ((2 * p ^ (k + 1) : Nat) : Int) = ((2 * p ^ k : Nat) : Int) * (p : Int) := by rw [Nat.pow_succ, ← Nat.mul_assoc, Int.natCast_mul]
    have h3 : (part p k + 1) * (p : Int) ≤ ((2 * p ^ k : Nat) : Int) * (p : Int) := Int.mul_le_mul_of_nonneg_right h2 (by omega)
    have h4 : 0 ≤ part p k * (p : Int) := Int.mul_nonneg h1 (by omega)
    rw [Int.add_mul, Int.one_mul] at h3
    rw [e, e2]
    omega
theorem pw_small {n : Nat} (hn : 0 < n) {x : Nat × Nat} (h : x ∈ pw n) : 2 ≤ x.1 ∧ x.1 ≤ n ∧ x.2 ≤ n ∧ x.1 ^ x.2 ≤ n ∧ 1 ≤ x.2 := by
  obtain ⟨h1, h2, h3⟩ := pw_mem h
  have p2 := two_le h1
  have hd : x.1 ^ x.2 ∣ n := by rw [h3]; exact vl_pow_dvd p2 n
  have hle := Nat.le_of_dvd hn hd
  have h4 : x.2 < 2 ^ x.2 := Nat.lt_two_pow_self
  have h5 := Nat.pow_le_pow_left p2 x.2
  have h6 := (vl_pos p2 hn).mpr h2
  exact ⟨p2, Nat.le_of_dvd hn (Nat.dvd_of_mod_eq_zero h2), by omega, hle, by omega⟩
end NT
/-! Signs by a sieve; numbers without squares: plain. -/
namespace NT
/-- the sign by the primes below K -/
def ms : Nat → Nat → Int
  | 0, _ => 1
  | K + 1, j => if isP K = true then (if j % (K * K) = 0 then 0 else if j % K = 0 then 0 - ms K j else ms K j) else ms K j
def msP (K j : Nat) : Int := if (pwTo j K).any (fun x => decide (1 < x.2)) = true then 0 else if (pwTo j K).length % 2 = 0 then 1 else -1
theorem ms_eq {j : Nat} (hj : 0 < j) : ∀ K : Nat, ms K j = msP K j
  | 0 => rfl
  | K + 1 => by
    have ih := ms_eq hj K
    rw [ms, ih]
    unfold msP
    rw [pwTo_succ]
    cases hp : isP K with
    | false =>
      have hq : pq j K = false := by unfold pq; rw [hp]; rfl
      have e : (if pq j K = true then [(K, vl K j)] else []) = [] := if_neg (by rw [hq]; exact Bool.false_ne_true)
      rw [e, List.append_nil, if_neg Bool.false_ne_true]
    | true =>
      have p2 := two_le hp
      by_cases d : j % K = 0
      · have hq : pq j K = true := by unfold pq; rw [hp, d]; rfl
        have hsq : j % (K * K) = 0 ↔ 1 < vl K j := by
          have := vl_dvd p2 2 j hj
          rw [Nat.pow_succ, Nat.pow_one] at this
          constructor
          · intro h; have := this.mp (Nat.dvd_of_mod_eq_zero h); omega
          · intro h; exact Nat.mod_eq_zero_of_dvd (this.mpr h)
        rw [if_pos rfl, if_pos hq, List.any_append, List.length_append]
        by_cases h2 : j % (K * K) = 0
        · rw [if_pos h2]
          have := hsq.mp h2
          simp [this]
        · rw [if_neg h2, if_pos d]
          have h1 : ¬ 1 < vl K j := fun q => h2 (hsq.mpr q)
          have e1 : ([(K, vl K j)].any fun x => decide (1 < x.2)) = false := by simp; omega
          rw [e1, Bool.or_false]
          by_cases ha : (pwTo j K).any (fun x => decide (1 < x.2)) = true
          · rw [if_pos ha, if_pos ha]; rfl
          · rw [if_neg ha, if_neg ha]
            show 0 - (if (pwTo j K).length % 2 = 0 then (1 : Int) else -1) = if ((pwTo j K).length + 1) % 2 = 0 then 1 else -1
            by_cases he : (pwTo j K).length % 2 = 0
            · rw [if_pos he, if_neg (by omega)]; rfl
            · rw [if_neg he, if_pos (by omega)]; rfl
      · have hq : pq j K = false := by unfold pq; rw [decide_eq_false d, Bool.and_false]
        have h2 : ¬ j % (K * K) = 0 := fun h => d (Nat.mod_eq_zero_of_dvd (Nat.dvd_trans (Nat.dvd_mul_right K K) (Nat.dvd_of_mod_eq_zero h)))
        have e : (if pq j K = true then [(K, vl K j)] else []) = [] := if_neg (by rw [hq]; exact Bool.false_ne_true)
        rw [e, List.append_nil, if_pos rfl, if_neg h2, if_neg d]
theorem ms_mu {j N : Nat} (hj : 0 < j) (hN : j ≤ N) : ms (N + 1) j = mu j := by
  rw [ms_eq hj]
  have e : pwTo j (N + 1) = pw j := by
    rw [pw_eq]
    obtain ⟨k, rfl⟩ : ∃ k, N = j + k := ⟨N - j, by omega⟩
    rw [show j + k + 1 = j + 1 + k by omega]
    refine pwTo_skip fun q hq h1 h2 h3 => ?_
    have := Nat.le_of_dvd hj (Nat.dvd_of_mod_eq_zero h3)
    omega
  unfold msP mu sq
  rw [e]
/-- no square goes in -/
def sqf (n : Nat) : Int := if sq n = true then 0 else 1
/-- each number is a square times one without squares -/
theorem sq_part : ∀ {k : Nat}, 0 < k → ∃ a b, k = a * a * b ∧ 0 < a ∧ 0 < b ∧ sq b = false := by
  intro k
  induction k using Nat.strongRecOn with
  | _ k ih =>
    intro hk
    cases h : sq k with
    | false => exact ⟨1, k, by omega, by omega, hk, h⟩
    | true =>
      obtain ⟨q, hq, c, hc⟩ := (sq_iff hk).mp h
      have q2 := two_le hq
      have c0 : 0 < c := Nat.pos_of_ne_zero fun e => by subst e; omega
      have hlt : c < k := by
        have h1 : 2 * 2 ≤ q * q := Nat.mul_le_mul q2 q2
        have h2 := Nat.mul_le_mul_right c h1
        rw [hc]
        omega
      obtain ⟨a, b, e, a0, b0, hb⟩ := ih c hlt c0
      refine ⟨q * a, b, ?_, Nat.mul_pos (by omega) a0, b0, hb⟩
      rw [hc, e]
      simp only [Nat.mul_assoc, Nat.mul_left_comm]
theorem sq_dvd {a b d : Nat} (a0 : 0 < a) (b0 : 0 < b) (hb : sq b = false) (d0 : 0 < d) : d * d ∣ a * a * b ↔ d ∣ a := by
  constructor
  · intro h
    have g0 : 0 < Nat.gcd d a := Nat.gcd_pos_of_pos_left a d0
    obtain ⟨d', hd'⟩ := Nat.gcd_dvd_left d a
    obtain ⟨a', ha'⟩ := Nat.gcd_dvd_right d a
    have hcop : Nat.Coprime d' a' := by
      have := Nat.gcd_mul_left (Nat.gcd d a) d' a'
      rw [← hd', ← ha'] at this
      exact Nat.eq_of_mul_eq_mul_left g0 (by rw [Nat.mul_one]; exact this.symm)
    generalize Nat.gcd d a = g at *
    rw [hd', ha'] at h
    have e1 : g * d' * (g * d') = g * g * (d' * d') := by simp only [Nat.mul_assoc, Nat.mul_left_comm]
    have e2 : g * a' * (g * a') * b = g * g * (a' * a' * b) := by simp only [Nat.mul_assoc, Nat.mul_left_comm]
    rw [e1, e2] at h
    have h2 := Nat.dvd_of_mul_dvd_mul_left (Nat.mul_pos g0 g0) h
    have hc2 : Nat.Coprime (d' * d') (a' * a') := Nat.Coprime.mul_left (Nat.Coprime.mul_right hcop hcop) (Nat.Coprime.mul_right hcop hcop)
    have h3 := hc2.dvd_of_dvd_mul_left h2
    have hd1 : d' = 1 := by
      false_or_by_contra
      have d'0 : 0 < d' := Nat.pos_of_ne_zero fun e => by subst e; omega
      obtain ⟨q, hq, qd⟩ := prime_in (show 2 ≤ d' by omega)
      have : sq b = true := (sq_iff b0).mpr ⟨q, hq, Nat.dvd_trans (Nat.mul_dvd_mul qd qd) h3⟩
      rw [hb] at this
      cases this
    rw [hd', ha', hd1, Nat.mul_one]
    exact Nat.dvd_mul_right _ _
  · rintro ⟨c, rfl⟩
    exact ⟨c * c * b, by simp only [Nat.mul_assoc, Nat.mul_left_comm]⟩
/-- signs over the squares that go in -/
theorem sqf_sum {k N : Nat} (hk : 0 < k) (hN : k ≤ N) : sm (fun i => if k % ((i + 1) * (i + 1)) = 0 then mu (i + 1) else 0) N = sqf k := by
  obtain ⟨a, b, e, a0, b0, hb⟩ := sq_part hk
  have haN : a ≤ N := by
    have h1 : a ≤ a * a := Nat.le_mul_self a
    have h2 : a * a ≤ a * a * b := Nat.le_mul_of_pos_right _ b0
    omega
  have e1 : sm (fun i => if k % ((i + 1) * (i + 1)) = 0 then mu (i + 1) else 0) N = dir mu ones a := by
    rw [← dir_to a0 haN]
    refine sm_congr fun i _ => ?_
    have hiff : k % ((i + 1) * (i + 1)) = 0 ↔ a % (i + 1) = 0 := by
      have := sq_dvd a0 b0 hb (show 0 < i + 1 by omega)
      rw [← e] at this
      exact ⟨fun h => Nat.mod_eq_zero_of_dvd (this.mp (Nat.dvd_of_mod_eq_zero h)), fun h => Nat.mod_eq_zero_of_dvd (this.mpr (Nat.dvd_of_mod_eq_zero h))⟩
    by_cases h : a % (i + 1) = 0
    · rw [if_pos (hiff.mpr h), if_pos h]; simp [ones]
    · rw [if_neg (fun q => h (hiff.mp q)), if_neg h]
  rw [e1, mu_sum a0]
  unfold one1 sqf
  by_cases h1 : a = 1
  · rw [if_pos h1]
    have : k = b := by rw [e, h1]; omega
    rw [this, hb]
    rfl
  · rw [if_neg h1, if_pos]
    rw [sq_iff hk]
    obtain ⟨q, hq, qd⟩ := prime_in (show 2 ≤ a by omega)
    exact ⟨q, hq, by rw [e]; exact Nat.dvd_trans (Nat.mul_dvd_mul qd qd) (Nat.dvd_mul_right _ _)⟩
/-- how many to a number -/
def sqfS (n : Nat) : Int := sm (fun j => sqf (j + 1)) n
theorem sqfS_signs {n N : Nat} (hN : n < (N + 1) * (N + 1)) : sqfS n = sm (fun i => mu (i + 1) * ((n / ((i + 1) * (i + 1)) : Nat) : Int)) N := by
  have e0 : sqfS n = sm (fun j => sm (fun i => if (j + 1) % ((i + 1) * (i + 1)) = 0 then mu (i + 1) else 0) (n + N)) n := sm_congr fun j hj => (sqf_sum (by omega) (by omega)).symm
  have e1 : sm (fun j => sm (fun i => if (j + 1) % ((i + 1) * (i + 1)) = 0 then mu (i + 1) else 0) (n + N)) n = sm (fun i => sm (fun j => if (j + 1) % ((i + 1) * (i + 1)) = 0 then mu (i + 1) else 0) n) (n + N) := sm_swap _ _ _
  have e2 : ∀ i, i < n + N → sm (fun j => if (j + 1) % ((i + 1) * (i + 1)) = 0 then mu (i + 1) else 0) n = mu (i + 1) * ((n / ((i + 1) * (i + 1)) : Nat) : Int) := fun i _ => by
    have hs : 0 < (i + 1) * (i + 1) := Nat.mul_pos (by omega) (by omega)
    generalize (i + 1) * (i + 1) = s at *
    generalize mu (i + 1) = x
    have : ∀ m : Nat, sm (fun j => if (j + 1) % s = 0 then x else 0) m = x * ((m / s : Nat) : Int) := fun m => by
      induction m with
      | zero => rw [sm, Nat.zero_div]; simp
      | succ m ih =>
        rw [sm, ih, Nat.succ_div]
        by_cases d : s ∣ m + 1
        · rw [if_pos d, if_pos (Nat.mod_eq_zero_of_dvd d), Int.natCast_add, Int.mul_add]; simp
        · rw [if_neg d, if_neg (fun q => d (Nat.dvd_of_mod_eq_zero q))]; simp
    exact this n
  rw [e0, e1, sm_congr e2, Nat.add_comm]
  refine sm_ext fun i h1 h2 => ?_
  have : (N + 1) * (N + 1) ≤ (i + 1) * (i + 1) := Nat.mul_le_mul (by omega) (by omega)
  rw [Nat.div_eq_of_lt (by omega)]
  simp
/-- squares parted by what is left -/
theorem sqfS_squares {n r : Nat} (h1 : r * r ≤ n) (h2 : n < (r + 1) * (r + 1)) : sm (fun s => sqfS (n / ((s + 1) * (s + 1)))) r = (n : Int) := by
  have e1 : ∀ s, s < r → sqfS (n / ((s + 1) * (s + 1))) = sm (fun i => mu (i + 1) * ((n / (((s + 1) * (i + 1)) * ((s + 1) * (i + 1))) : Nat) : Int)) r := fun s hs => by
    have hb : n / ((s + 1) * (s + 1)) < (r + 1) * (r + 1) := Nat.lt_of_le_of_lt (Nat.div_le_self _ _) h2
    rw [sqfS_signs hb]
    refine sm_congr fun i _ => ?_
    have e : (s + 1) * (s + 1) * ((i + 1) * (i + 1)) = (s + 1) * (i + 1) * ((s + 1) * (i + 1)) := by
      generalize s + 1 = a
      generalize i + 1 = b
      rw [Nat.mul_assoc, Nat.mul_assoc, Nat.mul_left_comm a b b]
    rw [Nat.div_div_eq_div_mul, e]
  have e2 : sm (fun s => sm (fun i => mu (i + 1) * ((n / (((s + 1) * (i + 1)) * ((s + 1) * (i + 1))) : Nat) : Int)) r) r = sm (fun s => sm (fun i => sm (fun t => if (s + 1) * (i + 1) = t + 1 then mu (i + 1) * ((n / ((t + 1) * (t + 1)) : Nat) : Int) else 0) (r * r + 1)) r) r := sm_congr fun s hs => sm_congr fun i hi => by
    have hst : (s + 1) * (i + 1) ≤ r * r := Nat.mul_le_mul (by omega) (by omega)
    have hp : 0 < (s + 1) * (i + 1) := Nat.mul_pos (by omega) (by omega)
    rw [sm_single (k := (s + 1) * (i + 1) - 1) (by omega), show (s + 1) * (i + 1) - 1 + 1 = (s + 1) * (i + 1) by omega, if_pos rfl]
    intro t _ ht
    rw [if_neg]
    omega
  have e3 : sm (fun s => sm (fun i => sm (fun t => if (s + 1) * (i + 1) = t + 1 then mu (i + 1) * ((n / ((t + 1) * (t + 1)) : Nat) : Int) else 0) (r * r + 1)) r) r = sm (fun t => sm (fun s => sm (fun i => if (s + 1) * (i + 1) = t + 1 then mu (i + 1) * ((n / ((t + 1) * (t + 1)) : Nat) : Int) else 0) r) r) (r * r + 1) := by
    rw [sm_congr fun s _ => sm_swap _ _ _, sm_swap]
  have e4 : ∀ t, t < r * r + 1 → sm (fun s => sm (fun i => if (s + 1) * (i + 1) = t + 1 then mu (i + 1) * ((n / ((t + 1) * (t + 1)) : Nat) : Int) else 0) r) r = if t = 0 then (n : Int) else 0 := fun t _ => by
    by_cases ht : t + 1 ≤ r
    · have hd := dir_dd (f := ones) (g := mu) (n := t + 1) (N := r) (by omega) ht
      rw [dir_comm _ _ (by omega), mu_sum (by omega)] at hd
      have e5 : sm (fun s => sm (fun i => if (s + 1) * (i + 1) = t + 1 then mu (i + 1) * ((n / ((t + 1) * (t + 1)) : Nat) : Int) else 0) r) r = sm (fun s => sm (fun i => if (s + 1) * (i + 1) = t + 1 then ones (s + 1) * mu (i + 1) else 0) r) r * ((n / ((t + 1) * (t + 1)) : Nat) : Int) := by
        rw [← sm_mulr]
        refine sm_congr fun s _ => ?_
        rw [← sm_mulr]
        refine sm_congr fun i _ => ?_
        by_cases h : (s + 1) * (i + 1) = t + 1
        · rw [if_pos h, if_pos h]; simp [ones]
        · rw [if_neg h, if_neg h]; simp
      rw [e5, ← hd]
      unfold one1
      by_cases h0 : t = 0
      · subst h0
        rw [if_pos rfl, if_pos rfl]
        simp
      · rw [if_neg (by omega), if_neg h0]; simp
    · have hlt : n < (t + 1) * (t + 1) := Nat.lt_of_lt_of_le h2 (Nat.mul_le_mul (by omega) (by omega))
      rw [Nat.div_eq_of_lt hlt]
      by_cases h0 : t = 0
      · subst h0
        have : r = 0 := by omega
        subst this
        rw [if_pos rfl]
        have : n = 0 := by omega
        subst this
        rfl
      · rw [if_neg h0]
        exact sm_none fun s _ => sm_none fun i _ => by split <;> simp
  rw [sm_congr e1, e2, e3, sm_congr e4, sm_single (f := fun t => if t = 0 then (n : Int) else 0) (k := 0) (by omega) fun i _ hi => if_neg hi]
  rfl
def muS (n : Nat) : Int := sm (fun j => mu (j + 1)) n
end NT
/-! Share-free counts, by powers and by signs: plain. -/
namespace NT
theorem mem_pw {n : Nat} (hn : 0 < n) (x : Nat × Nat) : x ∈ pw n ↔ isP x.1 = true ∧ n % x.1 = 0 ∧ x.2 = vl x.1 n := by
  constructor
  · exact fun h => pw_mem h
  · rintro ⟨h1, h2, h3⟩
    unfold pw
    rw [List.mem_map]
    refine ⟨x.1, ?_, by rw [← h3]⟩
    rw [List.mem_filter, List.mem_range, Bool.and_eq_true, decide_eq_true_eq]
    exact ⟨by have := Nat.le_of_dvd hn (Nat.dvd_of_mod_eq_zero h2); omega, h1, h2⟩
theorem vl_cop {q a b : Nat} (hq : isP q = true) (a0 : 0 < a) (b0 : 0 < b) (h : ¬ q ∣ b) : vl q (a * b) = vl q a := by
  refine vl_congr (two_le hq) (Nat.mul_pos a0 b0) a0 fun k => ⟨fun d => ?_, fun d => Nat.dvd_trans d (Nat.dvd_mul_right _ _)⟩
  have hc : Nat.Coprime (q ^ k) b := Nat.Coprime.pow_left k (prime_cop hq h)
  exact hc.dvd_of_dvd_mul_right d
theorem pw_nodup (n : Nat) : (pw n).Nodup := List.Pairwise.imp (fun {a b} h e => by rw [e] at h; omega) (pw_rising n)
theorem pw_mul {a b : Nat} (a0 : 0 < a) (b0 : 0 < b) (h : Nat.Coprime a b) : (pw (a * b)).Perm (pw a ++ pw b) := by
  have no : ∀ q, isP q = true → q ∣ a → q ∣ b → False := fun q hq h1 h2 => by
    have := Nat.dvd_gcd h1 h2
    rw [show Nat.gcd a b = 1 from h] at this
    have := two_le hq
    have := Nat.le_of_dvd (by omega) ‹q ∣ 1›
    omega
  refine (List.perm_ext_iff_of_nodup (pw_nodup _) ?_).mpr fun x => ?_
  · show List.Pairwise _ _
    rw [List.pairwise_append]
    refine ⟨pw_nodup a, pw_nodup b, fun x hx y hy e => ?_⟩
    subst e
    obtain ⟨h1, h2, _⟩ := (mem_pw a0 x).mp hx
    obtain ⟨_, h3, _⟩ := (mem_pw b0 x).mp hy
    exact no x.1 h1 (Nat.dvd_of_mod_eq_zero h2) (Nat.dvd_of_mod_eq_zero h3)
  · rw [List.mem_append, mem_pw (Nat.mul_pos a0 b0), mem_pw a0, mem_pw b0]
    constructor
    · rintro ⟨h1, h2, h3⟩
      rcases prime_mul h1 (Nat.dvd_of_mod_eq_zero h2) with d | d
      · exact .inl ⟨h1, Nat.mod_eq_zero_of_dvd d, by rw [h3, vl_cop h1 a0 b0 fun z => no _ h1 d z]⟩
      · exact .inr ⟨h1, Nat.mod_eq_zero_of_dvd d, by rw [h3, Nat.mul_comm, vl_cop h1 b0 a0 fun z => no _ h1 z d]⟩
    · rintro (⟨h1, h2, h3⟩ | ⟨h1, h2, h3⟩)
      · have d := Nat.dvd_of_mod_eq_zero h2
        exact ⟨h1, Nat.mod_eq_zero_of_dvd (Nat.dvd_trans d (Nat.dvd_mul_right _ _)), by rw [h3, vl_cop h1 a0 b0 fun z => no _ h1 d z]⟩
      · have d := Nat.dvd_of_mod_eq_zero h2
        exact ⟨h1, Nat.mod_eq_zero_of_dvd (Nat.dvd_trans d (Nat.dvd_mul_left _ _)), by rw [h3, Nat.mul_comm, vl_cop h1 b0 a0 fun z => no _ h1 z d]⟩
theorem vl_self {p k : Nat} (hp : 2 ≤ p) : vl p (p ^ k) = k := vl_eq hp (Nat.pow_pos (by omega)) (Nat.dvd_refl _) fun d => by
  have := Nat.le_of_dvd (Nat.pow_pos (by omega)) d
  have := Nat.pow_lt_pow_right (show 1 < p by omega) (show k < k + 1 by omega)
  omega
theorem pw_pow {p k : Nat} (hp : isP p = true) (hk : 0 < k) : (pw (p ^ k)).Perm [(p, k)] := by
  have p2 := two_le hp
  have pk : 0 < p ^ k := Nat.pow_pos (by omega)
  refine (List.perm_ext_iff_of_nodup (pw_nodup _) (by simp)).mpr fun x => ?_
  rw [mem_pw pk, List.mem_singleton]
  constructor
  · rintro ⟨h1, h2, h3⟩
    have e : x.1 = p := by
      false_or_by_contra
      rename_i hne
      have hc := pow_cop h1 hp hne k
      have d := Nat.dvd_of_mod_eq_zero h2
      have hg : Nat.gcd (p ^ k) x.1 = x.1 := Nat.gcd_eq_right d
      rw [show Nat.gcd (p ^ k) x.1 = 1 from hc] at hg
      have := two_le h1
      omega
    rw [e, vl_self p2] at h3
    exact Prod.ext e h3
  · rintro rfl
    refine ⟨hp, Nat.mod_eq_zero_of_dvd (Nat.dvd_trans (by rw [Nat.pow_one]; exact Nat.dvd_refl p) (Nat.pow_dvd_pow p hk)), (vl_self p2).symm⟩
/-- products over powers -/
def mulL (f : Nat × Nat → Int) : List (Nat × Nat) → Int
  | [] => 1
  | x :: xs => f x * mulL f xs
theorem mulL_append (f : Nat × Nat → Int) : ∀ xs ys, mulL f (xs ++ ys) = mulL f xs * mulL f ys
  | [], ys => by simp [mulL]
  | x :: xs, ys => by simp [mulL, mulL_append f xs ys, Int.mul_assoc]
theorem mulL_perm (f : Nat × Nat → Int) {xs ys : List (Nat × Nat)} (h : xs.Perm ys) : mulL f xs = mulL f ys := by
  induction h with
  | nil => rfl
  | cons x _ ih => rw [mulL, mulL, ih]
  | swap x y l => rw [mulL, mulL, mulL, mulL, Int.mul_left_comm]
  | trans _ _ h1 h2 => rw [h1, h2]
theorem mulL_fold (f : Nat × Nat → Int) : ∀ (xs : List (Nat × Nat)) (w : Int), xs.foldl (fun w x => w * f x) w = w * mulL f xs
  | [], w => by simp [mulL]
  | x :: xs, w => by rw [List.foldl_cons, mulL_fold f xs, mulL, Int.mul_assoc]
/-- share-free counts -/
def phF (x : Nat × Nat) : Int := ((x.1 : Int) - 1) * ((x.1 ^ (x.2 - 1) : Nat) : Int)
def phi (n : Nat) : Int := mulL phF (pw n)
theorem phi_mul {a b : Nat} (a0 : 0 < a) (b0 : 0 < b) (h : Nat.Coprime a b) : phi (a * b) = phi a * phi b := by
  unfold phi
  rw [mulL_perm phF (pw_mul a0 b0 h), mulL_append]
theorem phi_one : phi 1 = 1 := by unfold phi; rw [pw_one]; rfl
theorem phi_pow {p k : Nat} (hp : isP p = true) : phi (p ^ (k + 1)) = ((p : Int) - 1) * ((p ^ k : Nat) : Int) := by
  unfold phi
  rw [mulL_perm phF (pw_pow hp (show 0 < k + 1 by omega))]
  show phF (p, k + 1) * 1 = _
  rw [Int.mul_one]
  rfl
/-- over all divisors: the number -/
def sumPh (fs : List Nat) : Int := (fs.map phi).sum
theorem sumPh_append (xs ys : List Nat) : sumPh (xs ++ ys) = sumPh xs + sumPh ys := by
  unfold sumPh
  rw [List.map_append, List.sum_append]
theorem sumPh_mul {c : Nat} (c0 : 0 < c) : ∀ {fs : List Nat}, (∀ y ∈ fs, 0 < y ∧ Nat.Coprime y c) → sumPh (fs.map fun y => y * c) = sumPh fs * phi c
  | [], _ => by simp [sumPh]
  | x :: fs, h => by
    have hx := h x (by simp)
    have e : sumPh ((x :: fs).map fun y => y * c) = phi (x * c) + sumPh (fs.map fun y => y * c) := by
      unfold sumPh
      rw [List.map_cons, List.map_cons, List.sum_cons]
    have e2 : sumPh (x :: fs) = phi x + sumPh fs := by
      unfold sumPh
      rw [List.map_cons, List.sum_cons]
    rw [e, e2, sumPh_mul c0 fun y hy => h y (List.mem_cons_of_mem _ hy), phi_mul hx.1 c0 hx.2, Int.add_mul]
theorem sumPh_step {fs : List Nat} {M p : Nat} (hM : 0 < M) (hp : isP p = true) (h : ¬ p ∣ M) (d : Dl fs M) (k : Nat) : sumPh (dstep fs (p, k)) = sumPh fs * ((p ^ k : Nat) : Int) := by
  have p2 := two_le hp
  have hc : ∀ t, ∀ y ∈ fs, 0 < y ∧ Nat.Coprime y (p ^ t) := fun t y hy => by
    have hy' := (d.mem y).mp hy
    refine ⟨Nat.pos_of_dvd_of_pos hy' hM, ?_⟩
    rw [Nat.coprime_comm]
    exact Nat.Coprime.pow_left t (prime_cop hp fun z => h (Nat.dvd_trans z hy'))
  unfold dstep
  have : ∀ t, sumPh ((List.range (t + 1)).flatMap fun t => fs.map fun y => y * p ^ t) = sumPh fs * ((p ^ t : Nat) : Int) := fun t => by
    induction t with
    | zero => simp
    | succ t ih =>
      have e : ((List.range (t + 1 + 1)).flatMap fun t => fs.map fun y => y * p ^ t) = ((List.range (t + 1)).flatMap fun t => fs.map fun y => y * p ^ t) ++ fs.map fun y => y * p ^ (t + 1) := by
        rw [List.range_succ, List.flatMap_append]
        simp
      have e4 : ((p ^ (t + 1) : Nat) : Int) = ((p ^ t : Nat) : Int) * (p : Int) := by rw [Nat.pow_succ, Int.natCast_mul]
      rw [e, sumPh_append, ih, sumPh_mul (Nat.pow_pos (by omega)) (hc (t + 1)), phi_pow hp, ← Int.mul_add, e4]
      congr 1
      rw [Int.sub_mul, Int.one_mul, Int.mul_comm (p : Int)]
      omega
  exact this k
theorem sumPh_fold : ∀ {ps : List (Nat × Nat)} {fs : List Nat} {M : Nat}, 0 < M → Pl M ps → Dl fs M → sumPh (ps.foldl dstep fs) = sumPh fs * ((prodP ps : Nat) : Int)
  | [], fs, M, _, _, d => by simp [prodP]
  | x :: xs, fs, M, hM, h, d => by
    obtain ⟨p, k⟩ := x
    have e : prodP ((p, k) :: xs) = p ^ k * prodP xs := rfl
    rw [List.foldl_cons, sumPh_fold (Nat.mul_pos hM (Nat.pow_pos (by have := two_le h.1; omega))) h.2.2 (Dl.step hM h.1 h.2.1 d), sumPh_step hM h.1 h.2.1 d k, e, Int.natCast_mul, Int.mul_assoc]
theorem sumPh_perm {xs ys : List Nat} (h : xs.Perm ys) : sumPh xs = sumPh ys := by
  unfold sumPh
  induction h with
  | nil => rfl
  | cons x _ ih => rw [List.map_cons, List.map_cons, List.sum_cons, List.sum_cons, ih]
  | swap x y l => rw [List.map_cons, List.map_cons, List.map_cons, List.map_cons, List.sum_cons, List.sum_cons, List.sum_cons, List.sum_cons]; omega
  | trans _ _ h1 h2 => rw [h1, h2]
def idN (n : Nat) : Int := (n : Int)
theorem phi_sum {n : Nat} (hn : 0 < n) : dir phi ones n = idN n := by
  have e1 : dir phi ones n = sumPh (divs n) := by
    unfold sumPh
    rw [divs_sum phi n]
    unfold dir
    refine sm_congr fun i _ => ?_
    by_cases d : n % (i + 1) = 0
    · rw [if_pos d, if_pos d]; simp [ones]
    · rw [if_neg d, if_neg d]
  rw [e1, ← sumPh_perm ((Dl.dvs hn).perm (Dl.divs hn))]
  have := sumPh_fold (show 0 < 1 by omega) (Pl.pw n) Dl.one
  rw [prod_pw hn] at this
  show sumPh ((pw n).foldl dstep [1]) = _
  rw [this]
  have e2 : sumPh [1] = 1 := by
    unfold sumPh
    simp [phi_one]
  rw [e2, Int.one_mul]
  rfl
theorem phi_signs {n : Nat} (hn : 0 < n) : phi n = dir mu idN n := by
  have e1 : dir phi one1 n = phi n := dir_one phi hn
  have e2 : dir phi one1 n = dir phi (dir ones mu) n := dir_congr hn (fun _ _ _ => rfl) fun i h1 _ => by rw [dir_comm _ _ h1, mu_sum h1]
  have e3 : dir (dir phi ones) mu n = dir idN mu n := dir_congr hn (fun i h1 _ => phi_sum h1) fun _ _ _ => rfl
  rw [← e1, e2, ← dir_assoc _ _ _ hn, e3, dir_comm _ _ hn]
def phiS (n : Nat) : Int := sm (fun j => phi (j + 1)) n
def cpl (n : Nat) : Int := sm (fun i => mu (i + 1) * ((n / (i + 1) : Nat) : Int) * ((n / (i + 1) : Nat) : Int)) n
theorem phiS_cpl {n : Nat} (hn : 1 ≤ n) : 2 * phiS n = cpl n + 1 := by
  have e0 : phiS n = sm (fun k => sm (fun i => if (k + 1) % (i + 1) = 0 then mu (i + 1) * idN ((k + 1) / (i + 1)) else 0) n) n := sm_congr fun k hk => by
    rw [phi_signs (by omega), dir_to (by omega) (by omega)]
  have e1 : ∀ i, i < n → 2 * sm (fun k => if (k + 1) % (i + 1) = 0 then mu (i + 1) * idN ((k + 1) / (i + 1)) else 0) n = mu (i + 1) * ((n / (i + 1) : Nat) : Int) * ((n / (i + 1) : Nat) : Int) + mu (i + 1) * ((n / (i + 1) : Nat) : Int) := fun i _ => by
    have hs : 0 < i + 1 := by omega
    generalize i + 1 = s at *
    generalize mu s = x
    have : ∀ m : Nat, 2 * sm (fun k => if (k + 1) % s = 0 then x * idN ((k + 1) / s) else 0) m = x * ((m / s : Nat) : Int) * ((m / s : Nat) : Int) + x * ((m / s : Nat) : Int) := fun m => by
      induction m with
      | zero => rw [sm, Nat.zero_div]; simp
      | succ m ih =>
        rw [sm, Int.mul_add, ih]
        by_cases d : s ∣ m + 1
        · have e : (m + 1) / s = m / s + 1 := by rw [Nat.succ_div, if_pos d]
          rw [if_pos (Nat.mod_eq_zero_of_dvd d), e]
          unfold idN
          have e2 : ((m / s + 1 : Nat) : Int) = ((m / s : Nat) : Int) + 1 := by omega
          rw [e2]
          generalize ((m / s : Nat) : Int) = q
          simp only [Int.mul_add, Int.add_mul, Int.mul_one, Int.one_mul]
          have e3 : 2 * (x * q) = x * q + x * q := by omega
          omega
        · have e : (m + 1) / s = m / s := by rw [Nat.succ_div, if_neg d]; rfl
          rw [if_neg (fun q => d (Nat.dvd_of_mod_eq_zero q)), e]
          omega
    exact this n
  rw [e0, sm_swap, ← sm_mul, sm_congr e1, sm_add]
  have e2 : sm (fun i => mu (i + 1) * ((n / (i + 1) : Nat) : Int)) n = 1 := blocks_signs hn (Nat.le_refl n)
  rw [e2]
  rfl
/-- sums of shares by powers -/
def shF (x : Nat × Nat) : Int := ((x.1 ^ (x.2 - 1) : Nat) : Int) * (((x.2 : Int) + 1) * (x.1 : Int) - (x.2 : Int))
def shs (n : Nat) : Int := mulL shF (pw n)
theorem shs_mul {a b : Nat} (a0 : 0 < a) (b0 : 0 < b) (h : Nat.Coprime a b) : shs (a * b) = shs a * shs b := by
  unfold shs
  rw [mulL_perm shF (pw_mul a0 b0 h), mulL_append]
/-- dividing on: the share-free count of the number of powers -/
theorem free_fold : ∀ (xs : List (Nat × Nat)) (A : Int), (∀ x ∈ xs, 2 ≤ x.1 ∧ 1 ≤ x.2) → xs.foldl (fun w x => w / (x.1 : Int) * ((x.1 : Int) - 1)) (A * ((prodP xs : Nat) : Int)) = A * mulL phF xs
  | [], A, _ => by simp [prodP, mulL]
  | x :: xs, A, h => by
    obtain ⟨p, k⟩ := x
    obtain ⟨h1, h2⟩ := h (p, k) (by simp)
    have h1 : 2 ≤ p := h1
    have h2 : 1 ≤ k := h2
    have e : prodP ((p, k) :: xs) = p ^ k * prodP xs := rfl
    have ek : p ^ k = p * p ^ (k - 1) := by
      obtain ⟨j, rfl⟩ : ∃ j, k = j + 1 := ⟨k - 1, by omega⟩
      rw [Nat.pow_succ, Nat.mul_comm, Nat.add_sub_cancel]
    have hd : A * ((prodP ((p, k) :: xs) : Nat) : Int) / (p : Int) = A * ((p ^ (k - 1) : Nat) : Int) * ((prodP xs : Nat) : Int) := by
      have : A * ((prodP ((p, k) :: xs) : Nat) : Int) = A * ((p ^ (k - 1) : Nat) : Int) * ((prodP xs : Nat) : Int) * (p : Int) := by
        rw [e, ek, Int.natCast_mul, Int.natCast_mul]
        simp only [Int.mul_assoc, Int.mul_left_comm, Int.mul_comm]
      rw [this, Int.mul_ediv_cancel _ (by omega)]
    have e3 : A * ((p ^ (k - 1) : Nat) : Int) * ((prodP xs : Nat) : Int) * ((p : Int) - 1) = (A * phF (p, k)) * ((prodP xs : Nat) : Int) := by
      unfold phF
      simp only [Int.mul_assoc, Int.mul_left_comm, Int.mul_comm]
    rw [List.foldl_cons]
    show xs.foldl _ (A * ((prodP ((p, k) :: xs) : Nat) : Int) / (p : Int) * ((p : Int) - 1)) = _
    rw [hd, e3, free_fold xs _ fun x hx => h x (List.mem_cons_of_mem _ hx), mulL, Int.mul_assoc]
/-- what the sieve holds before its turn at K -/
def restL (K j : Nat) : List (Nat × Nat) := ((List.range' K (j + 1 - K)).filter (pq j)).map fun q => (q, vl q j)
def fs (K j : Nat) : Int := mulL phF (pwTo j K) * ((prodP (restL K j) : Nat) : Int)
theorem restL_zero (j : Nat) : restL 0 j = pw j := by
  unfold restL pw
  rw [Nat.sub_zero, ← List.range_eq_range']
  rfl
theorem restL_succ {K j : Nat} (h : K ≤ j) : restL K j = (if pq j K = true then [(K, vl K j)] else []) ++ restL (K + 1) j := by
  unfold restL
  rw [show j + 1 - K = (j + 1 - (K + 1)) + 1 by omega, List.range'_succ, List.filter_cons]
  by_cases hp : pq j K = true
  · rw [if_pos hp, if_pos hp]; rfl
  · rw [if_neg hp, if_neg hp]; rfl
theorem fs_zero {j : Nat} (hj : 0 < j) : fs 0 j = (j : Int) := by
  unfold fs
  rw [restL_zero, prod_pw hj]
  show 1 * (j : Int) = _
  omega
theorem fs_succ {K j : Nat} (hj : 0 < j) : fs (K + 1) j = if isP K = true ∧ j % K = 0 then fs K j / (K : Int) * ((K : Int) - 1) else fs K j := by
  by_cases hK : K ≤ j
  · unfold fs
    rw [pwTo_succ, restL_succ hK]
    by_cases hp : isP K = true ∧ j % K = 0
    · have hq : pq j K = true := by unfold pq; rw [hp.1, hp.2]; rfl
      have p2 := two_le hp.1
      have hv : 0 < vl K j := (vl_pos p2 hj).mpr hp.2
      rw [if_pos hq, if_pos hp, mulL_append]
      have e1 : mulL phF [(K, vl K j)] = phF (K, vl K j) := Int.mul_one _
      have e2 : prodP ([(K, vl K j)] ++ restL (K + 1) j) = K ^ vl K j * prodP (restL (K + 1) j) := rfl
      rw [e1, e2]
      obtain ⟨v, hv2⟩ : ∃ v, vl K j = v + 1 := ⟨vl K j - 1, by omega⟩
      rw [hv2]
      have e3 : mulL phF (pwTo j K) * ((K ^ (v + 1) * prodP (restL (K + 1) j) : Nat) : Int) = mulL phF (pwTo j K) * ((K ^ v : Nat) : Int) * ((prodP (restL (K + 1) j) : Nat) : Int) * (K : Int) := by
        rw [Int.natCast_mul, Nat.pow_succ, Int.natCast_mul]
        simp only [Int.mul_assoc, Int.mul_left_comm, Int.mul_comm]
      rw [e3, Int.mul_ediv_cancel _ (by omega)]
      have e4 : phF (K, v + 1) = ((K : Int) - 1) * ((K ^ v : Nat) : Int) := rfl
      rw [e4]
      generalize mulL phF (pwTo j K) = A
      simp only [Int.mul_assoc, Int.mul_left_comm, Int.mul_comm]
    · have hq : ¬ pq j K = true := fun z => hp (by unfold pq at z; rw [Bool.and_eq_true, decide_eq_true_eq] at z; exact z)
      rw [if_neg hq, if_neg hp, List.append_nil, List.nil_append]
  · have hnd : ¬ (isP K = true ∧ j % K = 0) := fun z => by
      have := Nat.le_of_dvd hj (Nat.dvd_of_mod_eq_zero z.2)
      omega
    have hq : ¬ pq j K = true := fun z => hnd (by unfold pq at z; rw [Bool.and_eq_true, decide_eq_true_eq] at z; exact z)
    rw [if_neg hnd]
    unfold fs restL
    rw [pwTo_succ, if_neg hq, List.append_nil, show j + 1 - (K + 1) = 0 by omega, show j + 1 - K = 0 by omega]
    rfl
theorem fs_end {j N : Nat} (hj : 0 < j) (hN : j ≤ N) : fs (N + 1) j = phi j := by
  unfold fs phi restL
  rw [show j + 1 - (N + 1) = 0 by omega]
  have e : pwTo j (N + 1) = pw j := by
    rw [pw_eq]
    obtain ⟨k, rfl⟩ : ∃ k, N = j + k := ⟨N - j, by omega⟩
    rw [show j + k + 1 = j + 1 + k by omega]
    refine pwTo_skip fun q hq h1 h2 h3 => ?_
    have := Nat.le_of_dvd hj (Nat.dvd_of_mod_eq_zero h3)
    omega
  rw [e]
  show mulL phF (pw j) * 1 = _
  exact Int.mul_one _
end NT
/-! Divisors of shares, divisors turned about, primes by their divisors, plain. -/
namespace NT
theorem rising_eq {xs ys : List Nat} (hx : xs.Pairwise (· < ·)) (hy : ys.Pairwise (· < ·)) (h : ∀ a, a ∈ xs ↔ a ∈ ys) : xs = ys := by
  have hp : xs.Perm ys := (List.perm_ext_iff_of_nodup (hx.imp fun {a b} h e => by omega) (hy.imp fun {a b} h e => by omega)).mpr h
  refine hp.eq_of_pairwise (le := fun a b => a ≤ b) (fun a b _ _ h1 h2 => Nat.le_antisymm h1 h2) ?_ ?_
  · exact hx.imp fun {a b} h => Nat.le_of_lt h
  · exact hy.imp fun {a b} h => Nat.le_of_lt h
theorem divs_gcd {a b : Nat} (ha : 0 < a) (hb : 0 < b) : divs (Nat.gcd a b) = (divs a).filter fun d => decide (b % d = 0) := by
  refine rising_eq (divs_rising _) (List.Pairwise.filter _ (divs_rising _)) fun d => ?_
  rw [List.mem_filter, mem_divs (Nat.gcd_pos_of_pos_left _ ha), mem_divs ha, decide_eq_true_iff]
  constructor
  · exact fun h => ⟨Nat.dvd_trans h (Nat.gcd_dvd_left _ _), Nat.mod_eq_zero_of_dvd (Nat.dvd_trans h (Nat.gcd_dvd_right _ _))⟩
  · exact fun h => Nat.dvd_gcd h.1 (Nat.dvd_of_mod_eq_zero h.2)
theorem divs_turn {n : Nat} (hn : 0 < n) : (divs n).reverse = (divs n).map fun d => n / d := by
  have h1 : ((divs n).map fun d => n / d).Pairwise fun a b => b < a := by
    rw [List.pairwise_map]
    refine List.Pairwise.imp_of_mem (fun {a b} ha hb h => ?_) (divs_rising n)
    have da := (mem_divs hn).mp ha
    have db := (mem_divs hn).mp hb
    obtain ⟨x, hx⟩ := da
    obtain ⟨y, hy⟩ := db
    have a0 : 0 < a := by false_or_by_contra; have : a = 0 := by omega
                          subst this; omega
    have b0 : 0 < b := by omega
    have ex : n / a = x := by rw [hx]; exact Nat.mul_div_cancel_left _ a0
    have ey : n / b = y := by rw [hy]; exact Nat.mul_div_cancel_left _ b0
    rw [ex, ey]
    false_or_by_contra
    have hxy : x ≤ y := by omega
    have y0 : 0 < y := by false_or_by_contra; have : y = 0 := by omega
                          subst this; omega
    have l1 : a * x ≤ a * y := Nat.mul_le_mul_left _ hxy
    have l2 : a * y < b * y := Nat.mul_lt_mul_of_pos_right h y0
    omega
  have h2 : ((divs n).map fun d => n / d).reverse.Pairwise (· < ·) := by
    rw [List.pairwise_reverse]
    exact h1
  have e : divs n = ((divs n).map fun d => n / d).reverse := by
    refine rising_eq (divs_rising n) h2 fun d => ?_
    rw [List.mem_reverse, List.mem_map]
    constructor
    · intro h
      have hd := (mem_divs hn).mp h
      refine ⟨n / d, (mem_divs hn).mpr (Nat.div_dvd_of_dvd hd), Nat.div_div_self hd (by omega)⟩
    · rintro ⟨x, hx, rfl⟩
      exact (mem_divs hn).mpr (Nat.div_dvd_of_dvd ((mem_divs hn).mp hx))
  have := congrArg List.reverse e
  rwa [List.reverse_reverse] at this
theorem divs_one : divs 1 = [1] := by decide
theorem isP_divs {n : Nat} (hn : 0 < n) : isP n = decide ((divs n).length = 2) := by
  by_cases h1 : n = 1
  · subst h1; decide
  · have key : isP n = true ↔ (divs n).length = 2 := by
      constructor
      · intro h
        have e : divs n = [1, n] := by
          refine rising_eq (divs_rising n) (by simp; omega) fun d => ?_
          rw [mem_divs hn]
          constructor
          · intro hd
            rcases isP_dvd h hd with rfl | rfl
            · simp
            · simp
          · intro hd
            simp at hd
            rcases hd with rfl | rfl
            · exact Nat.one_dvd _
            · exact Nat.dvd_refl _
        rw [e]; rfl
      · intro h
        rw [isP_iff]
        refine ⟨by omega, fun d hd hl hm => ?_⟩
        have m1 : 1 ∈ divs n := (mem_divs hn).mpr (Nat.one_dvd _)
        have m2 : d ∈ divs n := (mem_divs hn).mpr (Nat.dvd_of_mod_eq_zero hm)
        have m3 : n ∈ divs n := (mem_divs hn).mpr (Nat.dvd_refl _)
        have hr := divs_rising n
        generalize divs n = xs at *
        match xs, h with
        | [a, b], _ =>
          simp at m1 m2 m3 hr
          omega
    by_cases h : isP n = true
    · rw [h, decide_eq_true (key.mp h)]
    · rw [decide_eq_false (fun z => h (key.mpr z))]
      exact Bool.eq_false_iff.mpr h
end NT
/-! Numbers to 10 ** 12 have at most 8447 divisors, plain. -/
namespace NT
def kf : List (Nat × Nat) → Nat
  | [] => 1
  | x :: xs => (x.2 + 1) * kf xs
theorem dstep_lenA (fs : List Nat) (x : Nat × Nat) : (dstep fs x).length = (x.2 + 1) * fs.length := by
  unfold dstep
  have h : ∀ t, ((List.range t).flatMap fun s => fs.map fun y => y * x.1 ^ s).length = t * fs.length := fun t => by
    induction t with
    | zero => simp
    | succ t ih => rw [List.range_succ, List.flatMap_append, List.length_append, ih, Nat.succ_mul]; simp
  exact h _
theorem fold_len : ∀ (ps : List (Nat × Nat)) (fs : List Nat), (ps.foldl dstep fs).length = fs.length * kf ps
  | [], fs => by simp [kf]
  | x :: ps, fs => by
    rw [List.foldl_cons, fold_len ps, dstep_lenA]
    show _ = fs.length * ((x.2 + 1) * kf ps)
    rw [Nat.mul_comm (x.2 + 1), Nat.mul_assoc]
theorem divs_kf {n : Nat} (hn : 0 < n) : (divs n).length = kf (pw n) := by
  rw [(Dl.perm (Dl.divs hn) (Dl.dvs hn)).length_eq]
  unfold dvs
  rw [fold_len]
  simp
def nu (p : Nat) : Nat := if p = 2 then 81 else if p = 3 then 256 else if p = 5 then 81 else if p = 7 then 16 else if p = 11 then 16 else if p = 13 then 16 else 1
def de (p : Nat) : Nat := if p = 2 then 2 else if p = 3 then 27 else if p = 5 then 25 else if p = 7 then 7 else if p = 11 then 11 else if p = 13 then 13 else 1
def NU (q : Nat) : Nat := (if q < 2 then 81 else 1) * (if q < 3 then 256 else 1) * (if q < 5 then 81 else 1) * (if q < 7 then 16 else 1) * (if q < 11 then 16 else 1) * (if q < 13 then 16 else 1)
def DEN (q : Nat) : Nat := (if q < 2 then 2 else 1) * (if q < 3 then 27 else 1) * (if q < 5 then 25 else 1) * (if q < 7 then 7 else 1) * (if q < 11 then 11 else 1) * (if q < 13 then 13 else 1)
theorem one_small {p k : Nat} (hp : isP p = true) (hk : k < 41) : (k + 1) ^ 4 * de p ≤ nu p * p ^ k := by
  by_cases h : p < 17
  · exact (show ∀ p < 17, ∀ k < 41, isP p = true → (k + 1) ^ 4 * de p ≤ nu p * p ^ k by decide +kernel) p h k hk hp
  · have e1 : de p = 1 := by unfold de; simp only [show ¬ p = 2 by omega, show ¬ p = 3 by omega, show ¬ p = 5 by omega, show ¬ p = 7 by omega, show ¬ p = 11 by omega, show ¬ p = 13 by omega, if_false]
    have e2 : nu p = 1 := by unfold nu; simp only [show ¬ p = 2 by omega, show ¬ p = 3 by omega, show ¬ p = 5 by omega, show ¬ p = 7 by omega, show ¬ p = 11 by omega, show ¬ p = 13 by omega, if_false]
    rw [e1, e2, Nat.mul_one, Nat.one_mul]
    have a1 := (show ∀ k < 41, (k + 1) ^ 4 ≤ 17 ^ k by decide +kernel) k hk
    have a2 := Nat.pow_le_pow_left (show 17 ≤ p by omega) k
    omega
theorem NU_big {p : Nat} (h : 13 ≤ p) : NU p = 1 ∧ DEN p = 1 := by
  unfold NU DEN
  simp only [show ¬ p < 2 by omega, show ¬ p < 3 by omega, show ¬ p < 5 by omega, show ¬ p < 7 by omega, show ¬ p < 11 by omega, show ¬ p < 13 by omega, if_false]
  exact ⟨by decide, by decide⟩
theorem NU_step {q p : Nat} (h : q < p) : nu p * NU p * DEN q ≤ NU q * (de p * DEN p) := by
  by_cases hp : p < 17
  · exact (show ∀ p < 17, ∀ q < 17, q < p → nu p * NU p * DEN q ≤ NU q * (de p * DEN p) by decide +kernel) p hp q (by omega) h
  · have e1 : de p = 1 := by unfold de; simp only [show ¬ p = 2 by omega, show ¬ p = 3 by omega, show ¬ p = 5 by omega, show ¬ p = 7 by omega, show ¬ p = 11 by omega, show ¬ p = 13 by omega, if_false]
    have e2 : nu p = 1 := by unfold nu; simp only [show ¬ p = 2 by omega, show ¬ p = 3 by omega, show ¬ p = 5 by omega, show ¬ p = 7 by omega, show ¬ p = 11 by omega, show ¬ p = 13 by omega, if_false]
    rw [e1, e2, (NU_big (p := p) (by omega)).1, (NU_big (p := p) (by omega)).2]
    by_cases hq : q < 13
    · have := (show ∀ q < 13, DEN q ≤ NU q by decide +kernel) q hq
      omega
    · rw [(NU_big (p := q) (by omega)).1, (NU_big (p := q) (by omega)).2]
      decide
theorem DEN_pos (p : Nat) : 0 < de p * DEN p := by
  by_cases hp : p < 17
  · exact (show ∀ p < 17, 0 < de p * DEN p by decide +kernel) p hp
  · have e1 : de p = 1 := by unfold de; simp only [show ¬ p = 2 by omega, show ¬ p = 3 by omega, show ¬ p = 5 by omega, show ¬ p = 7 by omega, show ¬ p = 11 by omega, show ¬ p = 13 by omega, if_false]
    rw [e1, (NU_big (p := p) (by omega)).2]
    decide
theorem kf_fold : ∀ (xs : List (Nat × Nat)) (q : Nat), (∀ x ∈ xs, isP x.1 = true ∧ x.2 < 41 ∧ q < x.1) → (xs.Pairwise fun x y => x.1 < y.1) → kf xs ^ 4 * DEN q ≤ NU q * prodP xs
  | [], q, _, _ => by
    show 1 ^ 4 * DEN q ≤ NU q * 1
    by_cases hq : q < 13
    · have := (show ∀ q < 13, DEN q ≤ NU q by decide +kernel) q hq
      omega
    · rw [(NU_big (p := q) (by omega)).1, (NU_big (p := q) (by omega)).2]
      decide
  | x :: xs, q, h, hr => by
    obtain ⟨p, k⟩ := x
    obtain ⟨hp, hk, hq⟩ := h (p, k) (by simp)
    have hp : isP p = true := hp
    have hk : k < 41 := hk
    have hq : q < p := hq
    rw [List.pairwise_cons] at hr
    have ih := kf_fold xs p (fun x hx => ⟨(h x (List.mem_cons_of_mem _ hx)).1, (h x (List.mem_cons_of_mem _ hx)).2.1, hr.1 x hx⟩) hr.2
    have h1 := one_small hp hk
    have h2 := NU_step hq
    have h3 := DEN_pos p
    show ((k + 1) * kf xs) ^ 4 * DEN q ≤ NU q * (p ^ k * prodP xs)
    rw [Nat.mul_pow]
    generalize (k + 1) ^ 4 = a at *
    generalize kf xs ^ 4 = b at *
    generalize p ^ k = c at *
    generalize prodP xs = d at *
    generalize de p = e at *
    generalize DEN p = f at *
    generalize nu p = g at *
    generalize NU p = m at *
    generalize DEN q = r at *
    generalize NU q = s at *
    -- a e ≤ g c, b f ≤ m d, g m r ≤ s (e f)
    refine Nat.le_of_mul_le_mul_left ?_ h3
    have k1 : (a * e) * (b * f) ≤ (g * c) * (m * d) := Nat.mul_le_mul h1 ih
    have k2 : (a * e) * (b * f) * r ≤ (g * c) * (m * d) * r := Nat.mul_le_mul_right r k1
    have k3 : g * m * r * (c * d) ≤ s * (e * f) * (c * d) := Nat.mul_le_mul_right _ h2
    have q1 : e * f * (a * b * r) = (a * e) * (b * f) * r := by simp only [Nat.mul_comm, Nat.mul_left_comm, Nat.mul_assoc]
    have q2 : (g * c) * (m * d) * r = g * m * r * (c * d) := by simp only [Nat.mul_comm, Nat.mul_left_comm, Nat.mul_assoc]
    have q3 : s * (e * f) * (c * d) = e * f * (s * (c * d)) := by simp only [Nat.mul_comm, Nat.mul_left_comm, Nat.mul_assoc]
    omega
theorem divs_few {n : Nat} (hn : 1 ≤ n ∧ n ≤ 1000000000000) : (divs n).length ≤ 10000 := by
  have h := kf_fold (pw n) 0 (fun x hx => by
    obtain ⟨h1, h2, h3, h4, h5⟩ := pw_small hn.1 hx
    refine ⟨(pw_mem hx).1, ?_, by omega⟩
    false_or_by_contra
    have a1 := Nat.pow_le_pow_left h1 x.2
    have a2 := Nat.pow_le_pow_right (show 0 < 2 by omega) (show 41 ≤ x.2 by omega)
    have a3 : (2 : Nat) ^ 41 = 2199023255552 := by decide
    omega) (pw_rising n)
  rw [prod_pw hn.1, ← divs_kf hn.1] at h
  have e1 : DEN 0 = 1351350 := by decide
  have e2 : NU 0 = 6879707136 := by decide
  rw [e1, e2] at h
  false_or_by_contra
  rename_i hh
  have a1 := Nat.pow_le_pow_left (show 10001 ≤ (divs n).length by omega) 4
  have a2 : (10001 : Nat) ^ 4 = 10004000600040001 := by decide
  omega
end NT
set_option maxHeartbeats 1000000
/-! Valuations of products, shares, least multiples. -/
namespace NT
theorem vl_mul {p : Nat} (hp : isP p = true) : ∀ (k a b : Nat), a < k → 0 < a → 0 < b → vl p (a * b) = vl p a + vl p b
  | 0, _, _, h, _, _ => by omega
  | k + 1, a, b, h, a0, b0 => by
    have p2 := two_le hp
    by_cases hd : p ∣ a
    · obtain ⟨c, rfl⟩ := hd
      have c0 : 0 < c := Nat.pos_of_mul_pos_left a0
      have hc : c < p * c := by
        have := Nat.mul_le_mul_right c p2
        omega
      rw [Nat.mul_assoc, vl_mul_out p2 (Nat.mul_pos c0 b0), vl_mul_out p2 c0, vl_mul hp k c b (by omega) c0 b0]
      omega
    · have h0 : vl p a = 0 := vl_stop fun z => hd (Nat.dvd_of_mod_eq_zero z)
      rw [h0, Nat.mul_comm, vl_cop hp b0 a0 hd, Nat.zero_add]
theorem vl_times {p a b : Nat} (hp : isP p = true) (a0 : 0 < a) (b0 : 0 < b) : vl p (a * b) = vl p a + vl p b := vl_mul hp (a + 1) a b (by omega) a0 b0
theorem vl_one (p : Nat) (hp : 2 ≤ p) : vl p 1 = 0 := vl_stop (by rw [Nat.mod_eq_of_lt (by omega)]; decide)
theorem vl_powr {p q : Nat} (hp : isP p = true) (q0 : 0 < q) : ∀ k : Nat, vl p (q ^ k) = k * vl p q
  | 0 => by rw [Nat.pow_zero, vl_one p (two_le hp), Nat.zero_mul]
  | k + 1 => by rw [Nat.pow_succ, vl_times hp (Nat.pow_pos q0) q0, vl_powr hp q0 k, Nat.succ_mul]
theorem vl_prime {p q : Nat} (hp : isP p = true) (hq : isP q = true) : vl p q = if p = q then 1 else 0 := by
  by_cases e : p = q
  · subst e
    rw [if_pos rfl]
    have := vl_self (p := p) (k := 1) (two_le hp)
    rwa [Nat.pow_one] at this
  · rw [if_neg e]
    refine vl_stop fun z => ?_
    rcases isP_dvd hq (Nat.dvd_of_mod_eq_zero z) with h | h
    · have := two_le hp; omega
    · exact e h
theorem prodP_perm {xs ys : List (Nat × Nat)} (h : xs.Perm ys) : prodP xs = prodP ys := by
  induction h with
  | nil => rfl
  | cons x _ ih => show x.1 ^ x.2 * _ = x.1 ^ x.2 * _; rw [ih]
  | swap x y l => show _ * (_ * _) = _ * (_ * _); rw [← Nat.mul_assoc, ← Nat.mul_assoc, Nat.mul_comm (y.1 ^ y.2)]
  | trans _ _ h1 h2 => exact h1.trans h2
theorem vl_ext {a b : Nat} (a0 : 0 < a) (b0 : 0 < b) (h : ∀ p, isP p = true → vl p a = vl p b) : a = b := by
  rw [← prod_pw a0, ← prod_pw b0]
  refine prodP_perm ((List.perm_ext_iff_of_nodup (pw_nodup a) (pw_nodup b)).mpr fun x => ?_)
  rw [mem_pw a0, mem_pw b0]
  constructor
  · rintro ⟨h1, h2, h3⟩
    have p2 := two_le h1
    exact ⟨h1, (vl_pos p2 b0).mp (by rw [← h x.1 h1]; exact (vl_pos p2 a0).mpr h2), by rw [h3]; exact h x.1 h1⟩
  · rintro ⟨h1, h2, h3⟩
    have p2 := two_le h1
    exact ⟨h1, (vl_pos p2 a0).mp (by rw [h x.1 h1]; exact (vl_pos p2 b0).mpr h2), by rw [h3]; exact (h x.1 h1).symm⟩
/-- how often a prime stands in a list of powers -/
def ex (q : Nat) : List (Nat × Nat) → Nat
  | [] => 0
  | x :: xs => (if x.1 = q then x.2 else 0) + ex q xs
theorem prodP_pos : ∀ {xs : List (Nat × Nat)}, (∀ x ∈ xs, isP x.1 = true) → 0 < prodP xs
  | [], _ => Nat.one_pos
  | x :: xs, h => Nat.mul_pos (Nat.pow_pos (by have := two_le (h x (by simp)); omega)) (prodP_pos fun y hy => h y (List.mem_cons_of_mem _ hy))
theorem vl_prodP {q : Nat} (hq : isP q = true) : ∀ {xs : List (Nat × Nat)}, (∀ x ∈ xs, isP x.1 = true) → vl q (prodP xs) = ex q xs
  | [], _ => vl_one q (two_le hq)
  | x :: xs, h => by
    have hx := h x (by simp)
    have hr : ∀ y ∈ xs, isP y.1 = true := fun y hy => h y (List.mem_cons_of_mem _ hy)
    have x2 := two_le hx
    show vl q (x.1 ^ x.2 * prodP xs) = _
    rw [vl_times hq (Nat.pow_pos (by omega)) (prodP_pos hr), vl_powr hq (by omega), vl_prime hq hx, vl_prodP hq hr]
    show _ = (if x.1 = q then x.2 else 0) + ex q xs
    by_cases e : q = x.1
    · rw [if_pos e, if_pos e.symm, Nat.mul_one]
    · rw [if_neg e, if_neg (fun z => e z.symm), Nat.mul_zero]
theorem ex_none {q : Nat} : ∀ {xs : List (Nat × Nat)}, (∀ x ∈ xs, x.1 ≠ q) → ex q xs = 0
  | [], _ => rfl
  | x :: xs, h => by
    show (if x.1 = q then x.2 else 0) + ex q xs = 0
    rw [if_neg (h x (by simp)), ex_none fun y hy => h y (List.mem_cons_of_mem _ hy)]
theorem ex_some {q k : Nat} : ∀ {xs : List (Nat × Nat)}, (xs.Pairwise fun x y => x.1 < y.1) → (q, k) ∈ xs → ex q xs = k
  | [], _, h => nomatch h
  | x :: xs, hp, h => by
    rw [List.pairwise_cons] at hp
    show (if x.1 = q then x.2 else 0) + ex q xs = k
    rcases List.mem_cons.mp h with h | h
    · subst h
      rw [if_pos rfl, ex_none fun y hy => by have := hp.1 y hy; intro z; rw [z] at this; exact Nat.lt_irrefl _ this]
      rfl
    · have := hp.1 _ h
      rw [if_neg (fun z => by rw [z] at this; exact Nat.lt_irrefl _ this), Nat.zero_add]
      exact ex_some hp.2 h
theorem ex_map {n q : Nat} (hn : 0 < n) (hq : isP q = true) (F : Nat × Nat → Nat) : ex q ((pw n).map fun x => (x.1, F x)) = if n % q = 0 then F (q, vl q n) else 0 := by
  have hr : ((pw n).map fun x => (x.1, F x)).Pairwise fun x y => x.1 < y.1 := by
    rw [List.pairwise_map]
    exact pw_rising n
  by_cases h : n % q = 0
  · rw [if_pos h]
    refine ex_some hr ?_
    rw [List.mem_map]
    exact ⟨(q, vl q n), (mem_pw hn _).mpr ⟨hq, h, rfl⟩, rfl⟩
  · rw [if_neg h]
    refine ex_none fun x hx => ?_
    rw [List.mem_map] at hx
    obtain ⟨y, hy, rfl⟩ := hx
    intro z
    have := ((mem_pw hn y).mp hy).2.1
    have z : y.1 = q := z
    rw [z] at this
    exact h this
theorem vl_gcd {p a b : Nat} (hp : isP p = true) (a0 : 0 < a) (b0 : 0 < b) : vl p (Nat.gcd a b) = min (vl p a) (vl p b) := by
  have p2 := two_le hp
  refine vl_eq p2 (Nat.gcd_pos_of_pos_left _ a0) ?_ fun h => ?_
  · exact Nat.dvd_gcd ((vl_dvd p2 _ _ a0).mpr (Nat.min_le_left _ _)) ((vl_dvd p2 _ _ b0).mpr (Nat.min_le_right _ _))
  · have h1 := (vl_dvd p2 _ _ a0).mp (Nat.dvd_trans h (Nat.gcd_dvd_left _ _))
    have h2 := (vl_dvd p2 _ _ b0).mp (Nat.dvd_trans h (Nat.gcd_dvd_right _ _))
    omega
theorem prod_lesser {a b : Nat} (a0 : 0 < a) (b0 : 0 < b) : prodP ((pw a).map fun x => (x.1, min x.2 (vl x.1 b))) = Nat.gcd a b := by
  have hP : ∀ x ∈ (pw a).map fun x => (x.1, min x.2 (vl x.1 b)), isP x.1 = true := fun x hx => by
    rw [List.mem_map] at hx
    obtain ⟨y, hy, rfl⟩ := hx
    exact ((mem_pw a0 y).mp hy).1
  refine vl_ext (prodP_pos hP) (Nat.gcd_pos_of_pos_left _ a0) fun p hp => ?_
  rw [vl_prodP hp hP, ex_map a0 hp, vl_gcd hp a0 b0]
  by_cases h : a % p = 0
  · rw [if_pos h]
  · rw [if_neg h, vl_stop h, Nat.zero_min]
end NT
/-! Rows: sums, twists. -/
namespace NT
theorem tog_add (f h g : Nat → Int) (j : Nat) : tog (fun a => f a + h a) g j = tog f g j + tog h g j := by
  rw [tog_sm, tog_sm, tog_sm, ← sm_add]
  refine sm_congr fun i _ => ?_
  by_cases h : (j + 1) % (i + 1) = 0
  · rw [if_pos h, if_pos h, if_pos h, Int.add_mul]
  · rw [if_neg h, if_neg h, if_neg h]; rfl
theorem tog_neg (f g : Nat → Int) (j : Nat) : tog (fun a => 0 - f a) g j = 0 - tog f g j := by
  have := tog_add (fun a => 0 - f a) f g j
  have h0 : tog (fun a => 0 - f a + f a) g j = 0 := by
    rw [tog_sm]
    refine sm_none fun i _ => ?_
    by_cases h : (j + 1) % (i + 1) = 0
    · rw [if_pos h]; show (0 - f i + f i) * _ = 0; rw [show 0 - f i + f i = 0 from by omega, Int.zero_mul]
    · rw [if_neg h]
  rw [h0] at this
  omega
theorem tog_shift (f g : Nat → Int) (j : Nat) : tog (fun a => ((a : Int) + 1) * f a) (fun a => ((a : Int) + 1) * g a) j = ((j : Int) + 1) * tog f g j := by
  rw [tog_sm, tog_sm, ← sm_mul]
  refine sm_congr fun i hi => ?_
  by_cases h : (j + 1) % (i + 1) = 0
  · rw [if_pos h, if_pos h]
    have hq : 0 < (j + 1) / (i + 1) := Nat.div_pos (by omega) (by omega)
    have he : (i + 1) * ((j + 1) / (i + 1)) = j + 1 := Nat.mul_div_cancel' (Nat.dvd_of_mod_eq_zero h)
    generalize (j + 1) / (i + 1) = q at *
    have e1 : ((q - 1 : Nat) : Int) + 1 = (q : Int) := by omega
    have e2 : (j : Int) + 1 = ((i : Int) + 1) * (q : Int) := by
      have : ((j + 1 : Nat) : Int) = (((i + 1) * q : Nat) : Int) := by rw [he]
      rw [Int.natCast_mul, Int.natCast_add, Int.natCast_add] at this
      exact this.symm ▸ rfl
    rw [e1, e2, Int.mul_assoc, Int.mul_assoc, Int.mul_left_comm (f i)]
  · rw [if_neg h, if_neg h, Int.mul_zero]
end NT
/-! Helpers for laws: numbers, rows as functions, turns that change the state. -/
namespace DL
open PySem PySem.Spec PyProof.Rows L2
def natD (p : Nat) : D := .int (p : Int)
def ppD (x : Nat × Nat) : D := .tuple [.int (x.1 : Int), .int (x.2 : Int)]
@[simp] theorem pl_natD (p : Nat) : (natD p).plain = true := x_pl_int _
@[simp] theorem pl_ppD (x : Nat × Nat) : (ppD x).plain = true := by unfold ppD; simp
def nl : Cell → Bool
  | .un => true
  | .v _ => true
  | _ => false
theorem nl_par {c : Cell} (h : nl c = true) : isPar c = false := by cases c <;> first | rfl | cases h
theorem nl_noC {ρ : DL.Env} {i : Nat} {c : Cell} {vs : List Nat} (h : ρ[i]? = some c) (hc : nl c = true) : noC ρ (i :: vs) = noC ρ vs := by
  rw [x_noC_cons, h]
  cases c <;> first | rfl | cases hc
theorem all_bools {α : Type} (f : α → Bool) (xs : List α) : oAll [.list (xs.map fun a => .bool (f a))] = some (.at (.bool (xs.all f))) := by
  unfold oAll
  have : (xs.map fun a => PyData.bool (f a)) = (xs.map f).map .bool := by rw [List.map_map]; rfl
  simp only [this, map_boolsOf]
  rw [List.all_map]
  rfl
theorem any_bools {α : Type} (f : α → Bool) (xs : List α) : oAny [.list (xs.map fun a => .bool (f a))] = some (.at (.bool (xs.any f))) := by
  unfold oAny
  have : (xs.map fun a => PyData.bool (f a)) = (xs.map f).map .bool := by rw [List.map_map]; rfl
  simp only [this, map_boolsOf]
  rw [List.any_map]
  rfl
theorem sum_ints {α : Type} (f : α → Int) (xs : List α) : oSum [.list (xs.map fun a => .int (f a))] = some (.at (.int ((xs.map f).sum))) := by
  unfold oSum
  have : (xs.map fun a => PyData.int (f a)) = (xs.map f).map .int := by rw [List.map_map]; rfl
  simp only [this, map_intsOf]
theorem sorted_nats {fs gs : List Nat} (h : fs.Perm gs) (k : gs.Pairwise (· < ·)) : oSorted [.list (fs.map natD)] = some (.nl (gs.map natD)) := by
  unfold oSorted
  have e : ∀ xs : List Nat, xs.map natD = (xs.map fun x : Nat => (x : Int)).map .int := fun xs => by rw [List.map_map]; rfl
  rw [e, e]
  simp only [map_intsOf]
  rw [← sortI_eq (is := fs.map fun x : Nat => (x : Int)) (js := gs.map fun x : Nat => (x : Int)) (h.symm.map _) (by
    rw [List.pairwise_map]
    exact k.imp fun {a b} h => by omega)]
theorem x_oMulB {i j : Int} (h : i.natAbs < 2 ^ 200 ∧ j.natAbs < 2 ^ 200) : oMul (.int i) (.int j) = some (.at (.int (i * j))) := by
  have hi : i.natAbs.log2 < 200 := log2_lt h.1 (by decide)
  have hj : j.natAbs.log2 < 200 := log2_lt h.2 (by decide)
  unfold oMul oOr oMulI oII
  have : mulOk i j = true := by
    unfold mulOk
    simp only [Bool.or_eq_true, dP_iff]
    exact .inr (by omega)
  simp only [this, if_true]
/-- a row of a function's numbers -/
def rowD (m : Nat) (f : Nat → Int) : List D := (List.range m).map fun a => .int (f a)
@[simp] theorem rowD_pl (m : Nat) (f : Nat → Int) : PyData.plainAll (rowD m f) = true := by unfold rowD; simp
theorem rowD_len (m : Nat) (f : Nat → Int) : (rowD m f).length = m := by unfold rowD; simp
theorem rowD_get {m k : Nat} (f : Nat → Int) (hk : k < m) : (rowD m f)[k]? = some (.int (f k)) := by
  unfold rowD
  simp [List.getElem?_range hk]
theorem rowD_at {m k : Nat} (f : Nat → Int) (hk : k < m) : atI (rowD m f) (k : Int) = some (.int (f k)) := by
  rw [atI_pos (by rw [rowD_len]; omega), Int.toNat_natCast, rowD_get f hk]
theorem rowD_set (m k : Nat) (f : Nat → Int) (v : Int) : (rowD m f).set k (.int v) = rowD m fun j => if j = k then v else f j := by
  unfold rowD
  rw [NT.map_set]
  refine List.map_congr_left fun j _ => ?_
  by_cases h : j = k
  · simp [h]
  · simp [h]
theorem rowD_congr {m : Nat} {f g : Nat → Int} (h : ∀ i, i < m → f i = g i) : rowD m f = rowD m g := by
  unfold rowD
  exact List.map_congr_left fun j hj => by rw [h j (List.mem_range.mp hj)]
theorem rowD_rep (m : Nat) (c : Int) : List.replicate m (PyData.int c) = rowD m fun _ => c := by
  unfold rowD
  rw [List.map_const', List.length_range]
theorem rowD_succ (m : Nat) (f : Nat → Int) : rowD (m + 1) f = rowD m f ++ [.int (f m)] := by
  unfold rowD
  rw [List.range_succ, List.map_append]
  rfl
theorem rowD_sum (m : Nat) (f : Nat → Int) : oSum [.list (rowD m f)] = some (.at (.int (NT.sm f m))) := by
  unfold rowD
  rw [sum_ints, NT.sm_list]
theorem rowD_take {m k : Nat} (f : Nat → Int) (hk : k ≤ m) : cutD (rowD m f) none (some (k : Int)) = rowD k f := by
  rw [cutD_to _ (by omega), Int.toNat_natCast]
  unfold rowD
  rw [← List.map_take, List.take_range, Nat.min_eq_left hk]
theorem enumD_eq (g : Nat → D) : ∀ (m k : Nat), enumD k ((List.range' k m).map g) = (List.range' k m).map fun a => .tuple [.int (a : Int), g a]
  | 0, _ => rfl
  | m + 1, k => by rw [List.range'_succ, List.map_cons, List.map_cons, enumD, enumD_eq g m (k + 1)]
theorem enumD_row (m : Nat) (f : Nat → Int) : enumD 0 (rowD m f) = (List.range m).map fun a => .tuple [.int (a : Int), .int (f a)] := by
  unfold rowD
  rw [List.range_eq_range', enumD_eq]
theorem zipD_row (m n : Nat) (f g : Nat → Int) : zipD (rowD m f) (rowD n g) = (List.range (min m n)).map fun a => .tuple [.int (f a), .int (g a)] := by
  have h : ∀ (k m n : Nat), zipD ((List.range' k m).map fun a => PyData.int (f a)) ((List.range' k n).map fun a => PyData.int (g a)) = (List.range' k (min m n)).map fun a => .tuple [.int (f a), .int (g a)] := by
    intro k m
    induction m generalizing k with
    | zero => intro n; rw [Nat.zero_min]; simp [zipD]
    | succ m ih =>
      intro n
      cases n with
      | zero => rw [Nat.min_zero]; simp [zipD]
      | succ n => rw [Nat.succ_min_succ, List.range'_succ, List.range'_succ, List.range'_succ, List.map_cons, List.map_cons, List.map_cons, zipD, ih]
  unfold rowD
  rw [List.range_eq_range', List.range_eq_range', h, List.range_eq_range']
theorem rowD_of (xs : List Int) : xs.map PyData.int = rowD xs.length fun a => xs.getD a 0 := by
  refine List.ext_getElem? fun i => ?_
  by_cases h : i < xs.length
  · rw [rowD_get _ h, List.getElem?_map, List.getD_eq_getElem?_getD, List.getElem?_eq_getElem h]
    rfl
  · rw [List.getElem?_eq_none (by rw [List.length_map]; omega), List.getElem?_eq_none (by rw [rowD_len]; omega)]
theorem rowD_dep (m : Nat) (f : Nat → Int) : PyData.depthAll (rowD m f) = 0 := by
  have := depthAll_le (n := 0) (xs := rowD m f) (by simp [rowD])
  omega
theorem rowD_eqv (m : Nat) (f : Nat → Int) : PyData.eqvAll (rowD m f) (rowD m f) = true := by
  have e : rowD m f = ((List.range m).map f).map .int := by rw [List.map_map]; rfl
  rw [e, eqvAll_ints]
  simp
theorem rowD_oEq (m : Nat) (f : Nat → Int) : oEq (.list (rowD m f)) (.list (rowD m f)) = some (.at (.bool true)) := by
  rw [x_oEq _ _ (by rw [x_dep_list, rowD_dep]; omega), eqv_list, rowD_eqv]
theorem rowD_oNe (m : Nat) (f : Nat → Int) : oNe (.list (rowD m f)) (.list (rowD m f)) = some (.at (.bool false)) := by
  rw [x_oNe _ _ (by rw [x_dep_list, rowD_dep]; omega), eqv_list, rowD_eqv]
  rfl
theorem rowD_tx {m : Nat} {f : Nat → Int} (h : ∀ i, i < m → (f i).natAbs < 10 ^ 20) : Tx (.list (rowD m f)) 1 (3 + m * 23) :=
  Tx.list m (k := 0) (m := 21) (fun x hx => by
    unfold rowD at hx
    rw [List.mem_map] at hx
    obtain ⟨a, ha, rfl⟩ := hx
    exact Tx.int (h a (List.mem_range.mp ha))) (by rw [rowD_len]; omega)
/-- a comprehension whose turns change the state -/
theorem lcL_inv {t : Tg} {tt : DTx} {f : DEx} {vs : List Nat} (I : DL.Env → Prop) (R : D → Prop) : ∀ {ds : List D} {ρ : DL.Env} {acc : List D}, (∀ d ∈ ds, ∀ ρ, I ρ → ∃ x ρ', lcT t tt f vs ρ d = some (some x, ρ') ∧ R x ∧ I ρ') → I ρ → acc.length + ds.length ≤ LIM → ∃ ys ρ', lcL t tt f vs ds ρ acc = some (acc ++ ys, ρ') ∧ ys.length = ds.length ∧ (∀ y ∈ ys, R y) ∧ I ρ'
  | [], ρ, acc, _, i, _ => ⟨[], ρ, by simp, rfl, by simp, i⟩
  | d :: ds, ρ, acc, h, i, hl => by
    rw [List.length_cons] at hl
    obtain ⟨x, ρ1, e, hx, i1⟩ := h d (by simp) ρ i
    obtain ⟨ys, ρ2, e2, hy, hr, i2⟩ := lcL_inv I R (ds := ds) (ρ := ρ1) (acc := acc ++ [x]) (fun d hd => h d (List.mem_cons_of_mem _ hd)) i1 (by simp; omega)
    refine ⟨x :: ys, ρ2, ?_, by simp [hy], ?_, i2⟩
    · rw [lcL_turn (hl := by omega), e]
      simp only
      rw [e2, List.append_assoc]
      rfl
    · intro y hy'
      rcases List.mem_cons.mp hy' with rfl | h'
      · exact hx
      · exact hr y h'
theorem Tx.intB {i : Int} (h : i.natAbs < 10 ^ 60) : Tx (.int i) 0 61 := by
  refine ⟨?_, ?_, ?_, ?_⟩
  · rw [PyData.showable, decide_eq_true_eq]
    exact Nat.lt_trans (log2_lt (k := 200) (by omega) (by decide)) (by decide)
  · rw [PyData.hasDict]
  · simp
  · rw [PyData.shown, PySem.ofString_length]
    exact int_text_length_le10 (by decide) h
theorem rowD_txB {m : Nat} {f : Nat → Int} (h : ∀ i, i < m → (f i).natAbs < 10 ^ 60) : Tx (.list (rowD m f)) 1 (3 + m * 63) :=
  Tx.list m (k := 0) (m := 61) (fun x hx => by
    unfold rowD at hx
    rw [List.mem_map] at hx
    obtain ⟨a, ha, rfl⟩ := hx
    exact Tx.intB (h a (List.mem_range.mp ha))) (by rw [rowD_len]; omega)
/-- a while loop that may end by a return too -/
theorem sWhile_invR {t : DTx} {g : DSt} (I : DL.Env → Prop) (Post : Out → Prop) (μ : DL.Env → Nat)
    (h : ∀ ρ, I ρ → (∃ ρ1, t ρ = some (false, ρ1) ∧ Post (.nx ρ1)) ∨ (∃ ρ1 ρ2, t ρ = some (true, ρ1) ∧ (g ρ1 = .nx ρ2 ∨ g ρ1 = .ct ρ2) ∧ I ρ2 ∧ μ ρ2 < μ ρ) ∨ (∃ ρ1 r ρ2, t ρ = some (true, ρ1) ∧ g ρ1 = .rt r ρ2 ∧ Post (.rt r ρ2))) {ρ : DL.Env} (i : I ρ) : ∃ o, sWhile t g ρ = o ∧ Post o := by
  suffices hs : ∀ n ρ, μ ρ < n → I ρ → ∃ o, wN t g n ρ = some o ∧ Post o by
    obtain ⟨o, e, p⟩ := hs (μ ρ + 1) ρ (by omega) i
    exact ⟨o, sWhile_eq e, p⟩
  intro n
  induction n with
  | zero => intro ρ hl; omega
  | succ n ih =>
    intro ρ hl i
    rcases h ρ i with ⟨ρ1, e, p⟩ | ⟨ρ1, ρ2, e, e2, i2, l⟩ | ⟨ρ1, r, ρ2, e, e2, p⟩
    · exact ⟨_, by rw [wN, e], p⟩
    · obtain ⟨o, e3, p⟩ := ih ρ2 (by omega) i2
      refine ⟨o, ?_, p⟩
      rw [wN, e]
      rcases e2 with e2 | e2
      · simp only [e2]; exact e3
      · simp only [e2]; exact e3
    · exact ⟨_, by rw [wN, e]; simp only [e2], p⟩
theorem ints_of {P : Int → Prop} : ∀ {ys : List D}, (∀ y ∈ ys, ∃ i : Int, y = .int i ∧ P i) → ∃ xs : List Int, ys = xs.map .int ∧ ∀ x ∈ xs, P x
  | [], _ => ⟨[], rfl, by simp⟩
  | y :: ys, h => by
    obtain ⟨i, rfl, hi⟩ := h y (by simp)
    obtain ⟨xs, rfl, hx⟩ := ints_of (ys := ys) fun z hz => h z (List.mem_cons_of_mem _ hz)
    refine ⟨i :: xs, rfl, fun x hx' => ?_⟩
    rcases List.mem_cons.mp hx' with rfl | h'
    · exact hi
    · exact hx x h'
theorem getD_all {P : Int → Prop} {xs : List Int} (h : ∀ x ∈ xs, P x) {k : Nat} (hk : k < xs.length) : P (xs.getD k 0) := by
  rw [List.getD_eq_getElem?_getD, List.getElem?_eq_getElem hk]
  exact h _ (List.getElem_mem hk)
theorem rowD_cons (m : Nat) (g : Nat → Int) : [PyData.int (g 0)] ++ rowD m (fun j => g (j + 1)) = rowD (m + 1) g := by
  unfold rowD
  rw [List.range_succ_eq_map, List.map_cons, List.map_map]
  rfl
theorem rsz_self (a n : Nat) (ha : 0 < a) : rsz (a : Int) ((n : Int) + 1) (a : Int) = n / a := by
  have key : ∀ t, t < rsz (a : Int) ((n : Int) + 1) (a : Int) ↔ t < n / a := fun t => by
    have h1 : t < n / a ↔ (t + 1) * a ≤ n := by rw [← Nat.le_div_iff_mul_le ha]; omega
    rw [h1]
    unfold rsz
    by_cases h : (a : Int) < (n : Int) + 1
    · rw [if_pos h]
      have h0 : 0 ≤ ((n : Int) + 1 - a - 1) / a := Int.ediv_nonneg (by omega) (by omega)
      have h2 : t < (((n : Int) + 1 - a - 1) / a + 1).toNat ↔ (t : Int) ≤ ((n : Int) + 1 - a - 1) / a := by omega
      rw [h2, Int.le_ediv_iff_mul_le (by omega), Nat.succ_mul]
      have : (((t * a : Nat)) : Int) = (t : Int) * (a : Int) := Int.natCast_mul t a
      omega
    · rw [if_neg h]
      have : a ≤ (t + 1) * a := Nat.le_mul_of_pos_left a (by omega)
      omega
  have h1 := key (n / a)
  have h2 := key (rsz (a : Int) ((n : Int) + 1) (a : Int))
  omega
@[simp] theorem x_oIntB (b : Bool) : oInt [.bool b] = some (.at (.int (if b then 1 else 0))) := (rfl)
@[simp] theorem x_oListL (xs : List D) : oList [.list xs] = some (.nl xs) := (rfl)
@[simp] theorem x_oListT (xs : List D) : oList [.tuple xs] = some (.nl xs) := (rfl)
theorem x_oMulK {i j : Int} {K : Nat} (hK : K ≤ 400000) (h : i.natAbs < 2 ^ K ∧ j.natAbs < 2 ^ K) : oMul (.int i) (.int j) = some (.at (.int (i * j))) := by
  have hl : ∀ n : Nat, n < 2 ^ K → n.log2 ≤ K := fun n hn => by
    by_cases h0 : n = 0
    · subst h0
      rw [show Nat.log2 0 = 0 from by decide]
      omega
    · exact Nat.le_of_lt ((Nat.log2_lt h0).mpr hn)
  have h1 := hl _ h.1
  have h2 := hl _ h.2
  unfold oMul oOr oMulI oII
  have : mulOk i j = true := by
    unfold mulOk
    simp only [Bool.or_eq_true, dP_iff]
    exact .inr (by omega)
  simp only [this, if_true]
theorem x_oMod0 {i j : Int} (h : j ≠ 0) : oMod (.int i) (.int j) = some (.at (.int (i.fmod j))) := by
  unfold oMod oII
  simp only
  rw [if_pos (dP_iff.mpr h)]
theorem x_oFdiv0 {i j : Int} (h : j ≠ 0) (hj : j.natAbs < 2 ^ 8000) : oFdiv (.int i) (.int j) = some (.at (.int (i.fdiv j))) := by
  have h1 : j.natAbs.log2 < 8000 := log2_lt hj (by decide)
  unfold oFdiv oII divOk
  simp only
  rw [if_pos (by rw [Bool.and_eq_true, dP_iff, dP_iff]; exact ⟨h, by omega⟩)]
@[simp] theorem x_oIsN (a : D) : oIsN a .none = some (.at (.bool (isN a))) := (rfl)
@[simp] theorem x_oNotN (a : D) : oNotN a .none = some (.at (.bool (!isN a))) := (rfl)
@[simp] theorem x_isN0 : isN .none = true := (rfl)
@[simp] theorem x_isNi (i : Int) : isN (.int i) = false := (rfl)
@[simp] theorem x_isNl (xs : List D) : isN (.list xs) = false := (rfl)
@[simp] theorem x_isNt (xs : List D) : isN (.tuple xs) = false := (rfl)
theorem cutD_front {α : Type} (xs : List α) (x : α) : cutD (xs ++ [x]) none (some (-1)) = xs := by
  unfold cutD HT.sIx
  simp only [Nat.sub_zero, List.drop_zero]
  rw [if_pos (by decide), List.length_append]
  have : ((-1 : Int) + ((xs.length + [x].length : Nat) : Int)).toNat = xs.length := by
    simp only [List.length_cons, List.length_nil]
    omega
  rw [this, List.take_left']
  rfl
theorem cutD_from {α : Type} (xs : List α) (k : Nat) : cutD xs (some (k : Int)) none = xs.drop k := by
  unfold cutD HT.sIx
  simp only
  rw [if_neg (by omega), Int.toNat_natCast]
  by_cases h : k ≤ xs.length
  · rw [Nat.min_eq_left h, List.take_of_length_le (by rw [List.length_drop]; omega)]
  · rw [Nat.min_eq_right (by omega), Nat.sub_self, List.take_zero, List.drop_of_length_le (by omega)]
theorem unit_in (i : Int) : oInX false (.int i) (.tuple [.int 1, .int (-1)]) = some (.at (.bool (decide (i = 1 ∨ i = -1)))) := by
  unfold oInX
  simp only
  rw [if_pos ⟨rfl, rfl⟩]
  simp only [inD, List.any_cons, List.any_nil, eqv_int, Bool.or_false, Bool.false_eq_true, if_false]
  by_cases h1 : i = 1
  · subst h1; simp
  · by_cases h2 : i = -1
    · subst h2; simp
    · have h3 : ¬ (1 : Int) = i := fun e => h1 e.symm
      have h4 : ¬ (-1 : Int) = i := fun e => h2 e.symm
      simp [h1, h2, h3, h4]
theorem rsz_lt {i j c : Int} {t : Nat} (hc : 0 < c) : t < rsz i j c ↔ i + t * c < j := by
  unfold rsz
  by_cases h : i < j
  · rw [if_pos h]
    have h0 : 0 ≤ (j - i - 1) / c := Int.ediv_nonneg (by omega) (by omega)
    have h1 : t < ((j - i - 1) / c + 1).toNat ↔ (t : Int) ≤ (j - i - 1) / c := by omega
    rw [h1, Int.le_ediv_iff_mul_le hc]
    omega
  · rw [if_neg h]
    have : (0 : Int) ≤ t * c := Int.mul_nonneg (by omega) (by omega)
    omega
/-- a loop over the multiples of c to N: each place is changed once -/
theorem mult_loop {α : Type} {t : Tg} {g : DSt} (env : (Nat → α) → Cell → DL.Env) (u : Nat → α → α) {N c : Nat} (hc : 0 < c) (h : Nat → α) (x : Cell) (hx : nl x = true)
    (step : ∀ (h : Nat → α) (x : Cell) (q : Nat), nl x = true → 0 < q → q ≤ N → fT t g (env h x) (.int (q : Int)) = .nx (env (fun j => if j = q then u j (h j) else h j) (.v (.int (q : Int)))))
    (hcg : ∀ h h' x, (∀ j, j ≤ N → h j = h' j) → env h x = env h' x) :
    ∃ x', nl x' = true ∧ fN t g ((List.range (N / c)).map fun k : Nat => PyData.int ((c : Int) + (k : Int) * (c : Int))) (env h x) = .nx (env (fun j => if j % c = 0 ∧ 0 < j then u j (h j) else h j) x') := by
  obtain ⟨ρ', e, x', hx', rfl⟩ := fN_range (t := t) (g := g) (enc := fun k : Nat => PyData.int ((c : Int) + (k : Int) * (c : Int))) (n := N / c) (ρ := env h x)
    (fun s ρ => ∃ x', nl x' = true ∧ ρ = env (fun j => if j % c = 0 ∧ 0 < j ∧ j < c * (s + 1) then u j (h j) else h j) x')
    ⟨x, hx, hcg _ _ _ fun j _ => by
      rw [if_neg]
      rintro ⟨h1, h2, h3⟩
      rw [Nat.zero_add, Nat.mul_one] at h3
      rw [Nat.mod_eq_of_lt h3] at h1
      omega⟩
    (fun s hs ρ ⟨x', hx', e⟩ => by
      subst e
      have ez : (c : Int) + (s : Int) * (c : Int) = ((c * (s + 1) : Nat) : Int) := by
        rw [Int.natCast_mul, Int.natCast_succ s, Int.mul_add, Int.mul_one, Int.mul_comm]
        omega
      have hle : c * (s + 1) ≤ N := by
        have h1 := Nat.mul_le_mul_left c (show s + 1 ≤ N / c by omega)
        have h2 := Nat.mul_div_le N c
        omega
      have hpos : 0 < c * (s + 1) := Nat.mul_pos hc (by omega)
      rw [ez]
      refine ⟨_, .inl (step _ x' (c * (s + 1)) hx' hpos hle), .v (.int ((c * (s + 1) : Nat) : Int)), rfl, hcg _ _ _ fun j _ => ?_⟩
      have e1 : c * (s + 1 + 1) = c * (s + 1) + c := Nat.mul_succ _ _
      by_cases hj : j = c * (s + 1)
      · have hj2 : j % c = 0 := by rw [hj]; exact Nat.mul_mod_right _ _
        rw [if_pos hj, if_neg (by omega), if_pos ⟨hj2, by omega, by omega⟩]
      · rw [if_neg hj]
        by_cases hj2 : j % c = 0
        · have hx : j < c * (s + 1 + 1) ↔ j < c * (s + 1) := by
            obtain ⟨d, hd⟩ := Nat.dvd_of_mod_eq_zero hj2
            constructor
            · intro hlt
              have h1 : d < s + 1 + 1 := Nat.lt_of_mul_lt_mul_left (a := c) (by omega)
              have h2 : d ≠ s + 1 := fun z => hj (by rw [hd, z])
              have := Nat.mul_le_mul_left c (show d + 1 ≤ s + 1 by omega)
              rw [Nat.mul_succ] at this
              omega
            · intro hlt; omega
          simp only [hj2, hx]
        · rw [if_neg (fun q => hj2 q.1), if_neg (fun q => hj2 q.1)])
  refine ⟨x', hx', e.trans ?_⟩
  congr 1
  refine hcg _ _ _ fun j hj => ?_
  have hall : j < c * (N / c + 1) := by
    have h1 := Nat.lt_mul_div_succ N hc
    omega
  by_cases hq : j % c = 0 ∧ 0 < j
  · rw [if_pos ⟨hq.1, hq.2, hall⟩, if_pos hq]
  · rw [if_neg (fun z => hq ⟨z.1, z.2.1⟩), if_neg hq]
theorem rng_mult (c N : Nat) (hc : 0 < c) (hc2 : c < 1000000000) (hN : N ≤ 1000000000) : rngOf [.int (c : Int), .int ((N : Int) + 1), .int (c : Int)] = some ((List.range (N / c)).map fun k : Nat => PyData.int ((c : Int) + (k : Int) * (c : Int))) := by
  have hr := x_rng3 (i := (c : Int)) (j := (N : Int) + 1) (c := (c : Int)) (by omega)
  rwa [rsz_self c N hc, rngD_map] at hr
/-- a row of truths -/
def rowB (m : Nat) (f : Nat → Bool) : List D := (List.range m).map fun a => .bool (f a)
@[simp] theorem rowB_pl (m : Nat) (f : Nat → Bool) : PyData.plainAll (rowB m f) = true := by unfold rowB; simp
theorem rowB_len (m : Nat) (f : Nat → Bool) : (rowB m f).length = m := by unfold rowB; simp
theorem rowB_at {m k : Nat} (f : Nat → Bool) (hk : k < m) : atI (rowB m f) (k : Int) = some (.bool (f k)) := by
  rw [atI_pos (by rw [rowB_len]; omega), Int.toNat_natCast]
  unfold rowB
  simp [List.getElem?_range hk]
theorem rowB_set (m k : Nat) (f : Nat → Bool) (v : Bool) : (rowB m f).set k (.bool v) = rowB m fun j => if j = k then v else f j := by
  unfold rowB
  rw [NT.map_set]
  refine List.map_congr_left fun j _ => ?_
  by_cases h : j = k
  · simp [h]
  · simp [h]
theorem rowB_congr {m : Nat} {f g : Nat → Bool} (h : ∀ i, i < m → f i = g i) : rowB m f = rowB m g := by
  unfold rowB
  exact List.map_congr_left fun j hj => by rw [h j (List.mem_range.mp hj)]
theorem rowB_rep (m : Nat) (c : Bool) : List.replicate m (PyData.bool c) = rowB m fun _ => c := by
  unfold rowB
  rw [List.map_const', List.length_range]
/-- a loop in two parts -/
theorem fN_app {t : Tg} {g : DSt} : ∀ {xs ys : List D} {ρ ρ1 : DL.Env}, fN t g xs ρ = .nx ρ1 → (∀ d ∈ xs, ∀ ρ, ∀ ρ', fT t g ρ d ≠ .bk ρ') → fN t g (xs ++ ys) ρ = fN t g ys ρ1
  | [], ys, ρ, ρ1, h, _ => by
    rw [x_fN_nil] at h
    cases h
    rfl
  | d :: xs, ys, ρ, ρ1, h, hb => by
    rw [List.cons_append, fN_turn]
    rw [fN_turn] at h
    cases e : fT t g ρ d with
    | nx ρ2 =>
      rw [e] at h
      simp only at h ⊢
      exact fN_app h fun d hd => hb d (List.mem_cons_of_mem _ hd)
    | ct ρ2 =>
      rw [e] at h
      simp only at h ⊢
      exact fN_app h fun d hd => hb d (List.mem_cons_of_mem _ hd)
    | bk ρ2 => exact absurd e (hb d (by simp) ρ ρ2)
    | rt r ρ2 => rw [e] at h; simp only at h; cases h
    | bad => rw [e] at h; simp only at h; cases h
end DL
/-! Dicts: lookups behind puts, the dict of a number's powers. -/
namespace Law
open PySem PySem.Spec PyProof.Rows L2 DL
theorem dval_map (k j : Key) (d : D) : ∀ kvs : List (Key × D), dval (kvs.map fun kv => if kv.1 = k then (kv.1, d) else kv) j = (dval kvs j).map fun x => if j = k then d else x
  | [] => rfl
  | p :: r => by
    have ih := dval_map k j d r
    rw [List.map_cons]
    by_cases e : p.1 = j
    · by_cases h : p.1 = k
      · rw [if_pos h, dval_pos (p := (p.1, d)) e, dval_pos e, Option.map_some, if_pos (e.symm.trans h)]
      · rw [if_neg h, dval_pos (p := p) e, dval_pos (p := p) e, Option.map_some, if_neg (fun z => h (e.trans z))]
    · rw [dval_neg (p := p) e, ← ih]
      by_cases h : p.1 = k
      · rw [if_pos h, dval_neg (p := (p.1, d)) e]
      · rw [if_neg h, dval_neg (p := p) e]
theorem dval_snoc (k j : Key) (d : D) : ∀ kvs : List (Key × D), dval kvs k = none → dval (kvs ++ [(k, d)]) j = if j = k then some d else dval kvs j
  | [], _ => by
    by_cases e : k = j
    · rw [if_pos e.symm]; exact dval_pos (p := (k, d)) e
    · rw [if_neg (fun z => e z.symm)]; exact dval_neg (p := (k, d)) e
  | p :: r, hn => by
    rw [List.cons_append]
    have hk : ¬ p.1 = k := fun z => by rw [dval_pos z] at hn; cases hn
    rw [dval_neg hk] at hn
    have ih := dval_snoc k j d r hn
    by_cases e : p.1 = j
    · rw [dval_pos (p := p) e, dval_pos (p := p) e, if_neg (fun z => hk (e.trans z))]
    · rw [dval_neg (p := p) e, dval_neg (p := p) e, ih]
theorem dval_any (k : Key) : ∀ kvs : List (Key × D), (kvs.any fun kv => decide (kv.1 = k)) = (dval kvs k).isSome
  | [] => rfl
  | p :: r => by
    rw [List.any_cons]
    by_cases e : p.1 = k
    · simp only [dval_pos e, decide_eq_true e, Bool.true_or, Option.isSome_some]
    · rw [dval_neg e, decide_eq_false e, Bool.false_or]; exact dval_any k r
theorem dval_put (kvs : List (Key × D)) (k j : Key) (d : D) : dval (dput kvs k d) j = if j = k then some d else dval kvs j := by
  unfold dput
  rw [dval_any]
  cases h : dval kvs k with
  | none => rw [if_neg (by simp)]; exact dval_snoc k j d kvs h
  | some x =>
    rw [if_pos (by simp), dval_map]
    by_cases e : j = k
    · subst e; rw [h]; simp
    · rw [if_neg e]; simp [e]
theorem dput_keys (kvs : List (Key × D)) (k : Key) (d : D) : (dput kvs k d).map (·.1) = if (dval kvs k).isSome = true then kvs.map (·.1) else kvs.map (·.1) ++ [k] := by
  unfold dput
  rw [dval_any]
  by_cases h : (dval kvs k).isSome = true
  · rw [if_pos h, if_pos h, List.map_map]
    refine List.map_congr_left fun kv _ => ?_
    show (if kv.1 = k then (kv.1, d) else kv).1 = kv.1
    by_cases e : kv.1 = k
    · rw [if_pos e]
    · rw [if_neg e]
  · rw [if_neg h, if_neg h, List.map_append]; rfl
/-- the dict of the powers of a number -/
def DI (kvs : List (Key × D)) (g : Nat) : Prop := (∀ p : Nat, dval kvs (.inl (p : Int)) = if NT.isP p = true ∧ g % p = 0 then some (.int ((NT.vl p g : Nat) : Int)) else none) ∧
  ∃ ks : List Nat, kvs.map (·.1) = ks.map (fun p : Nat => (Sum.inl (p : Int) : Key)) ∧ ks.Nodup ∧ ∀ p, p ∈ ks ↔ NT.isP p = true ∧ g % p = 0
theorem DI.one : DI [] 1 := by
  have h : ∀ p, ¬ (NT.isP p = true ∧ 1 % p = 0) := fun p ⟨a, b⟩ => by
    have := NT.two_le a
    rw [Nat.mod_eq_of_lt (by omega)] at b
    cases b
  exact ⟨fun p => by rw [if_neg (h p)]; rfl, [], rfl, .nil, fun p => ⟨fun z => (nomatch z), fun z => absurd z (h p)⟩⟩
theorem mod_mul {p q g : Nat} (hp : NT.isP p = true) (hq : NT.isP q = true) (h : p ≠ q) (g0 : 0 < g) : (g * p) % q = 0 ↔ g % q = 0 := by
  have p2 := NT.two_le hp
  have q2 := NT.two_le hq
  have e := NT.vl_div hp hq h (Nat.mul_pos g0 (by omega)) (Nat.dvd_mul_left p g)
  rw [Nat.mul_div_cancel _ (by omega)] at e
  rw [← NT.vl_pos q2 (Nat.mul_pos g0 (by omega)), ← NT.vl_pos q2 g0, e]
theorem DI.step {kvs : List (Key × D)} {g p : Nat} (h : DI kvs g) (hp : NT.isP p = true) (g0 : 0 < g) : DI (dput kvs (.inl (p : Int)) (.int ((NT.vl p g : Nat) + 1))) (g * p) := by
  have p2 := NT.two_le hp
  obtain ⟨hv, ks, hk, hn, hm⟩ := h
  have hgp : (g * p) % p = 0 := Nat.mul_mod_left g p
  have hvp : NT.vl p (g * p) = NT.vl p g + 1 := by
    have := NT.vl_go p2 (Nat.mul_pos g0 (by omega)) hgp
    rwa [Nat.mul_div_cancel _ (by omega)] at this
  refine ⟨fun q => ?_, ?_⟩
  · rw [dval_put]
    by_cases e : q = p
    · subst e
      rw [if_pos rfl, if_pos ⟨hp, hgp⟩, hvp]
      rfl
    · rw [if_neg (fun z => e (by have := Sum.inl.inj z; omega)), hv q]
      by_cases hq : NT.isP q = true
      · have hd := NT.vl_div hp hq (Ne.symm e) (Nat.mul_pos g0 (by omega)) (Nat.dvd_mul_left p g)
        rw [Nat.mul_div_cancel _ (by omega)] at hd
        rw [← hd]
        have hmm := mod_mul hp hq (Ne.symm e) g0
        by_cases w : g % q = 0
        · rw [if_pos ⟨hq, w⟩, if_pos ⟨hq, hmm.mpr w⟩]
        · rw [if_neg (fun z => w z.2), if_neg (fun z => w (hmm.mp z.2))]
      · rw [if_neg (fun z => hq z.1), if_neg (fun z => hq z.1)]
  · have e0 := hv p
    by_cases w : g % p = 0
    · rw [if_pos ⟨hp, w⟩] at e0
      rw [dput_keys, e0, if_pos (by rfl)]
      refine ⟨ks, hk, hn, fun q => (hm q).trans ?_⟩
      by_cases e : q = p
      · subst e; exact ⟨fun _ => ⟨hp, hgp⟩, fun _ => ⟨hp, w⟩⟩
      · exact ⟨fun z => ⟨z.1, (mod_mul hp z.1 (Ne.symm e) g0).mpr z.2⟩, fun z => ⟨z.1, (mod_mul hp z.1 (Ne.symm e) g0).mp z.2⟩⟩
    · rw [if_neg (fun z => w z.2)] at e0
      rw [dput_keys, e0, if_neg (by simp)]
      refine ⟨ks ++ [p], by rw [List.map_append, hk]; rfl, ?_, fun q => ?_⟩
      · rw [List.nodup_append]
        refine ⟨hn, by simp, fun a ha b hb e => ?_⟩
        rw [List.mem_singleton] at hb
        rw [e, hb] at ha
        exact w ((hm p).mp ha).2
      · rw [List.mem_append, List.mem_singleton, hm q]
        by_cases e : q = p
        · subst e; exact ⟨fun _ => ⟨hp, hgp⟩, fun _ => .inr rfl⟩
        · exact ⟨fun z => by
            rcases z with z | z
            · exact ⟨z.1, (mod_mul hp z.1 (Ne.symm e) g0).mpr z.2⟩
            · exact absurd z e, fun z => .inl ⟨z.1, (mod_mul hp z.1 (Ne.symm e) g0).mp z.2⟩⟩
theorem DI.get {kvs : List (Key × D)} {g p : Nat} (h : DI kvs g) (hp : NT.isP p = true) : (dval kvs (.inl (p : Int))).getD (.int 0) = .int ((NT.vl p g : Nat) : Int) := by
  rw [h.1 p]
  by_cases w : g % p = 0
  · rw [if_pos ⟨hp, w⟩]; rfl
  · rw [if_neg (fun z => w z.2), NT.vl_stop w]; rfl
theorem dput_len (kvs : List (Key × D)) (k : Key) (d : D) : (dput kvs k d).length ≤ kvs.length + 1 := by
  unfold dput
  by_cases h : (kvs.any fun kv => decide (kv.1 = k)) = true
  · rw [if_pos h]; simp
  · rw [if_neg h]; simp
/-- dict(pairs) looked up -/
theorem merge_none {k : Key} : ∀ {kvs acc : List (Key × D)}, (∀ kv ∈ kvs, kv.1 ≠ k) → dval (kvs.foldl (fun acc kv => dput acc kv.1 kv.2) acc) k = dval acc k
  | [], _, _ => rfl
  | p :: r, acc, h => by
    rw [List.foldl_cons, merge_none fun kv hk => h kv (List.mem_cons_of_mem _ hk), dval_put, if_neg (fun z => h p (by simp) z.symm)]
theorem merge_some {k : Key} {d : D} : ∀ {kvs acc : List (Key × D)}, (∀ kv ∈ kvs, kv.1 = k → kv.2 = d) → (dval acc k = some d ∨ ∃ kv ∈ kvs, kv.1 = k) → dval (kvs.foldl (fun acc kv => dput acc kv.1 kv.2) acc) k = some d
  | [], acc, _, h => by
    rcases h with h | ⟨kv, hk, _⟩
    · exact h
    · cases hk
  | p :: r, acc, h, h2 => by
    rw [List.foldl_cons]
    refine merge_some (fun kv hk => h kv (List.mem_cons_of_mem _ hk)) ?_
    rw [dval_put]
    by_cases e : p.1 = k
    · rw [if_pos e.symm, h p (by simp) e]; exact .inl rfl
    · rw [if_neg (fun z => e z.symm)]
      rcases h2 with h2 | ⟨kv, hk, he⟩
      · exact .inl h2
      · rcases List.mem_cons.mp hk with z | z
        · subst z; exact absurd he e
        · exact .inr ⟨kv, z, he⟩
def kvP (x : Nat × Nat) : Key × D := (.inl (x.1 : Int), .int (x.2 : Int))
theorem pairsOf_pp : ∀ xs : List (Nat × Nat), DL.pairsOf (xs.map ppD) = some (xs.map kvP)
  | [] => rfl
  | x :: xs => by
    rw [List.map_cons, List.map_cons]
    unfold ppD
    rw [DL.pairsOf]
    have := pairsOf_pp xs
    unfold ppD at this
    rw [this]
    rfl
theorem merge_pw {g p : Nat} (g0 : 0 < g) (hp : NT.isP p = true) : (dval (dmerge ((NT.pw g).map kvP)) (.inl (p : Int))).getD (.int 0) = .int ((NT.vl p g : Nat) : Int) := by
  unfold dmerge
  by_cases h : g % p = 0
  · rw [merge_some (d := .int ((NT.vl p g : Nat) : Int))]
    · rfl
    · intro kv hk e
      rw [List.mem_map] at hk
      obtain ⟨x, hx, rfl⟩ := hk
      have := (NT.mem_pw g0 x).mp hx
      have e : (x.1 : Int) = (p : Int) := Sum.inl.inj e
      have e : x.1 = p := by omega
      show PyData.int (x.2 : Int) = _
      rw [this.2.2, e]
    · refine .inr ⟨kvP (p, NT.vl p g), ?_, rfl⟩
      rw [List.mem_map]
      exact ⟨_, (NT.mem_pw g0 _).mpr ⟨hp, h, rfl⟩, rfl⟩
  · rw [merge_none]
    · rw [NT.vl_stop h]; rfl
    · intro kv hk e
      rw [List.mem_map] at hk
      obtain ⟨x, hx, rfl⟩ := hk
      have := (NT.mem_pw g0 x).mp hx
      have e : (x.1 : Int) = (p : Int) := Sum.inl.inj e
      have e : x.1 = p := by omega
      rw [e] at this
      exact h this.2.1
end Law
/-! Small lemmas that many laws take. -/
namespace Law
open PySem PySem.Spec PyProof.Rows L2 DL
theorem rngN (m : Nat) (hm : m ≤ 1000000) : rngOf [.int 1, .int ((m : Int) + 1)] = some ((List.range m).map fun i : Nat => PyData.int (1 + (i : Int) * 1)) := by
  have hr := x_rng2 (i := 1) (j := (m : Int) + 1) (by omega)
  rwa [show ((m : Int) + 1 - 1).toNat = m from by omega, rngD_map] at hr
theorem rep2 (a : D) (k n : Nat) (ha : Tx a k n) (hk : k < 60) (hn : n ≤ 400000) : oRepr [.list [a, a]] = some (.at (.str (PyData.shown (.list [a, a])))) :=
  (Tx.list 2 (k := k) (m := n) (fun x hx => by
    have : x = a := by simpa using hx
    subst this
    exact ha) (by simp)).repr (by omega) (by omega)
theorem nats_tx {xs : List Nat} (h : ∀ d ∈ xs, d ≤ 1000000000000) (hl : xs.length ≤ 10000) : Tx (.list (xs.map natD)) 1 (3 + 10000 * 23) :=
  Tx.list 10000 (k := 0) (m := 21) (fun x hx => by
    rw [List.mem_map] at hx
    obtain ⟨d, hd, rfl⟩ := hx
    have := h d hd
    exact Tx.int (by omega)) (by simpa using hl)
theorem divs_eqv : ∀ xs : List Nat, PyData.eqvAll (xs.map natD) (xs.map natD) = true
  | [] => by simp
  | x :: xs => by
    rw [List.map_cons, eqvAll_cons, divs_eqv xs]
    unfold natD
    simp
theorem divs_dep : ∀ xs : List Nat, PyData.depthAll (xs.map natD) = 0
  | [] => rfl
  | x :: xs => by
    have := divs_dep xs
    rw [List.map_cons]
    unfold natD at *
    simp_all [PyData.depthAll, PyData.depth]
theorem nats_oEq (xs : List Nat) : oEq (.list (xs.map natD)) (.list (xs.map natD)) = some (.at (.bool true)) := by
  rw [x_oEq _ _ (.inl (by rw [PyData.depth, divs_dep]; decide)), eqv_list, divs_eqv]
theorem nats_oNe (xs : List Nat) : oNe (.list (xs.map natD)) (.list (xs.map natD)) = some (.at (.bool false)) := by
  rw [x_oNe _ _ (.inl (by rw [PyData.depth, divs_dep]; decide)), eqv_list, divs_eqv]; rfl
theorem zipD_maps {α : Type} (f h : α → D) : ∀ xs : List α, zipD (xs.map f) (xs.map h) = xs.map fun x => .tuple [f x, h x]
  | [] => by simp [zipD]
  | x :: xs => by rw [List.map_cons, List.map_cons, List.map_cons, zipD, zipD_maps f h xs]
theorem natD_inj_le (g : Nat) (hg : 1 ≤ g) : ∀ d ∈ NT.divs g, d * (g / d) = g ∧ d ≤ g ∧ 0 < d := fun d hd => by
  have h := (NT.mem_divs (by omega)).mp hd
  exact ⟨Nat.mul_div_cancel' h, Nat.le_of_dvd (by omega) h, Nat.pos_of_dvd_of_pos h (by omega)⟩
theorem cutD_take {α : Type} (xs : List α) (k : Nat) : DL.cutD xs none (some (k : Int)) = xs.take k := by
  unfold DL.cutD HT.sIx
  simp only [Nat.sub_zero, List.drop_zero]
  rw [if_neg (by omega), Int.toNat_natCast]
  by_cases h : k ≤ xs.length
  · rw [Nat.min_eq_left h]
  · rw [Nat.min_eq_right (by omega), List.take_length, List.take_of_length_le (by omega)]
theorem cutD_map {α β : Type} (f : α → β) (xs : List α) (a b : Option Int) : DL.cutD (xs.map f) a b = (DL.cutD xs a b).map f := by
  unfold DL.cutD
  rw [List.length_map, List.map_take, List.map_drop]
theorem cutD_mem {α : Type} {xs : List α} {a b : Option Int} {x : α} (h : x ∈ DL.cutD xs a b) : x ∈ xs := List.mem_of_mem_drop (List.mem_of_mem_take h)
theorem repr2 (a b : D) (k n : Nat) (ha : Tx a k n) (hb : Tx b k n) (hk : k < 60) (hn : n ≤ 400000) : oRepr [.list [a, b]] = some (.at (.str (PyData.shown (.list [a, b])))) :=
  (Tx.list 2 (k := k) (m := n) (fun x hx => by
    simp only [List.mem_cons, List.not_mem_nil, or_false] at hx
    rcases hx with rfl | rfl
    · exact ha
    · exact hb) (by simp)).repr (by omega) (by omega)
theorem reprL (xs : List D) (k n L : Nat) (h : ∀ x ∈ xs, Tx x k n) (hl : xs.length ≤ L) (hk : k < 60) (hn : 3 + L * (n + 2) ≤ 16777216) : oRepr [.list xs] = some (.at (.str (PyData.shown (.list xs)))) :=
  (Tx.list L (k := k) (m := n) h hl).repr (by omega) hn
theorem oNe_bool (x y : Bool) : oNe (.bool x) (.bool y) = some (.at (.bool (!(x == y)))) := by
  rw [x_oNe _ _ (by simp), PyData.eqv]
theorem oEq_bool (x y : Bool) : oEq (.bool x) (.bool y) = some (.at (.bool (x == y))) := by
  rw [x_oEq _ _ (by simp), PyData.eqv]
theorem oNe_strSelf (x : PySem.Str) : oNe (.str x) (.str x) = some (.at (.bool false)) := by
  rw [x_oNeS]; simp
/-- a row of data, each of which turns the environment on within a bound -/
theorem fN_lits {t : Tg} {g : DSt} (P : DL.Env → Prop) {ds : List D} {ρ : DL.Env} (h : ∀ d ∈ ds, ∀ ρ, P ρ → ∃ ρ', fT t g ρ d = .nx ρ' ∧ P ρ') (p : P ρ) : ∃ ρ', fN t g ds ρ = .nx ρ' ∧ P ρ' :=
  fN_inv P (fun d hd ρ hp => by obtain ⟨ρ', e, q⟩ := h d hd ρ hp; exact ⟨ρ', .inl e, q⟩) p
end Law
/-! Primes, parts and places of the numbers to 60, couples of places, breaks of a row: plain. -/
namespace NT
def lpGo : Nat → List Nat → Nat → Nat → List Nat
  | 0, f, l, _ => f ++ if 1 < l then [l] else []
  | k + 1, f, l, o => if o * o ≤ l then (if l % o = 0 then lpGo k (f ++ [o]) (l / o) o else lpGo k f l (o + 1)) else f ++ if 1 < l then [l] else []
/-- the primes of n, each as often as it goes in -/
def lpr (n : Nat) : List Nat := lpGo (2 * n) [] n 2
def dedN : List Nat → List Nat
  | [] => []
  | i :: r => if i ∈ r then dedN r else i :: dedN r
/-- the powers of primes that make up n -/
def prt (n : Nat) : List Nat := (dedN (lpr n)).map fun p => p ^ (lpr n).count p
/-- the powers of primes to m -/
def plc (m : Nat) : List Nat := ((List.range (m - 1)).map fun i => i + 2).filter fun q => decide ((prt q).length = 1)
def prs (m : Nat) : List Nat := ((List.range (m - 1)).map fun i => i + 2).filter fun q => decide (lpr q = [q])
theorem small_all {P : Nat → Bool} (h : ((List.range 60).all fun i => P (i + 1)) = true) {n : Nat} (hn : 1 ≤ n ∧ n ≤ 60) : P n = true := by
  have := List.all_eq_true.mp h (n - 1) (List.mem_range.mpr (by omega))
  rwa [show n - 1 + 1 = n from by omega] at this
theorem ded_rises : ((List.range 60).all fun i => decide ((dedN (lpr (i + 1))).Pairwise (· < ·))) = true := by decide +kernel
theorem lpr_few : ((List.range 60).all fun i => decide ((lpr (i + 1)).length ≤ 5)) = true := by decide +kernel
theorem lpr_in : ((List.range 60).all fun i => (lpr (i + 1)).all fun q => decide (2 ≤ q ∧ q ≤ i + 1) && decide (lpr q = [q])) = true := by decide +kernel
theorem prt_in : ((List.range 60).all fun i => (prt (i + 1)).all fun q => decide (2 ≤ q ∧ q ≤ i + 1) && decide ((prt q).length = 1)) = true := by decide +kernel
theorem prt_pw : ((List.range 60).all fun i => decide ((prt (i + 1)).length = (pw (i + 1)).length)) = true := by decide +kernel
theorem mem_plc {m q : Nat} : q ∈ plc m ↔ (2 ≤ q ∧ q ≤ m) ∧ (prt q).length = 1 := by
  unfold plc
  rw [List.mem_filter, List.mem_map, decide_eq_true_eq]
  constructor
  · rintro ⟨⟨a, ha, rfl⟩, h⟩
    have := List.mem_range.mp ha
    exact ⟨by omega, h⟩
  · rintro ⟨⟨h1, h2⟩, h⟩
    exact ⟨⟨q - 2, List.mem_range.mpr (by omega), by omega⟩, h⟩
theorem mem_prs {m q : Nat} : q ∈ prs m ↔ (2 ≤ q ∧ q ≤ m) ∧ lpr q = [q] := by
  unfold prs
  rw [List.mem_filter, List.mem_map, decide_eq_true_eq]
  constructor
  · rintro ⟨⟨a, ha, rfl⟩, h⟩
    have := List.mem_range.mp ha
    exact ⟨by omega, h⟩
  · rintro ⟨⟨h1, h2⟩, h⟩
    exact ⟨⟨q - 2, List.mem_range.mpr (by omega), by omega⟩, h⟩
theorem part_place {m n q : Nat} (hm : m ≤ 60) (hn : 1 ≤ n ∧ n ≤ m) (h : q ∈ prt n) : q ∈ plc m := by
  have := List.all_eq_true.mp (small_all (P := fun n => (prt n).all fun q => decide (2 ≤ q ∧ q ≤ n) && decide ((prt q).length = 1)) prt_in (n := n) (by omega)) q h
  rw [Bool.and_eq_true, decide_eq_true_eq, decide_eq_true_eq] at this
  exact mem_plc.mpr ⟨⟨this.1.1, by omega⟩, this.2⟩
theorem prime_place {m n q : Nat} (hm : m ≤ 60) (hn : 1 ≤ n ∧ n ≤ m) (h : q ∈ lpr n) : q ∈ prs m := by
  have := List.all_eq_true.mp (small_all (P := fun n => (lpr n).all fun q => decide (2 ≤ q ∧ q ≤ n) && decide (lpr q = [q])) lpr_in (n := n) (by omega)) q h
  rw [Bool.and_eq_true, decide_eq_true_eq, decide_eq_true_eq] at this
  exact mem_prs.mpr ⟨⟨this.1.1, by omega⟩, this.2⟩
theorem plc_nodup (m : Nat) : (plc m).Nodup := by
  unfold plc
  refine List.Pairwise.filter _ (List.pairwise_map.mpr ((List.nodup_range (n := m - 1)).imp fun h e => h (by omega)))
theorem prs_nodup (m : Nat) : (prs m).Nodup := by
  unfold prs
  refine List.Pairwise.filter _ (List.pairwise_map.mpr ((List.nodup_range (n := m - 1)).imp fun h e => h (by omega)))
theorem plc_len (m : Nat) : (plc m).length ≤ m := by
  unfold plc
  refine Nat.le_trans (List.length_filter_le _ _) ?_
  rw [List.length_map, List.length_range]; omega
theorem prs_len (m : Nat) : (prs m).length ≤ m := by
  unfold prs
  refine Nat.le_trans (List.length_filter_le _ _) ?_
  rw [List.length_map, List.length_range]; omega
/-- the couples that begin with a -/
def cpsA (a m : Nat) : List (Nat × Nat) := (List.range (m / a + 1 - a)).map fun t => (a, a + t)
def cps (m : Nat) : List (Nat × Nat) := (List.range (m - 1)).flatMap fun i => cpsA (i + 2) m
/-- the row fails at the couple -/
def G (f : Nat → Int) (c : Nat × Nat) : Bool := !decide (f (c.1 * c.2 - 1) = f (c.1 - 1) * f (c.2 - 1))
def cop (c : Nat × Nat) : Bool := Nat.gcd c.1 c.2 == 1
def wbk (f : Nat → Int) (m : Nat) : List (Nat × Nat) := (cps m).filter (G f)
def brk (f : Nat → Int) (m : Nat) : List (Nat × Nat) := (wbk f m).filter cop
theorem mem_cpsA {a m : Nat} (ha : 2 ≤ a) {c : Nat × Nat} : c ∈ cpsA a m ↔ c.1 = a ∧ a ≤ c.2 ∧ a * c.2 ≤ m := by
  unfold cpsA
  rw [List.mem_map]
  constructor
  · rintro ⟨t, ht, rfl⟩
    have h := List.mem_range.mp ht
    have h1 : a + t ≤ m / a := by omega
    exact ⟨rfl, by simp, by show a * (a + t) ≤ m; have := Nat.mul_le_mul_left a h1; have := Nat.mul_div_le m a; omega⟩
  · rintro ⟨rfl, h1, h2⟩
    have : c.2 ≤ m / c.1 := (Nat.le_div_iff_mul_le (by omega)).mpr (by rw [Nat.mul_comm]; exact h2)
    exact ⟨c.2 - c.1, List.mem_range.mpr (by omega), by rw [show c.1 + (c.2 - c.1) = c.2 from by omega]⟩
theorem mem_cps {m : Nat} {c : Nat × Nat} : c ∈ cps m ↔ 2 ≤ c.1 ∧ c.1 ≤ c.2 ∧ c.1 * c.2 ≤ m := by
  unfold cps
  rw [List.mem_flatMap]
  constructor
  · rintro ⟨i, hi, h⟩
    obtain ⟨h1, h2, h3⟩ := (mem_cpsA (by omega)).mp h
    exact ⟨by omega, by omega, by rw [h1]; exact h3⟩
  · rintro ⟨h1, h2, h3⟩
    have : c.1 * 2 ≤ c.1 * c.2 := Nat.mul_le_mul_left _ (by omega)
    refine ⟨c.1 - 2, List.mem_range.mpr (by omega), (mem_cpsA (by omega)).mpr ⟨by omega, by omega, ?_⟩⟩
    rw [show c.1 - 2 + 2 = c.1 from by omega]; exact h3
/-- the breaks as the law counts them -/
def cpsB (a m : Nat) : List (Nat × Nat) := (List.range (m / a + 1 - (a + 1))).map fun t => (a, a + 1 + t)
theorem cpsB_filter {a m : Nat} (ha : 2 ≤ a) (P : Nat × Nat → Bool) : (cpsB a m).filter (fun c => cop c && P c) = ((cpsA a m).filter P).filter cop := by
  rw [List.filter_filter]
  unfold cpsA cpsB
  by_cases h : m / a + 1 - a = 0
  · rw [h, show m / a + 1 - (a + 1) = 0 from by omega]; rfl
  · rw [show m / a + 1 - a = (m / a + 1 - (a + 1)) + 1 from by omega, List.range_succ_eq_map, List.map_cons, List.map_map]
    have hc : cop (a, a + 0) = false := by
      show (Nat.gcd a (a + 0) == 1) = false
      rw [Nat.add_zero, Nat.gcd_self]
      exact beq_eq_false_iff_ne.mpr (by omega)
    rw [List.filter_cons_of_neg (by rw [hc]; simp)]
    congr 1
    exact List.map_congr_left fun t _ => by show (a, a + 1 + t) = (a, a + (t + 1)); rw [Nat.add_assoc, Nat.add_comm 1]
theorem wbk_flat (f : Nat → Int) (m : Nat) : wbk f m = (List.range (m - 1)).flatMap fun i => (cpsA (i + 2) m).filter (G f) := by
  unfold wbk cps
  rw [List.filter_flatMap]
theorem brk_flat (f : Nat → Int) (m : Nat) : brk f m = (List.range (m - 1)).flatMap fun i => (cpsB (i + 2) m).filter fun c => cop c && G f c := by
  unfold brk
  rw [wbk_flat, List.filter_flatMap]
  congr 1
  funext i
  exact (cpsB_filter (by omega) _).symm
theorem mem_wbk {f : Nat → Int} {m : Nat} {c : Nat × Nat} : c ∈ wbk f m ↔ (2 ≤ c.1 ∧ c.1 ≤ c.2 ∧ c.1 * c.2 ≤ m) ∧ G f c = true := by
  unfold wbk
  rw [List.mem_filter, mem_cps]
theorem mem_brk {f : Nat → Int} {m : Nat} {c : Nat × Nat} : c ∈ brk f m ↔ ((2 ≤ c.1 ∧ c.1 ≤ c.2 ∧ c.1 * c.2 ≤ m) ∧ G f c = true) ∧ cop c = true := by
  unfold brk
  rw [List.mem_filter, mem_wbk]
theorem cps_few : ((List.range 60).all fun i => decide ((cps (i + 1)).length ≤ 80) && decide (((cps (i + 1)).filter cop).length < 64)) = true := by decide +kernel
theorem filter_swap {α : Type} (p q : α → Bool) (xs : List α) : (xs.filter p).filter q = (xs.filter q).filter p := by
  rw [List.filter_filter, List.filter_filter]
  congr 1
  funext x
  rw [Bool.and_comm]
theorem brk_len (f : Nat → Int) {m : Nat} (hm : 1 ≤ m ∧ m ≤ 60) : (brk f m).length < 64 := by
  have := small_all (P := fun n => decide ((cps n).length ≤ 80) && decide (((cps n).filter cop).length < 64)) cps_few hm
  rw [Bool.and_eq_true, decide_eq_true_eq, decide_eq_true_eq] at this
  unfold brk wbk
  rw [filter_swap]
  exact Nat.lt_of_le_of_lt (List.length_filter_le _ _) this.2
theorem wbk_len (f : Nat → Int) {m : Nat} (hm : 1 ≤ m ∧ m ≤ 60) : (wbk f m).length ≤ 80 := by
  have := small_all (P := fun n => decide ((cps n).length ≤ 80) && decide (((cps n).filter cop).length < 64)) cps_few hm
  rw [Bool.and_eq_true, decide_eq_true_eq, decide_eq_true_eq] at this
  exact Nat.le_trans (List.length_filter_le _ _) this.1
/-- products of a table's worths -/
def prodW (w : Nat → Int) (xs : List Nat) : Int := xs.foldl (fun a q => a * w q) 1
theorem prodW_fold (w : Nat → Int) {B : Nat} (hB : 1 ≤ B) (h : ∀ q, (w q).natAbs ≤ B) : ∀ (xs : List Nat) (a : Int) (k : Nat), a.natAbs ≤ B ^ k → (xs.foldl (fun a q => a * w q) a).natAbs ≤ B ^ (k + xs.length)
  | [], a, k, ha => ha
  | q :: xs, a, k, ha => by
    have := prodW_fold w hB h xs (a * w q) (k + 1) (by rw [Int.natAbs_mul, Nat.pow_succ]; exact Nat.mul_le_mul ha (h q))
    rw [List.length_cons, show k + (xs.length + 1) = k + 1 + xs.length from by omega]
    exact this
theorem prodW_le (w : Nat → Int) {B L : Nat} (hB : 1 ≤ B) (h : ∀ q, (w q).natAbs ≤ B) {xs : List Nat} (hl : xs.length ≤ L) : (prodW w xs).natAbs ≤ B ^ L :=
  Nat.le_trans (by have := prodW_fold w hB h xs 1 0 (by simp); rwa [Nat.zero_add] at this) (Nat.pow_le_pow_right hB hl)
theorem lpr_len {n : Nat} (hn : 1 ≤ n ∧ n ≤ 60) : (lpr n).length ≤ 5 := of_decide_eq_true (small_all (P := fun n => decide ((lpr n).length ≤ 5)) lpr_few hn)
theorem dedN_len : ∀ xs : List Nat, (dedN xs).length ≤ xs.length
  | [] => Nat.le_refl _
  | i :: r => by
    have := dedN_len r
    unfold dedN
    split <;> simp <;> omega
theorem prt_len {n : Nat} (hn : 1 ≤ n ∧ n ≤ 60) : (prt n).length ≤ 5 := by
  unfold prt
  rw [List.length_map]
  exact Nat.le_trans (dedN_len _) (lpr_len hn)
theorem prt_one {n : Nat} (hn : 1 ≤ n ∧ n ≤ 60) : (prt n).length = (pw n).length := of_decide_eq_true (small_all (P := fun n => decide ((prt n).length = (pw n).length)) prt_pw hn)
end NT
namespace DL
noncomputable section
open PySem PySem.Spec PyProof.Rows L2
theorem dedI_nat : ∀ xs : List Nat, dedI (xs.map fun p : Nat => (p : Int)) = (NT.dedN xs).map fun p : Nat => (p : Int)
  | [] => rfl
  | i :: r => by
    rw [List.map_cons, dedI, NT.dedN, dedI_nat r]
    have : ((i : Int) ∈ r.map fun p : Nat => (p : Int)) ↔ i ∈ r := by
      rw [List.mem_map]
      exact ⟨fun ⟨a, h, e⟩ => by rw [← Int.ofNat_inj.mp e]; exact h, fun h => ⟨i, h, rfl⟩⟩
    by_cases h : i ∈ r
    · rw [if_pos (this.mpr h), if_pos h]
    · rw [if_neg (fun z => h (this.mp z)), if_neg h, List.map_cons]
theorem sset_nat {xs : List Nat} (h : (NT.dedN xs).Pairwise (· < ·)) : (sortI (dedI (xs.map fun p : Nat => (p : Int)))).map PyData.int = (NT.dedN xs).map natD := by
  rw [dedI_nat, ← sortI_eq (List.Perm.refl _) (List.pairwise_map.mpr (h.imp fun h => by omega)), List.map_map]
  rfl
theorem natD_ints (xs : List Nat) : xs.map natD = (xs.map fun p : Nat => (p : Int)).map PyData.int := by
  rw [List.map_map]; rfl
theorem intsOf_natD (xs : List Nat) : intsOf (xs.map natD) = some (xs.map fun p : Nat => (p : Int)) := by
  rw [natD_ints, map_intsOf]
theorem count_nat (k : Nat) (xs : List Nat) : (xs.map fun p : Nat => (p : Int)).count (k : Int) = xs.count k := by
  induction xs with
  | nil => rfl
  | cons a r ih =>
    rw [List.map_cons, List.count_cons, List.count_cons, ih]
    congr 1
    by_cases h : a = k
    · subst h; simp
    · have h2 : ¬ (a : Int) = (k : Int) := by omega
      simp [h, h2]
/-- a comprehension with a test, its items told one by one -/
inductive Two {α : Type} (R : α → D → Prop) : List α → List D → Prop
  | nil : Two R [] []
  | cons {a : α} {d : D} {as : List α} {ds : List D} : R a d → Two R as ds → Two R (a :: as) (d :: ds)
theorem Two.len {α : Type} {R : α → D → Prop} {as : List α} {ds : List D} (h : Two R as ds) : ds.length = as.length := by
  induction h with
  | nil => rfl
  | cons _ _ ih => rw [List.length_cons, List.length_cons, ih]
theorem lcL_two {α : Type} {t : Tg} {tt : DTx} {f : DEx} {vs : List Nat} {enc : α → D} (I : DL.Env → Prop) (p : α → Bool) (R : α → D → Prop) : ∀ {as : List α} {ρ : DL.Env} {acc : List D},
    (∀ a ∈ as, ∀ ρ, I ρ → ∃ z ρ', lcT t tt f vs ρ (enc a) = some (z, ρ') ∧ I ρ' ∧ ((p a = true ∧ ∃ x, z = some x ∧ R a x) ∨ (p a = false ∧ z = none))) → I ρ → acc.length + as.length ≤ LIM →
    ∃ ys ρ', lcL t tt f vs (as.map enc) ρ acc = some (acc ++ ys, ρ') ∧ Two R (as.filter p) ys ∧ I ρ'
  | [], ρ, acc, _, i, _ => ⟨[], ρ, by simp, .nil, i⟩
  | a :: as, ρ, acc, h, i, hl => by
    rw [List.length_cons] at hl
    obtain ⟨z, ρ1, e, i1, hz⟩ := h a (by simp) ρ i
    have h' := fun b (hb : b ∈ as) => h b (List.mem_cons_of_mem _ hb)
    rcases hz with ⟨hp, x, rfl, hx⟩ | ⟨hp, rfl⟩
    · obtain ⟨ys, ρ2, e2, ht, i2⟩ := lcL_two I p R (as := as) (ρ := ρ1) (acc := acc ++ [x]) h' i1 (by simp; omega)
      refine ⟨x :: ys, ρ2, ?_, by rw [List.filter_cons_of_pos hp]; exact .cons hx ht, i2⟩
      rw [List.map_cons, lcL_turn (hl := by omega), e]
      simpa using e2
    · obtain ⟨ys, ρ2, e2, ht, i2⟩ := lcL_two I p R (as := as) (ρ := ρ1) (acc := acc) h' i1 (by omega)
      refine ⟨ys, ρ2, ?_, by rw [List.filter_cons_of_neg (by rw [hp]; simp)]; exact ht, i2⟩
      rw [List.map_cons, lcL_turn (hl := by omega), e]
      exact e2
/-- an entry of a table of worths -/
def wpD (w : Nat → Int) (p : Nat) : D := .tuple [natD p, .int (w p)]
def wkv (w : Nat → Int) (p : Nat) : Key × D := (.inl (p : Int), .int (w p))
theorem pairsOf_wp (w : Nat → Int) : ∀ ps : List Nat, pairsOf (ps.map (wpD w)) = some (ps.map (wkv w))
  | [] => rfl
  | p :: ps => by
    have ih := pairsOf_wp w ps
    rw [List.map_cons, List.map_cons]
    show pairsOf (.tuple [.int (p : Int), .int (w p)] :: ps.map (wpD w)) = _
    rw [pairsOf, x_keyInt, ih]
    rfl
theorem dval_wp (w : Nat → Int) {ps : List Nat} {p : Nat} (h : p ∈ ps) : dval (dmerge (ps.map (wkv w))) (.inl (p : Int)) = some (.int (w p)) := by
  refine Law.merge_some (fun kv hk e => ?_) (.inr ⟨wkv w p, List.mem_map.mpr ⟨p, h, rfl⟩, rfl⟩)
  obtain ⟨q, _, rfl⟩ := List.mem_map.mp hk
  have e : (Sum.inl (q : Int) : Key) = Sum.inl (p : Int) := e
  injection e with e
  rw [show q = p from by omega]
  rfl
/-- drawn worths are a function of their keys -/
theorem wp_of {B : Nat} : ∀ {ps : List Nat} {ys : List D}, ps.Nodup → Two (fun p d => ∃ i : Int, d = .tuple [natD p, .int i] ∧ i.natAbs ≤ B) ps ys → ∃ w : Nat → Int, ys = ps.map (wpD w) ∧ ∀ q, (w q).natAbs ≤ B
  | [], _, _, .nil => ⟨fun _ => 0, rfl, fun _ => by simp⟩
  | p :: ps, _, nd, .cons h t => by
    obtain ⟨i, rfl, hi⟩ := h
    obtain ⟨n1, n2⟩ := List.nodup_cons.mp nd
    obtain ⟨w, rfl, hw⟩ := wp_of n2 t
    refine ⟨fun q => if q = p then i else w q, ?_, fun q => by
      show (if q = p then i else w q).natAbs ≤ B
      split
      · exact hi
      · exact hw q⟩
    rw [List.map_cons]
    congr 1
    · simp [wpD]
    · exact List.map_congr_left fun q hq => by
        have : ¬ q = p := fun e => n1 (by rw [← e]; exact hq)
        simp [wpD, this]
theorem pps_eqv : ∀ xs : List (Nat × Nat), PyData.eqvAll (xs.map ppD) (xs.map ppD) = true
  | [] => by rw [List.map_nil, PyData.eqvAll]
  | x :: xs => by
    rw [List.map_cons, eqvAll_cons, pps_eqv xs]
    unfold ppD
    simp
theorem pps_dep : ∀ xs : List (Nat × Nat), PyData.depthAll (xs.map ppD) ≤ 1
  | [] => by simp
  | x :: xs => by
    rw [List.map_cons, x_dep_cons]
    have := pps_dep xs
    unfold ppD at *
    simp
    omega
theorem pps_oEq0 (xs : List (Nat × Nat)) : oEq (.list (xs.map ppD)) (.list []) = some (.at (.bool (decide (xs = [])))) := by
  rw [x_oEq _ _ (.inl (by rw [PyData.depth]; have := pps_dep xs; omega))]
  cases xs with
  | nil => simp [PyData.eqv]
  | cons x xs => simp [PyData.eqv, PyData.eqvAll]
theorem pps_oEq (xs : List (Nat × Nat)) : oEq (.list (xs.map ppD)) (.list (xs.map ppD)) = some (.at (.bool true)) := by
  rw [x_oEq _ _ (.inl (by rw [PyData.depth]; have := pps_dep xs; omega)), eqv_list, pps_eqv]
theorem pps_tx {xs : List (Nat × Nat)} (h : ∀ x ∈ xs, x.1 ≤ 1000000 ∧ x.2 ≤ 1000000) {L : Nat} (hl : xs.length ≤ L) : Tx (.list (xs.map ppD)) 2 (3 + L * 51) :=
  Tx.list (k := 1) (m := 49) L (fun x hx => by
    obtain ⟨y, hy, rfl⟩ := List.mem_map.mp hx
    have := h y hy
    exact Tx.tuple (k := 0) (m := 21) 2 (fun z hz => by
      simp at hz
      rcases hz with rfl | rfl
      · exact Tx.int (by omega)
      · exact Tx.int (by omega)) (by simp)) (by rw [List.length_map]; exact hl)
end
end DL
namespace DL
noncomputable section
open PySem PySem.Spec PyProof.Rows L2
theorem rng2N (m : Nat) (hm : m ≤ 1000000) : rngOf [.int 2, .int ((m : Int) + 1)] = some (((List.range (m - 1)).map fun i => i + 2).map natD) := by
  rw [x_rng2 (by omega), show ((m : Int) + 1 - 2).toNat = m - 1 from by omega, List.map_map]
  unfold rngD
  congr 1
  exact List.map_congr_left fun a _ => by show PyData.int _ = PyData.int _; congr 1; show 2 + (a : Int) * 1 = ((a + 2 : Nat) : Int); omega
theorem rngAB (a b : Nat) (h : b ≤ 1000000 ∧ a ≤ 1000000) : rngOf [.int (a : Int), .int (b : Int)] = some (((List.range (b - a)).map fun t => a + t).map natD) := by
  rw [x_rng2 (by omega), show ((b : Int) - (a : Int)).toNat = b - a from by omega, List.map_map]
  unfold rngD
  congr 1
  exact List.map_congr_left fun t _ => by show PyData.int _ = PyData.int _; congr 1; show (a : Int) + (t : Int) * 1 = ((a + t : Nat) : Int); omega
end
end DL
namespace DL
noncomputable section
open PySem PySem.Spec PyProof.Rows L2
/-- a walk whose every turn adds to one list -/
theorem fN_grow {α : Type} {t : Tg} {g : DSt} {enc : α → D} (env : List D → List Cell → DL.Env) (E : α → List D) (okc : List Cell → Prop) (L B : Nat) : ∀ {xs : List α} {fs : List D} {cs : List Cell},
    (∀ a ∈ xs, (E a).length ≤ L) → (∀ a ∈ xs, ∀ fs cs, okc cs → fs.length ≤ B → ∃ cs', okc cs' ∧ (fT t g (env fs cs) (enc a) = .nx (env (fs ++ E a) cs') ∨ fT t g (env fs cs) (enc a) = .ct (env (fs ++ E a) cs'))) → fs.length + L * xs.length ≤ B → okc cs →
    ∃ cs', okc cs' ∧ fN t g (xs.map enc) (env fs cs) = .nx (env (fs ++ xs.flatMap E) cs')
  | [], fs, cs, _, _, _, hc => ⟨cs, hc, by rw [List.flatMap_nil, List.append_nil]; rfl⟩
  | a :: xs, fs, cs, hE, h, hl, hc => by
    rw [List.length_cons, Nat.mul_add, Nat.mul_one] at hl
    obtain ⟨c1, h1, e1⟩ := h a (by simp) fs cs hc (by omega)
    have ha := hE a (by simp)
    obtain ⟨c2, h2, e2⟩ := fN_grow env E okc L B (xs := xs) (fs := fs ++ E a) (cs := c1) (fun b hb => hE b (List.mem_cons_of_mem _ hb)) (fun b hb => h b (List.mem_cons_of_mem _ hb)) (by rw [List.length_append]; omega) h1
    refine ⟨c2, h2, ?_⟩
    rw [List.map_cons, fN_turn, List.flatMap_cons, ← List.append_assoc]
    rcases e1 with e1 | e1
    · simp only [e1]; exact e2
    · simp only [e1]; exact e2
theorem flat_if {α β : Type} (p : α → Bool) (g : α → β) : ∀ xs : List α, (xs.flatMap fun x => if p x = true then [g x] else []) = (xs.filter p).map g
  | [] => rfl
  | x :: xs => by
    rw [List.flatMap_cons, flat_if p g xs]
    by_cases h : p x = true
    · rw [if_pos h, List.filter_cons_of_pos h, List.map_cons]; rfl
    · rw [if_neg h, List.filter_cons_of_neg h]; rfl
theorem rngAm (a m : Nat) (ha : 1 ≤ a ∧ a ≤ 1000) (hm : m ≤ 1000) : rngOf [.int (a : Int), .int ((m : Int) / (a : Int) + 1)] = some (((List.range (m / a + 1 - a)).map fun t => a + t).map natD) := by
  have := rngAB a (m / a + 1) (by have := Nat.div_le_self m a; omega)
  rwa [Int.natCast_add, Int.natCast_ediv] at this
theorem rngAm1 (a m : Nat) (ha : 1 ≤ a ∧ a ≤ 1000) (hm : m ≤ 1000) : rngOf [.int ((a : Int) + 1), .int ((m : Int) / (a : Int) + 1)] = some (((List.range (m / a + 1 - (a + 1))).map fun t => a + 1 + t).map natD) := by
  have := rngAB (a + 1) (m / a + 1) (by have := Nat.div_le_self m a; omega)
  rwa [Int.natCast_add, Int.natCast_add, Int.natCast_ediv] at this
end
end DL
namespace DL
noncomputable section
open PySem PySem.Spec PyProof.Rows L2
def yesD0 : DEx := fun _ => none
theorem natL_eqv : ∀ xs ys : List Nat, PyData.eqvAll (xs.map natD) (ys.map natD) = decide (xs = ys)
  | [], [] => by rw [List.map_nil, PyData.eqvAll]; rfl
  | [], y :: ys => by rw [List.map_nil, List.map_cons, PyData.eqvAll]; simp
  | x :: xs, [] => by rw [List.map_nil, List.map_cons, PyData.eqvAll]; simp
  | x :: xs, y :: ys => by
    rw [List.map_cons, List.map_cons, eqvAll_cons, natL_eqv xs ys]
    unfold natD
    by_cases h : x = y
    · subst h; by_cases h2 : xs = ys <;> simp [PyData.eqv, h2]
    · have h' : ¬ (x : Int) = (y : Int) := by omega
      simp [PyData.eqv, h, h', BEq.beq]
theorem natL_oEq (xs ys : List Nat) : oEq (.list (xs.map natD)) (.list (ys.map natD)) = some (.at (.bool (decide (xs = ys)))) := by
  rw [x_oEq _ _ (.inl (by rw [PyData.depth, Law.divs_dep]; decide)), eqv_list, natL_eqv]
theorem natL_oNe (xs ys : List Nat) : oNe (.list (xs.map natD)) (.list (ys.map natD)) = some (.at (.bool (!decide (xs = ys)))) := by
  rw [x_oNe _ _ (.inl (by rw [PyData.depth, Law.divs_dep]; decide)), eqv_list, natL_eqv]
end
end DL
/-! Products over parts and primes; productive rows. Plain. -/
namespace NT
def vlF : Nat → Nat → Nat → Nat
  | 0, _, _ => 0
  | k + 1, p, n => if n % p = 0 then vlF k p (n / p) + 1 else 0
theorem vlF_eq {p : Nat} (hp : 2 ≤ p) : ∀ (k n : Nat), n ≤ k → 0 < n → vlF k p n = vl p n
  | 0, n, h, h0 => by omega
  | k + 1, n, h, h0 => by
    unfold vlF
    by_cases hd : n % p = 0
    · have h1 : n / p < n := Nat.div_lt_self h0 (by omega)
      rw [if_pos hd, vl_go hp h0 hd, vlF_eq hp k (n / p) (by omega) (Nat.div_pos (Nat.le_of_dvd h0 (Nat.dvd_of_mod_eq_zero hd)) (by omega))]
    · rw [if_neg hd, vl_stop hd]
def pwF (n : Nat) : List (Nat × Nat) := ((List.range (n + 1)).filter fun p => isP p && decide (n % p = 0)).map fun p => (p, vlF n p n)
theorem pwF_eq {n : Nat} (hn : 0 < n) : pwF n = pw n := by
  unfold pwF pw
  refine List.map_congr_left fun p hp => ?_
  rw [List.mem_filter, Bool.and_eq_true] at hp
  rw [vlF_eq (two_le hp.2.1) n n (Nat.le_refl _) hn]
theorem pwF_prt : ((List.range 60).all fun i => decide ((pwF (i + 1)).map (fun x => x.1 ^ x.2) = prt (i + 1))) = true := by decide +kernel
theorem pwF_lpr : ((List.range 60).all fun i => decide ((pwF (i + 1)).flatMap (fun x => List.replicate x.2 x.1) = lpr (i + 1))) = true := by decide +kernel
theorem pw_prt {n : Nat} (hn : 1 ≤ n ∧ n ≤ 60) : (pw n).map (fun x => x.1 ^ x.2) = prt n := by
  rw [← pwF_eq (by omega)]
  exact of_decide_eq_true (small_all (P := fun n => decide ((pwF n).map (fun x => x.1 ^ x.2) = prt n)) pwF_prt hn)
theorem pw_lpr {n : Nat} (hn : 1 ≤ n ∧ n ≤ 60) : (pw n).flatMap (fun x => List.replicate x.2 x.1) = lpr n := by
  rw [← pwF_eq (by omega)]
  exact of_decide_eq_true (small_all (P := fun n => decide ((pwF n).flatMap (fun x => List.replicate x.2 x.1) = lpr n)) pwF_lpr hn)
theorem foldl_mul (w : Nat → Int) : ∀ (xs : List Nat) (a : Int), xs.foldl (fun a q => a * w q) a = a * prodW w xs
  | [], a => by unfold prodW; simp
  | q :: xs, a => by
    unfold prodW
    rw [List.foldl_cons, List.foldl_cons, foldl_mul w xs, foldl_mul w xs (1 * w q), Int.one_mul, Int.mul_assoc]
theorem prodW_nil (w : Nat → Int) : prodW w [] = 1 := rfl
theorem prodW_one (w : Nat → Int) (q : Nat) : prodW w [q] = w q := by unfold prodW; simp
theorem prodW_cons (w : Nat → Int) (q : Nat) (xs : List Nat) : prodW w (q :: xs) = w q * prodW w xs := by
  show (xs.foldl (fun a q => a * w q) (1 * w q)) = _
  rw [foldl_mul, Int.one_mul]
theorem prodW_append (w : Nat → Int) : ∀ xs ys : List Nat, prodW w (xs ++ ys) = prodW w xs * prodW w ys
  | [], ys => by rw [List.nil_append, prodW_nil, Int.one_mul]
  | x :: xs, ys => by rw [List.cons_append, prodW_cons, prodW_cons, prodW_append w xs ys, Int.mul_assoc]
theorem prodW_perm (w : Nat → Int) {xs ys : List Nat} (h : xs.Perm ys) : prodW w xs = prodW w ys := by
  induction h with
  | nil => rfl
  | cons x _ ih => rw [prodW_cons, prodW_cons, ih]
  | swap x y l => rw [prodW_cons, prodW_cons, prodW_cons, prodW_cons, ← Int.mul_assoc, ← Int.mul_assoc, Int.mul_comm (w x)]
  | trans _ _ h1 h2 => exact h1.trans h2
theorem prodW_congr {w v : Nat → Int} : ∀ {xs : List Nat}, (∀ q ∈ xs, w q = v q) → prodW w xs = prodW v xs
  | [], _ => rfl
  | x :: xs, h => by rw [prodW_cons, prodW_cons, h x List.mem_cons_self, prodW_congr fun q hq => h q (List.mem_cons_of_mem _ hq)]
theorem prodW_rep (w : Nat → Int) (q : Nat) : ∀ k : Nat, prodW w (List.replicate k q) = w q ^ k
  | 0 => by rw [List.replicate_zero, prodW_nil, Int.pow_zero]
  | k + 1 => by rw [List.replicate_succ, prodW_cons, prodW_rep w q k, Int.pow_succ, Int.mul_comm]
theorem prod_parts (w : Nat → Int) {n : Nat} (hn : 1 ≤ n ∧ n ≤ 60) : (pw n).foldl (fun a x => a * w (x.1 ^ x.2)) 1 = prodW w (prt n) := by
  unfold prodW
  rw [← pw_prt hn, List.foldl_map]
theorem prod_primes (w : Nat → Int) {n : Nat} (hn : 1 ≤ n ∧ n ≤ 60) : (pw n).foldl (fun a x => a * w x.1 ^ x.2) 1 = prodW w (lpr n) := by
  rw [← pw_lpr hn]
  have : ∀ (xs : List (Nat × Nat)) (a : Int), xs.foldl (fun a x => a * w x.1 ^ x.2) a = a * prodW w (xs.flatMap fun x => List.replicate x.2 x.1) := by
    intro xs
    induction xs with
    | nil => intro a; rw [List.foldl_nil, List.flatMap_nil, prodW_nil, Int.mul_one]
    | cons x xs ih => intro a; rw [List.foldl_cons, ih, List.flatMap_cons, prodW_append, prodW_rep, Int.mul_assoc]
  rw [this, Int.one_mul]
theorem cop_prt : ((cps 60).all fun c => !cop c || (prt (c.1 * c.2)).isPerm (prt c.1 ++ prt c.2)) = true := by decide +kernel
theorem all_lpr : ((cps 60).all fun c => (lpr (c.1 * c.2)).isPerm (lpr c.1 ++ lpr c.2)) = true := by decide +kernel
theorem cps_sixty {m : Nat} (hm : m ≤ 60) {c : Nat × Nat} (h : c ∈ cps m) : c ∈ cps 60 := by
  obtain ⟨h1, h2, h3⟩ := mem_cps.mp h
  exact mem_cps.mpr ⟨h1, h2, by omega⟩
theorem one_parts : prt 1 = [] ∧ lpr 1 = [] := by decide +kernel
/-- a row built by worths -/
def bltF (w : Nat → Int) (i : Nat) : Int := prodW w (prt (i + 1))
def whlF (w : Nat → Int) (i : Nat) : Int := prodW w (lpr (i + 1))
theorem bltF_zero (w : Nat → Int) : bltF w 0 = 1 := by
  show prodW w (prt 1) = 1
  rw [one_parts.1]; rfl
theorem whlF_zero (w : Nat → Int) : whlF w 0 = 1 := by
  show prodW w (lpr 1) = 1
  rw [one_parts.2]; rfl
theorem blt_brk (w : Nat → Int) {m : Nat} (hm : m ≤ 60) : brk (bltF w) m = [] := by
  refine List.eq_nil_iff_forall_not_mem.mpr fun c hc => ?_
  obtain ⟨⟨h, hG⟩, hcop⟩ := mem_brk.mp hc
  have h1 := List.all_eq_true.mp cop_prt c (cps_sixty hm (mem_cps.mpr h))
  rw [hcop, Bool.not_true, Bool.false_or, List.isPerm_iff] at h1
  have hp : 1 ≤ c.1 * c.2 := Nat.mul_pos (by omega) (by omega)
  have e : bltF w (c.1 * c.2 - 1) = bltF w (c.1 - 1) * bltF w (c.2 - 1) := by
    unfold bltF
    rw [show c.1 * c.2 - 1 + 1 = c.1 * c.2 from by omega, show c.1 - 1 + 1 = c.1 from by omega, show c.2 - 1 + 1 = c.2 from by omega, prodW_perm w h1, prodW_append]
  unfold G at hG
  rw [decide_eq_true e] at hG
  cases hG
theorem whl_wbk (w : Nat → Int) {m : Nat} (hm : m ≤ 60) : wbk (whlF w) m = [] := by
  refine List.eq_nil_iff_forall_not_mem.mpr fun c hc => ?_
  obtain ⟨h, hG⟩ := mem_wbk.mp hc
  have h1 := List.all_eq_true.mp all_lpr c (cps_sixty hm (mem_cps.mpr h))
  rw [List.isPerm_iff] at h1
  have hp : 1 ≤ c.1 * c.2 := Nat.mul_pos (by omega) (by omega)
  have e : whlF w (c.1 * c.2 - 1) = whlF w (c.1 - 1) * whlF w (c.2 - 1) := by
    unfold whlF
    rw [show c.1 * c.2 - 1 + 1 = c.1 * c.2 from by omega, show c.1 - 1 + 1 = c.1 from by omega, show c.2 - 1 + 1 = c.2 from by omega, prodW_perm w h1, prodW_append]
  unfold G at hG
  rw [decide_eq_true e] at hG
  cases hG
theorem brk_of_wbk {f : Nat → Int} {m : Nat} (h : wbk f m = []) : brk f m = [] := by unfold brk; rw [h]; rfl
theorem place_self : ((List.range 60).all fun i => !decide ((prt (i + 1)).length = 1) || decide (prt (i + 1) = [i + 1])) = true := by decide +kernel
theorem prime_self : ((List.range 60).all fun i => !decide (lpr (i + 1) = [i + 1]) || decide ((prt (i + 1)).length = 1)) = true := by decide +kernel
theorem isP_lpr : ((List.range 60).all fun i => decide (isP (i + 1) = decide (lpr (i + 1) = [i + 1]))) = true := by decide +kernel
theorem plc_self {m q : Nat} (hm : m ≤ 60) (h : q ∈ plc m) : prt q = [q] := by
  obtain ⟨h1, h2⟩ := mem_plc.mp h
  have := small_all (P := fun n => !decide ((prt n).length = 1) || decide (prt n = [n])) place_self (n := q) (by omega)
  rw [decide_eq_true h2, Bool.not_true, Bool.false_or, decide_eq_true_eq] at this
  exact this
theorem isP_small {q : Nat} (hq : 1 ≤ q ∧ q ≤ 60) : isP q = decide (lpr q = [q]) := of_decide_eq_true (small_all (P := fun n => decide (isP n = decide (lpr n = [n]))) isP_lpr hq)
theorem blt_place (w : Nat → Int) {m q : Nat} (hm : m ≤ 60) (h : q ∈ plc m) : bltF w (q - 1) = w q := by
  have := (mem_plc.mp h).1
  unfold bltF
  rw [show q - 1 + 1 = q from by omega, plc_self hm h, prodW_one]
theorem plc_prs {m : Nat} (hm : m ≤ 60) : (plc m).filter (fun q => decide (lpr q = [q])) = prs m := by
  unfold plc prs
  rw [List.filter_filter]
  refine List.filter_congr fun q hq => ?_
  obtain ⟨i, hi, rfl⟩ := List.mem_map.mp hq
  have := List.mem_range.mp hi
  have hs := small_all (P := fun n => !decide (lpr n = [n]) || decide ((prt n).length = 1)) prime_self (n := i + 2) (by omega)
  cases h : decide (lpr (i + 2) = [i + 2])
  · rfl
  · rw [h, Bool.not_true, Bool.false_or] at hs
    rw [hs]; rfl
theorem plc_less {m k : Nat} (hk : k ≤ m) : (plc m).filter (fun q => decide (q ≤ k)) = plc k := by
  unfold plc
  rw [filter_swap]
  congr 1
  rw [List.filter_map]
  have : (List.range (m - 1)).filter ((fun q => decide (q ≤ k)) ∘ fun i => i + 2) = List.range (k - 1) := by
    rw [show m - 1 = (k - 1) + (m - 1 - (k - 1)) from by omega, List.range_add, List.filter_append]
    have h1 : (List.range (k - 1)).filter ((fun q => decide (q ≤ k)) ∘ fun i => i + 2) = List.range (k - 1) := List.filter_eq_self.mpr fun i hi => by
      have := List.mem_range.mp hi
      exact decide_eq_true (show i + 2 ≤ k by omega)
    rw [h1, List.filter_eq_nil_iff.mpr, List.append_nil]
    intro i hi
    obtain ⟨j, _, rfl⟩ := List.mem_map.mp hi
    simp
    omega
  rw [this]
/-- how a number falls apart -/
def splitOk (n : Nat) : Bool := match prt n with
  | [] => n == 1
  | [q] => q == n
  | q :: r => decide (2 ≤ q ∧ 2 ≤ n / q ∧ q * (n / q) = n ∧ Nat.gcd q (n / q) = 1) && decide (prt (n / q) = r)
theorem split_all : ((List.range 60).all fun i => splitOk (i + 1)) = true := by decide +kernel
theorem brk_cop {f : Nat → Int} {m a b : Nat} (h : brk f m = []) (ha : 2 ≤ a) (hb : 2 ≤ b) (hab : a * b ≤ m) (hg : Nat.gcd a b = 1) : f (a * b - 1) = f (a - 1) * f (b - 1) := by
  have key : ∀ x y : Nat, 2 ≤ x → x ≤ y → x * y ≤ m → Nat.gcd x y = 1 → f (x * y - 1) = f (x - 1) * f (y - 1) := fun x y h1 h2 h3 h4 => by
    false_or_by_contra
    rename_i hne
    have : (x, y) ∈ brk f m := mem_brk.mpr ⟨⟨⟨h1, h2, h3⟩, by unfold G; rw [decide_eq_false hne]; rfl⟩, by unfold cop; simp [h4]⟩
    rw [h] at this
    cases this
  rcases Nat.le_total a b with hl | hl
  · exact key a b ha hl hab hg
  · have := key b a hb hl (by rw [Nat.mul_comm]; exact hab) (by rw [Nat.gcd_comm]; exact hg)
    rw [Nat.mul_comm a b, this, Int.mul_comm]
theorem brk_built {f : Nat → Int} {m : Nat} (hm : m ≤ 60) (h0 : f 0 = 1) (h : brk f m = []) : ∀ k n : Nat, n ≤ k → 1 ≤ n → n ≤ m → f (n - 1) = prodW (fun p => f (p - 1)) (prt n) := by
  intro k
  induction k with
  | zero => intro n h1 h2; omega
  | succ k ih =>
    intro n h1 h2 h3
    have hs := small_all (P := splitOk) split_all (n := n) (by omega)
    unfold splitOk at hs
    split at hs
    · rename_i e
      rw [e, beq_iff_eq.mp hs]
      exact h0
    · rename_i q e
      rw [e, prodW_one, beq_iff_eq.mp hs]
    · rename_i q r _ e
      rw [Bool.and_eq_true, decide_eq_true_eq, decide_eq_true_eq] at hs
      obtain ⟨⟨s1, s2, s3, s4⟩, s5⟩ := hs
      have lt : n / q < n := Nat.div_lt_self (by omega) (by omega)
      have := ih (n / q) (by omega) (by omega) (by omega)
      rw [e, prodW_cons, ← s5, ← this]
      have hb := brk_cop h s1 s2 (by omega) s4
      rw [s3] at hb
      exact hb
end NT
namespace DL
noncomputable section
open PySem PySem.Spec PyProof.Rows L2
theorem rowD_eqvG (m : Nat) (f g : Nat → Int) : PyData.eqvAll (rowD m f) (rowD m g) = (List.range m).all fun i => decide (f i = g i) := by
  unfold rowD
  induction List.range m with
  | nil => simp [PyData.eqvAll]
  | cons a xs ih =>
    rw [List.map_cons, List.map_cons, eqvAll_cons, ih, List.all_cons]
    congr 1
theorem rowD_oEqG (m : Nat) (f g : Nat → Int) : oEq (.list (rowD m f)) (.list (rowD m g)) = some (.at (.bool ((List.range m).all fun i => decide (f i = g i)))) := by
  rw [x_oEq _ _ (.inl (by rw [PyData.depth, rowD_dep]; decide)), eqv_list, rowD_eqvG]
theorem rowD_oEqN {m : Nat} {f g : Nat → Int} {i : Nat} (hi : i < m) (h : f i ≠ g i) : oEq (.list (rowD m f)) (.list (rowD m g)) = some (.at (.bool false)) := by
  rw [rowD_oEqG]
  congr 3
  refine Bool.eq_false_iff.mpr fun z => h ?_
  exact of_decide_eq_true (List.all_eq_true.mp z i (List.mem_range.mpr hi))
end
end DL
namespace Law
open PySem PySem.Spec PyProof.Rows L2 DL
def topS (i : Nat) : Stmt := PySem.Challenge.pw_divisorsums_k34_whole_told_product_paper.main.body.getD i (.Pass ⟨0, 0, 0, 0⟩)
structure Tp (K : PySem.W.Frag) (mg : Str → Option Value) : Prop where
  n_isinstance : mg "isinstance" = none
  n_int : mg "int" = none
  n_bool : mg "bool" = none
  n_tuple : mg "tuple" = none
  n_list : mg "list" = none
  n_abs : mg "abs" = none
  n_range : mg "range" = none
  n_len : mg "len" = none
  n_all : mg "all" = none
  n_dict : mg "dict" = none
  n_min : mg "min" = none
  n_sorted : mg "sorted" = none
  n_str : mg "str" = none
  n_max : mg "max" = none
  n_divmod : mg "divmod" = none
  n_set : mg "set" = none
  n_repr : mg "repr" = none
  n_any : mg "any" = none
  c_MOST_ROW : ∃ t, mg "MOST_ROW" = some (.int 60 t)
  c_LONGEST : ∃ t, mg "LONGEST" = some (.int 1000000000000000000000000000000 t)
  c_FIRST : ∃ t, mg "FIRST" = some (.str "first" t)
  c_BREAK : ∃ t, mg "BREAK" = some (.str "break" t)
  c_WORTHS : ∃ t, mg "WORTHS" = some (.str "worths" t)
noncomputable section
/-! is_integer -/
abbrev s_is_integer : Stmt := topS 5
abbrev N_is_integer : List Str := ["value"]
abbrev P_is_integer : List Str := ["value"]
theorem sc_is_integer : FnScope N_is_integer P_is_integer (defScope s_is_integer) := ⟨rfl, rfl, rfl, by decide +kernel, rfl, by decide +kernel, by decide +kernel⟩
def den_is_integer : DSt :=
    (sRet (eAnd (eIsi "int" (eV 0)) (eNot (eIsi "bool" (eV 0)))))
def F_is_integer : List D → Option RV := mkA 1 1 den_is_integer
abbrev dd_is_integer : List D := []
abbrev dv_is_integer : List V := []
theorem ok_is_integer {P : Program} {w : World} {K : PySem.W.Frag} {mg : Str → Option Value} {B : Heap} (T : Tp K mg) (h0 : D0 K mg s_is_integer "is_integer" dv_is_integer) : CA P w K mg B 1 s_is_integer "is_integer" P_is_integer dv_is_integer dd_is_integer F_is_integer :=
  mkCA h0 sc_is_integer (by intro G; repeat (first | exact .nil | refine .cons (by first | exact .int _ | exact .bl _ | exact .non | exact .str _) ?_)) fun f fd cd A ou s H hg hr =>
    have nd := sc_is_integer.nd
    (db_one (ds_ret (de_and (de_isi rfl T.n_isinstance rfl T.n_int PyProof.Rows.boot_int (de_v 0)) (de_one (de_not (de_isi rfl T.n_isinstance rfl T.n_bool PyProof.Rows.boot_bool (de_v 0)))))))
/-! is_count -/
abbrev s_is_count : Stmt := topS 6
abbrev N_is_count : List Str := ["value"]
abbrev P_is_count : List Str := ["value"]
theorem sc_is_count : FnScope N_is_count P_is_count (defScope s_is_count) := ⟨rfl, rfl, rfl, by decide +kernel, rfl, by decide +kernel, by decide +kernel⟩
def den_is_count : DSt :=
    (sRet (eAnd (eCallA F_is_integer [] [(eV 0)]) (eBin oGe (eV 0) (eC (.int 0)))))
def F_is_count : List D → Option RV := mkA 1 1 den_is_count
abbrev dd_is_count : List D := []
abbrev dv_is_count : List V := []
theorem ok_is_count {P : Program} {w : World} {K : PySem.W.Frag} {mg : Str → Option Value} {B : Heap} (T : Tp K mg) (h0 : D0 K mg s_is_count "is_count" dv_is_count) (h_is_integer : CA P w K mg B 1 s_is_integer "is_integer" P_is_integer dv_is_integer dd_is_integer F_is_integer) : CA P w K mg B 2 s_is_count "is_count" P_is_count dv_is_count dd_is_count F_is_count :=
  mkCA h0 sc_is_count (by intro G; repeat (first | exact .nil | refine .cons (by first | exact .int _ | exact .bl _ | exact .non | exact .str _) ?_)) fun f fd cd A ou s H hg hr =>
    have nd := sc_is_count.nd
    (db_one (ds_ret (de_and (de_cA h_is_integer hg (hr.mono (by decide)) rfl (da_cons (de_v 0) da_nil)) (de_one (de_cmp op_ge s_ge (de_v 0) de_int (nomark _))))))
/-! is_list -/
abbrev s_is_list : Stmt := topS 7
abbrev N_is_list : List Str := ["value"]
abbrev P_is_list : List Str := ["value"]
theorem sc_is_list : FnScope N_is_list P_is_list (defScope s_is_list) := ⟨rfl, rfl, rfl, by decide +kernel, rfl, by decide +kernel, by decide +kernel⟩
def den_is_list : DSt :=
    (sRet (eIsiT ["list", "tuple"] (eV 0)))
def F_is_list : List D → Option RV := mkA 1 1 den_is_list
abbrev dd_is_list : List D := []
abbrev dv_is_list : List V := []
theorem ok_is_list {P : Program} {w : World} {K : PySem.W.Frag} {mg : Str → Option Value} {B : Heap} (T : Tp K mg) (h0 : D0 K mg s_is_list "is_list" dv_is_list) : CA P w K mg B 1 s_is_list "is_list" P_is_list dv_is_list dd_is_list F_is_list :=
  mkCA h0 sc_is_list (by intro G; repeat (first | exact .nil | refine .cons (by first | exact .int _ | exact .bl _ | exact .non | exact .str _) ?_)) fun f fd cd A ou s H hg hr =>
    have nd := sc_is_list.nd
    (db_one (ds_ret (de_isiT rfl T.n_isinstance (pa_tys_cons rfl T.n_list PyProof.Rows.boot_list (pa_tys_cons rfl T.n_tuple PyProof.Rows.boot_tuple pa_tys_nil)) (by decide) (de_v 0))))
/-! share_of -/
abbrev s_share_of : Stmt := topS 9
abbrev N_share_of : List Str := ["near", "far", "one", "other"]
abbrev P_share_of : List Str := ["near", "far"]
theorem sc_share_of : FnScope N_share_of P_share_of (defScope s_share_of) := ⟨rfl, rfl, rfl, by decide +kernel, rfl, by decide +kernel, by decide +kernel⟩
def wt0_share_of : DTx :=
    (eT (eBin oGt (eV 3) (eC (.int 0))))
def lp0_share_of : DSt :=
    (sPar 2 3 [(eV 3), (eBin oMod (eV 2) (eV 3))])
def den_share_of : DSt :=
    (sSeq (sPar 2 3 [(eB oAbs [(eV 0)]), (eB oAbs [(eV 1)])])
    (sSeq (sWhile wt0_share_of lp0_share_of)
    (sRet (eV 2))))
def F_share_of : List D → Option RV := mkA 2 4 den_share_of
abbrev dd_share_of : List D := []
abbrev dv_share_of : List V := []
theorem ok_share_of {P : Program} {w : World} {K : PySem.W.Frag} {mg : Str → Option Value} {B : Heap} (T : Tp K mg) (h0 : D0 K mg s_share_of "share_of" dv_share_of) : CA P w K mg B 1 s_share_of "share_of" P_share_of dv_share_of dd_share_of F_share_of :=
  mkCA h0 sc_share_of (by intro G; repeat (first | exact .nil | refine .cons (by first | exact .int _ | exact .bl _ | exact .non | exact .str _) ?_)) fun f fd cd A ou s H hg hr =>
    have nd := sc_share_of.nd
    (db_cons (ds_par (i := 2) (j := 3) rfl nd rfl rfl (by decide) rfl rfl (da_cons (de_b call_abs cs_abs rfl T.n_abs PyProof.Rows.boot_abs (da_cons (de_v 0) da_nil)) (da_cons (de_b call_abs cs_abs rfl T.n_abs PyProof.Rows.boot_abs (da_cons (de_v 1) da_nil)) da_nil)))
    (db_cons (ds_while PassesOwn.never (dt_cmp op_gt s_gt (de_v 3) de_int (nomark _)) (db_one (ds_par (i := 2) (j := 3) rfl nd rfl rfl (by decide) rfl rfl (da_cons (de_v 3) (da_cons (de_bin op_modN s_mod (de_v 2) (de_v 3)) da_nil)))))
    (db_one (ds_ret (de_v 2)))))
/-! power_of -/
abbrev s_power_of : Stmt := topS 10
abbrev N_power_of : List Str := ["base", "many", "found", "turn"]
abbrev P_power_of : List Str := ["base", "many"]
theorem sc_power_of : FnScope N_power_of P_power_of (defScope s_power_of) := ⟨rfl, rfl, rfl, by decide +kernel, rfl, by decide +kernel, by decide +kernel⟩
def lp0_power_of : DSt :=
    (sSet 2 (eBin oMul (eV 2) (eV 0)))
def den_power_of : DSt :=
    (sSeq (sSet 2 (eC (.int 1)))
    (sSeq (sFor (iRange [(eV 1)]) (.nm 3) lp0_power_of)
    (sRet (eV 2))))
def F_power_of : List D → Option RV := mkA 2 4 den_power_of
abbrev dd_power_of : List D := []
abbrev dv_power_of : List V := []
theorem ok_power_of {P : Program} {w : World} {K : PySem.W.Frag} {mg : Str → Option Value} {B : Heap} (T : Tp K mg) (h0 : D0 K mg s_power_of "power_of" dv_power_of) : CA P w K mg B 1 s_power_of "power_of" P_power_of dv_power_of dd_power_of F_power_of :=
  mkCA h0 sc_power_of (by intro G; repeat (first | exact .nil | refine .cons (by first | exact .int _ | exact .bl _ | exact .non | exact .str _) ?_)) fun f fd cd A ou s H hg hr =>
    have nd := sc_power_of.nd
    (db_cons (ds_set (i := 2) nd rfl (.inl rfl) de_int)
    (db_cons (ds_for PassesOwn.never rfl (di_range1 rfl T.n_range (da_cons (de_v 1) da_nil)) (dg_name (i := 3) nd rfl (.inl rfl)) (db_one (ds_set (i := 2) nd rfl (.inl rfl) (de_bin op_mulAll s_mul (de_v 2) (de_v 0)))))
    (db_one (ds_ret (de_v 2)))))
/-! powers_of -/
abbrev s_powers_of : Stmt := topS 11
abbrev N_powers_of : List Str := ["number", "found", "left", "prime", "many"]
abbrev P_powers_of : List Str := ["number"]
theorem sc_powers_of : FnScope N_powers_of P_powers_of (defScope s_powers_of) := ⟨rfl, rfl, rfl, by decide +kernel, rfl, by decide +kernel, by decide +kernel⟩
def wt0_powers_of : DTx :=
    (eT (eBin oEq (eBin oMod (eV 2) (eV 3)) (eC (.int 0))))
def lp0_powers_of : DSt :=
    (sPar 2 4 [(eBin oFdiv (eV 2) (eV 3)), (eBin oAdd (eV 4) (eC (.int 1)))])
def wt1_powers_of : DTx :=
    (eT (eBin oLe (eBin oMul (eV 3) (eV 3)) (eV 2)))
def lp1_powers_of : DSt :=
    (sSeq (sSet 4 (eC (.int 0)))
    (sSeq (sWhile wt0_powers_of lp0_powers_of)
    (sSeq (sIf (eT (eBin oGt (eV 4) (eC (.int 0)))) (sExpr (eMth mAppend 1 [(eTup [(eV 3), (eV 4)])])) sNext)
    (sSet 3 (eBin oAdd (eV 3) (eIf (eT (eBin oEq (eV 3) (eC (.int 2)))) (eC (.int 1)) (eC (.int 2))))))))
def den_powers_of : DSt :=
    (sSeq (sPar3 1 2 3 [(eLst []), (eV 0), (eC (.int 2))])
    (sSeq (sWhile wt1_powers_of lp1_powers_of)
    (sSeq (sIf (eT (eBin oGt (eV 2) (eC (.int 1)))) (sExpr (eMth mAppend 1 [(eTup [(eV 2), (eC (.int 1))])])) sNext)
    (sRet (eV 1)))))
def F_powers_of : List D → Option RV := mkA 1 5 den_powers_of
abbrev dd_powers_of : List D := []
abbrev dv_powers_of : List V := []
theorem ok_powers_of {P : Program} {w : World} {K : PySem.W.Frag} {mg : Str → Option Value} {B : Heap} (T : Tp K mg) (h0 : D0 K mg s_powers_of "powers_of" dv_powers_of) : CA P w K mg B 1 s_powers_of "powers_of" P_powers_of dv_powers_of dd_powers_of F_powers_of :=
  mkCA h0 sc_powers_of (by intro G; repeat (first | exact .nil | refine .cons (by first | exact .int _ | exact .bl _ | exact .non | exact .str _) ?_)) fun f fd cd A ou s H hg hr =>
    have nd := sc_powers_of.nd
    (db_cons (ds_par3 (i := 1) (j := 2) (l := 3) rfl nd rfl rfl rfl (by decide) (by decide) (by decide) rfl rfl rfl (da_cons (de_lst da_nil) (da_cons (de_v 0) (da_cons de_int da_nil))))
    (db_cons (ds_while PassesOwn.never (dt_cmp op_le s_le (de_bin op_mulAll s_mul (de_v 3) (de_v 3)) (de_v 2) (nomark _)) (db_cons (ds_set (i := 4) nd rfl (.inl rfl) de_int)
    (db_cons (ds_while PassesOwn.never (dt_cmp (op_eqP hr.units) s_eq (de_bin op_modN s_mod (de_v 2) (de_v 3)) de_int (nomark _)) (db_one (ds_par (i := 2) (j := 4) rfl nd rfl rfl (by decide) rfl rfl (da_cons (de_bin op_fdivA s_fdiv (de_v 2) (de_v 3)) (da_cons (de_bin op_addA s_add (de_v 4) de_int) da_nil)))))
    (db_cons (ds_if (dt_cmp op_gt s_gt (de_v 4) de_int (nomark _)) (db_one (ds_expr (de_append (pv 1) (da_cons (de_tup (da_cons (de_v 3) (da_cons (de_v 4) da_nil))) da_nil)))) db_nil)
    (db_one (ds_set (i := 3) nd rfl (.inl rfl) (de_bin op_addA s_add (de_v 3) (de_if (dt_cmp (op_eqP hr.units) s_eq (de_v 3) de_int (nomark _)) de_int de_int))))))))
    (db_cons (ds_if (dt_cmp op_gt s_gt (de_v 2) de_int (nomark _)) (db_one (ds_expr (de_append (pv 1) (da_cons (de_tup (da_cons (de_v 2) (da_cons de_int da_nil))) da_nil)))) db_nil)
    (db_one (ds_ret (de_v 1))))))
/-! is_row_value -/
abbrev s_is_row_value : Stmt := topS 15
abbrev N_is_row_value : List Str := ["value", "one"]
abbrev P_is_row_value : List Str := ["value"]
theorem sc_is_row_value : FnScope N_is_row_value P_is_row_value (defScope s_is_row_value) := ⟨rfl, rfl, rfl, by decide +kernel, rfl, by decide +kernel, by decide +kernel⟩
def ce0_is_row_value : DEx :=
    (eAnd (eCallA F_is_integer [] [(eV 1)]) (eChain oLt oLt (eBin oSub (eC (.int 0)) (eC (.int 1000000000000000000000000000000))) (eV 1) (eC (.int 1000000000000000000000000000000))))
def den_is_row_value : DSt :=
    (sSeq (sIf (tOrD (tNotD (eT (eCallA F_is_list [] [(eV 0)]))) (tNotD (eT (eChain oLe oLe (eC (.int 1)) (eB oLen [(eV 0)]) (eC (.int 60)))))) (sRet (eC (.bool false))) sNext)
    (sRet (eB oAll [(eLc (iSeq (eV 0)) (.nm 1) yesD ce0_is_row_value [1])])))
def F_is_row_value : List D → Option RV := mkA 1 2 den_is_row_value
abbrev dd_is_row_value : List D := []
abbrev dv_is_row_value : List V := []
theorem ok_is_row_value {P : Program} {w : World} {K : PySem.W.Frag} {mg : Str → Option Value} {B : Heap} (T : Tp K mg) (h0 : D0 K mg s_is_row_value "is_row_value" dv_is_row_value) (h_is_list : CA P w K mg B 1 s_is_list "is_list" P_is_list dv_is_list dd_is_list F_is_list) (h_is_integer : CA P w K mg B 1 s_is_integer "is_integer" P_is_integer dv_is_integer dd_is_integer F_is_integer) : CA P w K mg B 2 s_is_row_value "is_row_value" P_is_row_value dv_is_row_value dd_is_row_value F_is_row_value :=
  mkCA h0 sc_is_row_value (by intro G; repeat (first | exact .nil | refine .cons (by first | exact .int _ | exact .bl _ | exact .non | exact .str _) ?_)) fun f fd cd A ou s H hg hr =>
    have nd := sc_is_row_value.nd
    (db_cons (ds_if (dt_w (dw_or (dt_not (dt_val (de_cA h_is_list hg (hr.mono (by decide)) rfl (da_cons (de_v 0) da_nil)))) (dw_or1 (dt_not (dt_chain op_le op_le s_le s_le de_int (de_b call_len cs_len rfl T.n_len PySem.boot_len (da_cons (de_v 0) da_nil)) (T.c_MOST_ROW.elim fun t ht => de_glob (v := .int 60) rfl ht ⟨_, rfl⟩ fun _ => .int _)))))) (db_one (ds_ret de_bl)) db_nil)
    (db_one (ds_ret (de_b (cr_all rfl) cs_all rfl T.n_all PyProof.Rows.boot_all (da_cons (de_lc (own := [("one", 1)]) rfl nd (di_seq (de_v 0)) (blkOk_by (N := N_is_row_value) (sc := (defScope s_is_row_value)) (by decide +kernel)) (by decide) (fun _ _ _ _ _ => (dg_name (i := 1) nd rfl (.inl rfl))) (fun _ _ _ _ _ => dts_nil) (fun _ _ _ _ _ => (de_and (de_cA h_is_integer hg (hr.mono (by decide)) rfl (da_cons (de_v 1) da_nil)) (de_one (de_chain op_lt op_lt s_lt s_lt (de_bin op_sub s_sub de_int (T.c_LONGEST.elim fun t ht => de_glob (v := .int 1000000000000000000000000000000) rfl ht ⟨_, rfl⟩ fun _ => .int _)) (de_v 1) (T.c_LONGEST.elim fun t ht => de_glob (v := .int 1000000000000000000000000000000) rfl ht ⟨_, rfl⟩ fun _ => .int _)))))) da_nil)))))
/-! want_row -/
abbrev s_want_row : Stmt := topS 16
abbrev N_want_row : List Str := ["value"]
abbrev P_want_row : List Str := ["value"]
theorem sc_want_row : FnScope N_want_row P_want_row (defScope s_want_row) := ⟨rfl, rfl, rfl, by decide +kernel, rfl, by decide +kernel, by decide +kernel⟩
def den_want_row : DSt :=
    (sIf (tNotD (eT (eCallA F_is_row_value [] [(eV 0)]))) sBad sNext)
def F_want_row : List D → Option RV := mkA 1 1 den_want_row
abbrev dd_want_row : List D := []
abbrev dv_want_row : List V := []
theorem ok_want_row {P : Program} {w : World} {K : PySem.W.Frag} {mg : Str → Option Value} {B : Heap} (T : Tp K mg) (h0 : D0 K mg s_want_row "want_row" dv_want_row) (h_is_row_value : CA P w K mg B 2 s_is_row_value "is_row_value" P_is_row_value dv_is_row_value dd_is_row_value F_is_row_value) : CA P w K mg B 3 s_want_row "want_row" P_want_row dv_want_row dd_want_row F_want_row :=
  mkCA h0 sc_want_row (by intro G; repeat (first | exact .nil | refine .cons (by first | exact .int _ | exact .bl _ | exact .non | exact .str _) ?_)) fun f fd cd A ou s H hg hr =>
    have nd := sc_want_row.nd
    (db_one (ds_if (dt_not (dt_val (de_cA h_is_row_value hg (hr.mono (by decide)) rfl (da_cons (de_v 0) da_nil)))) (db_one ds_bad) db_nil))
/-! worth_at -/
abbrev s_worth_at : Stmt := topS 17
abbrev N_worth_at : List Str := ["row", "number"]
abbrev P_worth_at : List Str := ["row", "number"]
theorem sc_worth_at : FnScope N_worth_at P_worth_at (defScope s_worth_at) := ⟨rfl, rfl, rfl, by decide +kernel, rfl, by decide +kernel, by decide +kernel⟩
def den_worth_at : DSt :=
    (sSeq (sExpr (eCallA F_want_row [] [(eV 0)]))
    (sSeq (sIf (tOrD (tNotD (eT (eCallA F_is_integer [] [(eV 1)]))) (eT (eBin oLt (eV 1) (eC (.int 1))))) sBad sNext)
    (sRet (eIf (eT (eBin oLe (eV 1) (eB oLen [(eV 0)]))) (eBin oIx (eV 0) (eBin oSub (eV 1) (eC (.int 1)))) (eC (.int 0))))))
def F_worth_at : List D → Option RV := mkA 2 2 den_worth_at
abbrev dd_worth_at : List D := []
abbrev dv_worth_at : List V := []
theorem ok_worth_at {P : Program} {w : World} {K : PySem.W.Frag} {mg : Str → Option Value} {B : Heap} (T : Tp K mg) (h0 : D0 K mg s_worth_at "worth_at" dv_worth_at) (h_want_row : CA P w K mg B 3 s_want_row "want_row" P_want_row dv_want_row dd_want_row F_want_row) (h_is_integer : CA P w K mg B 1 s_is_integer "is_integer" P_is_integer dv_is_integer dd_is_integer F_is_integer) : CA P w K mg B 4 s_worth_at "worth_at" P_worth_at dv_worth_at dd_worth_at F_worth_at :=
  mkCA h0 sc_worth_at (by intro G; repeat (first | exact .nil | refine .cons (by first | exact .int _ | exact .bl _ | exact .non | exact .str _) ?_)) fun f fd cd A ou s H hg hr =>
    have nd := sc_worth_at.nd
    (db_cons (ds_expr (de_cA h_want_row hg (hr.mono (by decide)) rfl (da_cons (de_v 0) da_nil)))
    (db_cons (ds_if (dt_w (dw_or (dt_not (dt_val (de_cA h_is_integer hg (hr.mono (by decide)) rfl (da_cons (de_v 1) da_nil)))) (dw_or1 (dt_cmp op_lt s_lt (de_v 1) de_int (nomark _))))) (db_one ds_bad) db_nil)
    (db_one (ds_ret (de_if (dt_cmp op_le s_le (de_v 1) (de_b call_len cs_len rfl T.n_len PySem.boot_len (da_cons (de_v 0) da_nil)) (nomark _)) (de_ix (de_v 0) (de_bin op_sub s_sub (de_v 1) de_int)) de_int)))))
/-! are_worths -/
abbrev s_are_worths : Stmt := topS 19
abbrev N_are_worths : List Str := ["places", "value", "one", "part"]
abbrev P_are_worths : List Str := ["places", "value"]
theorem sc_are_worths : FnScope N_are_worths P_are_worths (defScope s_are_worths) := ⟨rfl, rfl, rfl, by decide +kernel, rfl, by decide +kernel, by decide +kernel⟩
abbrev SC_are_worths_0 : Scope := ⟨.function, [(".0", .local), ("one", .local), ("isinstance", .globalImplicit), ("tuple", .globalImplicit), ("len", .globalImplicit), ("all", .globalImplicit)], false, false, []⟩
def ce0_are_worths : DEx :=
    (eCallA F_is_integer [] [(eV 3)])
def ce1_are_worths : DEx :=
    (eAnd (eIsi "tuple" (eV 2)) (eAnd (eBin oEq (eB oLen [(eV 2)]) (eC (.int 2))) (eB oAll [(eLc (iSeq (eV 2)) (.nm 3) yesD ce0_are_worths [3])])))
def ce2_are_worths : DEx :=
    (eBin oIx (eV 2) (eC (.int 0)))
def ce3_are_worths : DEx :=
    (eChain oLt oLt (eBin oSub (eC (.int 0)) (eC (.int 1000000000000000000000000000000))) (eBin oIx (eV 2) (eC (.int 1))) (eC (.int 1000000000000000000000000000000)))
def den_are_worths : DSt :=
    (sSeq (sIf (tOrD (tNotD (eT (eCallA F_is_list [] [(eV 1)]))) (eT (eBin oNe (eB oLen [(eV 1)]) (eB oLen [(eV 0)])))) (sRet (eC (.bool false))) sNext)
    (sSeq (sIf (tNotD (eT (eB oAll [(eLc (iSeq (eV 1)) (.nm 2) yesD ce1_are_worths [2])]))) (sRet (eC (.bool false))) sNext)
    (sRet (eAnd (eBin oEq (eLc (iSeq (eV 1)) (.nm 2) yesD ce2_are_worths [2]) (eV 0)) (eB oAll [(eLc (iSeq (eV 1)) (.nm 2) yesD ce3_are_worths [2])])))))
def F_are_worths : List D → Option RV := mkA 2 4 den_are_worths
abbrev dd_are_worths : List D := []
abbrev dv_are_worths : List V := []
theorem ok_are_worths {P : Program} {w : World} {K : PySem.W.Frag} {mg : Str → Option Value} {B : Heap} (T : Tp K mg) (h0 : D0 K mg s_are_worths "are_worths" dv_are_worths) (h_is_list : CA P w K mg B 1 s_is_list "is_list" P_is_list dv_is_list dd_is_list F_is_list) (h_is_integer : CA P w K mg B 1 s_is_integer "is_integer" P_is_integer dv_is_integer dd_is_integer F_is_integer) : CA P w K mg B 2 s_are_worths "are_worths" P_are_worths dv_are_worths dd_are_worths F_are_worths :=
  mkCA h0 sc_are_worths (by intro G; repeat (first | exact .nil | refine .cons (by first | exact .int _ | exact .bl _ | exact .non | exact .str _) ?_)) fun f fd cd A ou s H hg hr =>
    have nd := sc_are_worths.nd
    (db_cons (ds_if (dt_w (dw_or (dt_not (dt_val (de_cA h_is_list hg (hr.mono (by decide)) rfl (da_cons (de_v 1) da_nil)))) (dw_or1 (dt_cmp (op_neP hr.units) s_ne (de_b call_len cs_len rfl T.n_len PySem.boot_len (da_cons (de_v 1) da_nil)) (de_b call_len cs_len rfl T.n_len PySem.boot_len (da_cons (de_v 0) da_nil)) (nomark _))))) (db_one (ds_ret de_bl)) db_nil)
    (db_cons (ds_if (dt_not (dt_val (de_b (cr_all rfl) cs_all rfl T.n_all PyProof.Rows.boot_all (da_cons (de_lc (own := [("one", 2)]) rfl nd (di_seq (de_v 1)) (blkOk_by (N := N_are_worths) (sc := (defScope s_are_worths)) (by decide +kernel)) (by decide) (fun _ _ _ _ _ => (dg_name (i := 2) nd rfl (.inl rfl))) (fun _ _ _ _ _ => dts_nil) (fun _ _ _ _ _ => (de_and (de_isi rfl T.n_isinstance rfl T.n_tuple PyProof.Rows.boot_tuple (de_v 2)) (de_and (de_cmp (op_eqP hr.units) s_eq (de_b call_len cs_len rfl T.n_len PySem.boot_len (da_cons (de_v 2) da_nil)) de_int (nomark _)) (de_one (de_b (cr_all rfl) cs_all rfl T.n_all PyProof.Rows.boot_all (da_cons (de_lc (own := [("part", 3)]) rfl nd (di_seq (de_v 2)) (blkOk_by (N := N_are_worths) (sc := SC_are_worths_0) (by decide +kernel)) (by decide) (fun _ _ _ _ _ => (dg_name (i := 3) nd rfl (.inl rfl))) (fun _ _ _ _ _ => dts_nil) (fun _ _ _ _ _ => (de_cA h_is_integer hg (hr.mono (by decide)) rfl (da_cons (de_v 3) da_nil)))) da_nil))))))) da_nil)))) (db_one (ds_ret de_bl)) db_nil)
    (db_one (ds_ret (de_and (de_cmp (op_eqP hr.units) s_eq (de_lc (own := [("one", 2)]) rfl nd (di_seq (de_v 1)) (blkOk_by (N := N_are_worths) (sc := (defScope s_are_worths)) (by decide +kernel)) (by decide) (fun _ _ _ _ _ => (dg_name (i := 2) nd rfl (.inl rfl))) (fun _ _ _ _ _ => dts_nil) (fun _ _ _ _ _ => (de_ix (de_v 2) de_int))) (de_v 0) (nomark _)) (de_one (de_b (cr_all rfl) cs_all rfl T.n_all PyProof.Rows.boot_all (da_cons (de_lc (own := [("one", 2)]) rfl nd (di_seq (de_v 1)) (blkOk_by (N := N_are_worths) (sc := (defScope s_are_worths)) (by decide +kernel)) (by decide) (fun _ _ _ _ _ => (dg_name (i := 2) nd rfl (.inl rfl))) (fun _ _ _ _ _ => dts_nil) (fun _ _ _ _ _ => (de_chain op_lt op_lt s_lt s_lt (de_bin op_sub s_sub de_int (T.c_LONGEST.elim fun t ht => de_glob (v := .int 1000000000000000000000000000000) rfl ht ⟨_, rfl⟩ fun _ => .int _)) (de_ix (de_v 2) de_int) (T.c_LONGEST.elim fun t ht => de_glob (v := .int 1000000000000000000000000000000) rfl ht ⟨_, rfl⟩ fun _ => .int _)))) da_nil))))))))
/-! places_of -/
abbrev s_places_of : Stmt := topS 20
abbrev N_places_of : List Str := ["many", "number"]
abbrev P_places_of : List Str := ["many"]
theorem sc_places_of : FnScope N_places_of P_places_of (defScope s_places_of) := ⟨rfl, rfl, rfl, by decide +kernel, rfl, by decide +kernel, by decide +kernel⟩
def ct0_places_of : DTx :=
    (eT (eBin oEq (eB oLen [(eCallA F_powers_of [] [(eV 1)])]) (eC (.int 1))))
def ce0_places_of : DEx :=
    (eV 1)
def den_places_of : DSt :=
    (sRet (eLc (iRange [(eC (.int 2)), (eBin oAdd (eV 0) (eC (.int 1)))]) (.nm 1) ct0_places_of ce0_places_of [1]))
def F_places_of : List D → Option RV := mkA 1 2 den_places_of
abbrev dd_places_of : List D := []
abbrev dv_places_of : List V := []
theorem ok_places_of {P : Program} {w : World} {K : PySem.W.Frag} {mg : Str → Option Value} {B : Heap} (T : Tp K mg) (h0 : D0 K mg s_places_of "places_of" dv_places_of) (h_powers_of : CA P w K mg B 1 s_powers_of "powers_of" P_powers_of dv_powers_of dd_powers_of F_powers_of) : CA P w K mg B 2 s_places_of "places_of" P_places_of dv_places_of dd_places_of F_places_of :=
  mkCA h0 sc_places_of (by intro G; repeat (first | exact .nil | refine .cons (by first | exact .int _ | exact .bl _ | exact .non | exact .str _) ?_)) fun f fd cd A ou s H hg hr =>
    have nd := sc_places_of.nd
    (db_one (ds_ret (de_lc (own := [("number", 1)]) rfl nd (di_range2 rfl T.n_range (da_cons de_int (da_cons (de_bin op_addA s_add (de_v 0) de_int) da_nil))) (blkOk_by (N := N_places_of) (sc := (defScope s_places_of)) (by decide +kernel)) (by decide) (fun _ _ _ _ _ => (dg_name (i := 1) nd rfl (.inl rfl))) (fun _ _ _ _ _ => (dts_one (dt_cmp (op_eqP hr.units) s_eq (de_b call_len cs_len rfl T.n_len PySem.boot_len (da_cons (de_cA h_powers_of hg (hr.mono (by decide)) rfl (da_cons (de_v 1) da_nil)) da_nil)) de_int (nomark _)))) (fun _ _ _ _ _ => (de_v 1)))))
/-! worths_of -/
abbrev s_worths_of : Stmt := topS 21
abbrev N_worths_of : List Str := ["row", "place"]
abbrev P_worths_of : List Str := ["row"]
theorem sc_worths_of : FnScope N_worths_of P_worths_of (defScope s_worths_of) := ⟨rfl, rfl, rfl, by decide +kernel, rfl, by decide +kernel, by decide +kernel⟩
def ce0_worths_of : DEx :=
    (eTup [(eV 1), (eBin oIx (eV 0) (eBin oSub (eV 1) (eC (.int 1))))])
def den_worths_of : DSt :=
    (sRet (eLc (iSeq (eFz (eCallA F_places_of [] [(eB oLen [(eV 0)])]))) (.nm 1) yesD ce0_worths_of [1]))
def F_worths_of : List D → Option RV := mkA 1 2 den_worths_of
abbrev dd_worths_of : List D := []
abbrev dv_worths_of : List V := []
theorem ok_worths_of {P : Program} {w : World} {K : PySem.W.Frag} {mg : Str → Option Value} {B : Heap} (T : Tp K mg) (h0 : D0 K mg s_worths_of "worths_of" dv_worths_of) (h_places_of : CA P w K mg B 2 s_places_of "places_of" P_places_of dv_places_of dd_places_of F_places_of) : CA P w K mg B 3 s_worths_of "worths_of" P_worths_of dv_worths_of dd_worths_of F_worths_of :=
  mkCA h0 sc_worths_of (by intro G; repeat (first | exact .nil | refine .cons (by first | exact .int _ | exact .bl _ | exact .non | exact .str _) ?_)) fun f fd cd A ou s H hg hr =>
    have nd := sc_worths_of.nd
    (db_one (ds_ret (de_lc (own := [("place", 1)]) rfl nd (di_seq (de_fz (de_cA h_places_of hg (hr.mono (by decide)) rfl (da_cons (de_b call_len cs_len rfl T.n_len PySem.boot_len (da_cons (de_v 0) da_nil)) da_nil)))) (blkOk_by (N := N_worths_of) (sc := (defScope s_worths_of)) (by decide +kernel)) (by decide) (fun _ _ _ _ _ => (dg_name (i := 1) nd rfl (.inl rfl))) (fun _ _ _ _ _ => dts_nil) (fun _ _ _ _ _ => (de_tup (da_cons (de_v 1) (da_cons (de_ix (de_v 0) (de_bin op_sub s_sub (de_v 1) de_int)) da_nil)))))))
/-! worth_by -/
abbrev s_worth_by : Stmt := topS 22
abbrev N_worth_by : List Str := ["table", "number", "found", "prime", "many"]
abbrev P_worth_by : List Str := ["table", "number"]
theorem sc_worth_by : FnScope N_worth_by P_worth_by (defScope s_worth_by) := ⟨rfl, rfl, rfl, by decide +kernel, rfl, by decide +kernel, by decide +kernel⟩
def lp0_worth_by : DSt :=
    (sSet 2 (eBin oMul (eV 2) (eDIxA (eV 0) (eCallA F_power_of [] [(eV 3), (eV 4)]))))
def den_worth_by : DSt :=
    (sSeq (sSet 2 (eC (.int 1)))
    (sSeq (sFor (iSeq (eFz (eCallA F_powers_of [] [(eV 1)]))) (.tp [(.nm 3), (.nm 4)]) lp0_worth_by)
    (sRet (eV 2))))
def F_worth_by : List D → Option RV := mkA 2 5 den_worth_by
abbrev dd_worth_by : List D := []
abbrev dv_worth_by : List V := []
theorem ok_worth_by {P : Program} {w : World} {K : PySem.W.Frag} {mg : Str → Option Value} {B : Heap} (T : Tp K mg) (h0 : D0 K mg s_worth_by "worth_by" dv_worth_by) (h_powers_of : CA P w K mg B 1 s_powers_of "powers_of" P_powers_of dv_powers_of dd_powers_of F_powers_of) (h_power_of : CA P w K mg B 1 s_power_of "power_of" P_power_of dv_power_of dd_power_of F_power_of) : CA P w K mg B 2 s_worth_by "worth_by" P_worth_by dv_worth_by dd_worth_by F_worth_by :=
  mkCA h0 sc_worth_by (by intro G; repeat (first | exact .nil | refine .cons (by first | exact .int _ | exact .bl _ | exact .non | exact .str _) ?_)) fun f fd cd A ou s H hg hr =>
    have nd := sc_worth_by.nd
    (db_cons (ds_set (i := 2) nd rfl (.inl rfl) de_int)
    (db_cons (ds_for PassesOwn.never rfl (di_seq (de_fz (de_cA h_powers_of hg (hr.mono (by decide)) rfl (da_cons (de_v 1) da_nil)))) (dg_tup rfl (dgs_cons (dg_name (i := 3) nd rfl (.inl rfl)) (dgs_cons (dg_name (i := 4) nd rfl (.inl rfl)) dgs_nil))) (db_one (ds_set (i := 2) nd rfl (.inl rfl) (de_bin op_mulAll s_mul (de_v 2) (de_dixA (un1 hr.units) (de_v 0) (de_cA h_power_of hg (hr.mono (by decide)) rfl (da_cons (de_v 3) (da_cons (de_v 4) da_nil))))))))
    (db_one (ds_ret (de_v 2)))))
/-! built_of -/
abbrev s_built_of : Stmt := topS 23
abbrev N_built_of : List Str := ["many", "worths", "table", "number"]
abbrev P_built_of : List Str := ["many", "worths"]
theorem sc_built_of : FnScope N_built_of P_built_of (defScope s_built_of) := ⟨rfl, rfl, rfl, by decide +kernel, rfl, by decide +kernel, by decide +kernel⟩
def ce0_built_of : DEx :=
    (eCallA F_worth_by [] [(eV 2), (eV 3)])
def den_built_of : DSt :=
    (sSeq (sSet 2 (eFz (eDictOf (eB oList [(eV 1)]))))
    (sRet (eLc (iRange [(eC (.int 1)), (eBin oAdd (eV 0) (eC (.int 1)))]) (.nm 3) yesD ce0_built_of [3])))
def F_built_of : List D → Option RV := mkA 2 4 den_built_of
abbrev dd_built_of : List D := []
abbrev dv_built_of : List V := []
theorem ok_built_of {P : Program} {w : World} {K : PySem.W.Frag} {mg : Str → Option Value} {B : Heap} (T : Tp K mg) (h0 : D0 K mg s_built_of "built_of" dv_built_of) (h_worth_by : CA P w K mg B 2 s_worth_by "worth_by" P_worth_by dv_worth_by dd_worth_by F_worth_by) : CA P w K mg B 3 s_built_of "built_of" P_built_of dv_built_of dd_built_of F_built_of :=
  mkCA h0 sc_built_of (by intro G; repeat (first | exact .nil | refine .cons (by first | exact .int _ | exact .bl _ | exact .non | exact .str _) ?_)) fun f fd cd A ou s H hg hr =>
    have nd := sc_built_of.nd
    (db_cons (ds_set (i := 2) nd rfl (.inr rfl) (de_fz (de_dictOf rfl rfl T.n_dict (by rfl) (de_ty call_list_of cs_list rfl T.n_list PyProof.Rows.boot_list (da_cons (de_v 1) da_nil)))))
    (db_one (ds_ret (de_lc (own := [("number", 3)]) rfl nd (di_range2 rfl T.n_range (da_cons de_int (da_cons (de_bin op_addA s_add (de_v 0) de_int) da_nil))) (blkOk_by (N := N_built_of) (sc := (defScope s_built_of)) (by decide +kernel)) (by decide) (fun _ _ _ _ _ => (dg_name (i := 3) nd rfl (.inl rfl))) (fun _ _ _ _ _ => dts_nil) (fun _ _ _ _ _ => (de_cA h_worth_by hg (hr.mono (by decide)) rfl (da_cons (de_v 2) (da_cons (de_v 3) da_nil))))))))
/-! couples_to -/
abbrev s_couples_to : Stmt := topS 24
abbrev N_couples_to : List Str := ["most", "found", "near", "far"]
abbrev P_couples_to : List Str := ["most"]
theorem sc_couples_to : FnScope N_couples_to P_couples_to (defScope s_couples_to) := ⟨rfl, rfl, rfl, by decide +kernel, rfl, by decide +kernel, by decide +kernel⟩
def ce0_couples_to : DEx :=
    (eTup [(eV 2), (eV 3)])
def lp0_couples_to : DSt :=
    (sExpr (eExt 1 (eLc (iRange [(eV 2), (eBin oAdd (eBin oFdiv (eV 0) (eV 2)) (eC (.int 1)))]) (.nm 3) yesD ce0_couples_to [3])))
def den_couples_to : DSt :=
    (sSeq (sSet 1 (eLst []))
    (sSeq (sFor (iRange [(eC (.int 2)), (eBin oAdd (eV 0) (eC (.int 1)))]) (.nm 2) lp0_couples_to)
    (sRet (eV 1))))
def F_couples_to : List D → Option RV := mkA 1 4 den_couples_to
abbrev dd_couples_to : List D := []
abbrev dv_couples_to : List V := []
theorem ok_couples_to {P : Program} {w : World} {K : PySem.W.Frag} {mg : Str → Option Value} {B : Heap} (T : Tp K mg) (h0 : D0 K mg s_couples_to "couples_to" dv_couples_to) : CA P w K mg B 1 s_couples_to "couples_to" P_couples_to dv_couples_to dd_couples_to F_couples_to :=
  mkCA h0 sc_couples_to (by intro G; repeat (first | exact .nil | refine .cons (by first | exact .int _ | exact .bl _ | exact .non | exact .str _) ?_)) fun f fd cd A ou s H hg hr =>
    have nd := sc_couples_to.nd
    (db_cons (ds_set (i := 1) nd rfl (.inl rfl) (de_lst da_nil))
    (db_cons (ds_for PassesOwn.never rfl (di_range2 rfl T.n_range (da_cons de_int (da_cons (de_bin op_addA s_add (de_v 0) de_int) da_nil))) (dg_name (i := 2) nd rfl (.inr rfl)) (db_one (ds_expr (de_extend (pv 1) (de_lc (own := [("far", 3)]) rfl nd (di_range2 rfl T.n_range (da_cons (de_v 2) (da_cons (de_bin op_addA s_add (de_bin op_fdivA s_fdiv (de_v 0) (de_v 2)) de_int) da_nil))) (blkOk_by (N := N_couples_to) (sc := (defScope s_couples_to)) (by decide +kernel)) (by decide) (fun _ _ _ _ _ => (dg_name (i := 3) nd rfl (.inl rfl))) (fun _ _ _ _ _ => dts_nil) (fun _ _ _ _ _ => (de_tup (da_cons (de_v 2) (da_cons (de_v 3) da_nil)))))))))
    (db_one (ds_ret (de_v 1)))))
/-! fails_at -/
abbrev s_fails_at : Stmt := topS 25
abbrev N_fails_at : List Str := ["row", "couple", "near", "far"]
abbrev P_fails_at : List Str := ["row", "couple"]
theorem sc_fails_at : FnScope N_fails_at P_fails_at (defScope s_fails_at) := ⟨rfl, rfl, rfl, by decide +kernel, rfl, by decide +kernel, by decide +kernel⟩
def den_fails_at : DSt :=
    (sSeq (sUnp (.tp [(.nm 2), (.nm 3)]) (eV 1))
    (sRet (eBin oNe (eBin oIx (eV 0) (eBin oSub (eBin oMul (eV 2) (eV 3)) (eC (.int 1)))) (eBin oMul (eBin oIx (eV 0) (eBin oSub (eV 2) (eC (.int 1)))) (eBin oIx (eV 0) (eBin oSub (eV 3) (eC (.int 1))))))))
def F_fails_at : List D → Option RV := mkA 2 4 den_fails_at
abbrev dd_fails_at : List D := []
abbrev dv_fails_at : List V := []
theorem ok_fails_at {P : Program} {w : World} {K : PySem.W.Frag} {mg : Str → Option Value} {B : Heap} (T : Tp K mg) (h0 : D0 K mg s_fails_at "fails_at" dv_fails_at) : CA P w K mg B 1 s_fails_at "fails_at" P_fails_at dv_fails_at dd_fails_at F_fails_at :=
  mkCA h0 sc_fails_at (by intro G; repeat (first | exact .nil | refine .cons (by first | exact .int _ | exact .bl _ | exact .non | exact .str _) ?_)) fun f fd cd A ou s H hg hr =>
    have nd := sc_fails_at.nd
    (db_cons (ds_unp (de_v 1) (dg_tup rfl (dgs_cons (dg_name (i := 2) nd rfl (.inl rfl)) (dgs_cons (dg_name (i := 3) nd rfl (.inl rfl)) dgs_nil))))
    (db_one (ds_ret (de_cmp (op_neP hr.units) s_ne (de_ix (de_v 0) (de_bin op_sub s_sub (de_bin op_mulAll s_mul (de_v 2) (de_v 3)) de_int)) (de_bin op_mulAll s_mul (de_ix (de_v 0) (de_bin op_sub s_sub (de_v 2) de_int)) (de_ix (de_v 0) (de_bin op_sub s_sub (de_v 3) de_int))) (nomark _)))))
/-! whole_breaks_of -/
abbrev s_whole_breaks_of : Stmt := topS 26
abbrev N_whole_breaks_of : List Str := ["row", "couple"]
abbrev P_whole_breaks_of : List Str := ["row"]
theorem sc_whole_breaks_of : FnScope N_whole_breaks_of P_whole_breaks_of (defScope s_whole_breaks_of) := ⟨rfl, rfl, rfl, by decide +kernel, rfl, by decide +kernel, by decide +kernel⟩
def ct0_whole_breaks_of : DTx :=
    (eT (eCallA F_fails_at [] [(eV 0), (eV 1)]))
def ce0_whole_breaks_of : DEx :=
    (eV 1)
def den_whole_breaks_of : DSt :=
    (sRet (eLc (iSeq (eFz (eCallA F_couples_to [] [(eB oLen [(eV 0)])]))) (.nm 1) ct0_whole_breaks_of ce0_whole_breaks_of [1]))
def F_whole_breaks_of : List D → Option RV := mkA 1 2 den_whole_breaks_of
abbrev dd_whole_breaks_of : List D := []
abbrev dv_whole_breaks_of : List V := []
theorem ok_whole_breaks_of {P : Program} {w : World} {K : PySem.W.Frag} {mg : Str → Option Value} {B : Heap} (T : Tp K mg) (h0 : D0 K mg s_whole_breaks_of "whole_breaks_of" dv_whole_breaks_of) (h_couples_to : CA P w K mg B 1 s_couples_to "couples_to" P_couples_to dv_couples_to dd_couples_to F_couples_to) (h_fails_at : CA P w K mg B 1 s_fails_at "fails_at" P_fails_at dv_fails_at dd_fails_at F_fails_at) : CA P w K mg B 2 s_whole_breaks_of "whole_breaks_of" P_whole_breaks_of dv_whole_breaks_of dd_whole_breaks_of F_whole_breaks_of :=
  mkCA h0 sc_whole_breaks_of (by intro G; repeat (first | exact .nil | refine .cons (by first | exact .int _ | exact .bl _ | exact .non | exact .str _) ?_)) fun f fd cd A ou s H hg hr =>
    have nd := sc_whole_breaks_of.nd
    (db_one (ds_ret (de_lc (own := [("couple", 1)]) rfl nd (di_seq (de_fz (de_cA h_couples_to hg (hr.mono (by decide)) rfl (da_cons (de_b call_len cs_len rfl T.n_len PySem.boot_len (da_cons (de_v 0) da_nil)) da_nil)))) (blkOk_by (N := N_whole_breaks_of) (sc := (defScope s_whole_breaks_of)) (by decide +kernel)) (by decide) (fun _ _ _ _ _ => (dg_name (i := 1) nd rfl (.inl rfl))) (fun _ _ _ _ _ => (dts_one (dt_val (de_cA h_fails_at hg (hr.mono (by decide)) rfl (da_cons (de_v 0) (da_cons (de_v 1) da_nil)))))) (fun _ _ _ _ _ => (de_v 1)))))
/-! breaks_of -/
abbrev s_breaks_of : Stmt := topS 27
abbrev N_breaks_of : List Str := ["row", "couple"]
abbrev P_breaks_of : List Str := ["row"]
theorem sc_breaks_of : FnScope N_breaks_of P_breaks_of (defScope s_breaks_of) := ⟨rfl, rfl, rfl, by decide +kernel, rfl, by decide +kernel, by decide +kernel⟩
def ct0_breaks_of : DTx :=
    (eT (eBin oEq (eCallA F_share_of [] [(eBin oIx (eV 1) (eC (.int 0))), (eBin oIx (eV 1) (eC (.int 1)))]) (eC (.int 1))))
def ce0_breaks_of : DEx :=
    (eV 1)
def den_breaks_of : DSt :=
    (sRet (eLc (iSeq (eFz (eCallA F_whole_breaks_of [] [(eV 0)]))) (.nm 1) ct0_breaks_of ce0_breaks_of [1]))
def F_breaks_of : List D → Option RV := mkA 1 2 den_breaks_of
abbrev dd_breaks_of : List D := []
abbrev dv_breaks_of : List V := []
theorem ok_breaks_of {P : Program} {w : World} {K : PySem.W.Frag} {mg : Str → Option Value} {B : Heap} (T : Tp K mg) (h0 : D0 K mg s_breaks_of "breaks_of" dv_breaks_of) (h_whole_breaks_of : CA P w K mg B 2 s_whole_breaks_of "whole_breaks_of" P_whole_breaks_of dv_whole_breaks_of dd_whole_breaks_of F_whole_breaks_of) (h_share_of : CA P w K mg B 1 s_share_of "share_of" P_share_of dv_share_of dd_share_of F_share_of) : CA P w K mg B 3 s_breaks_of "breaks_of" P_breaks_of dv_breaks_of dd_breaks_of F_breaks_of :=
  mkCA h0 sc_breaks_of (by intro G; repeat (first | exact .nil | refine .cons (by first | exact .int _ | exact .bl _ | exact .non | exact .str _) ?_)) fun f fd cd A ou s H hg hr =>
    have nd := sc_breaks_of.nd
    (db_one (ds_ret (de_lc (own := [("couple", 1)]) rfl nd (di_seq (de_fz (de_cA h_whole_breaks_of hg (hr.mono (by decide)) rfl (da_cons (de_v 0) da_nil)))) (blkOk_by (N := N_breaks_of) (sc := (defScope s_breaks_of)) (by decide +kernel)) (by decide) (fun _ _ _ _ _ => (dg_name (i := 1) nd rfl (.inl rfl))) (fun _ _ _ _ _ => (dts_one (dt_cmp (op_eqP hr.units) s_eq (de_cA h_share_of hg (hr.mono (by decide)) rfl (da_cons (de_ix (de_v 1) de_int) (da_cons (de_ix (de_v 1) de_int) da_nil))) de_int (nomark _)))) (fun _ _ _ _ _ => (de_v 1)))))
/-! is_productive_row -/
abbrev s_is_productive_row : Stmt := topS 28
abbrev N_is_productive_row : List Str := ["row"]
abbrev P_is_productive_row : List Str := ["row"]
theorem sc_is_productive_row : FnScope N_is_productive_row P_is_productive_row (defScope s_is_productive_row) := ⟨rfl, rfl, rfl, by decide +kernel, rfl, by decide +kernel, by decide +kernel⟩
def den_is_productive_row : DSt :=
    (sRet (eAnd (eBin oEq (eBin oIx (eV 0) (eC (.int 0))) (eC (.int 1))) (eBin oEq (eCallA F_breaks_of [] [(eV 0)]) (eLst []))))
def F_is_productive_row : List D → Option RV := mkA 1 1 den_is_productive_row
abbrev dd_is_productive_row : List D := []
abbrev dv_is_productive_row : List V := []
theorem ok_is_productive_row {P : Program} {w : World} {K : PySem.W.Frag} {mg : Str → Option Value} {B : Heap} (T : Tp K mg) (h0 : D0 K mg s_is_productive_row "is_productive_row" dv_is_productive_row) (h_breaks_of : CA P w K mg B 3 s_breaks_of "breaks_of" P_breaks_of dv_breaks_of dd_breaks_of F_breaks_of) : CA P w K mg B 4 s_is_productive_row "is_productive_row" P_is_productive_row dv_is_productive_row dd_is_productive_row F_is_productive_row :=
  mkCA h0 sc_is_productive_row (by intro G; repeat (first | exact .nil | refine .cons (by first | exact .int _ | exact .bl _ | exact .non | exact .str _) ?_)) fun f fd cd A ou s H hg hr =>
    have nd := sc_is_productive_row.nd
    (db_one (ds_ret (de_and (de_cmp (op_eqP hr.units) s_eq (de_ix (de_v 0) de_int) de_int (nomark _)) (de_one (de_cmp (op_eqP hr.units) s_eq (de_cA h_breaks_of hg (hr.mono (by decide)) rfl (da_cons (de_v 0) da_nil)) (de_lst da_nil) (nomark _))))))
/-! is_productive -/
abbrev s_is_productive : Stmt := topS 29
abbrev N_is_productive : List Str := ["row"]
abbrev P_is_productive : List Str := ["row"]
theorem sc_is_productive : FnScope N_is_productive P_is_productive (defScope s_is_productive) := ⟨rfl, rfl, rfl, by decide +kernel, rfl, by decide +kernel, by decide +kernel⟩
def den_is_productive : DSt :=
    (sSeq (sExpr (eCallA F_want_row [] [(eV 0)]))
    (sRet (eCallA F_is_productive_row [] [(eV 0)])))
def F_is_productive : List D → Option RV := mkA 1 1 den_is_productive
abbrev dd_is_productive : List D := []
abbrev dv_is_productive : List V := []
theorem ok_is_productive {P : Program} {w : World} {K : PySem.W.Frag} {mg : Str → Option Value} {B : Heap} (T : Tp K mg) (h0 : D0 K mg s_is_productive "is_productive" dv_is_productive) (h_want_row : CA P w K mg B 3 s_want_row "want_row" P_want_row dv_want_row dd_want_row F_want_row) (h_is_productive_row : CA P w K mg B 4 s_is_productive_row "is_productive_row" P_is_productive_row dv_is_productive_row dd_is_productive_row F_is_productive_row) : CA P w K mg B 5 s_is_productive "is_productive" P_is_productive dv_is_productive dd_is_productive F_is_productive :=
  mkCA h0 sc_is_productive (by intro G; repeat (first | exact .nil | refine .cons (by first | exact .int _ | exact .bl _ | exact .non | exact .str _) ?_)) fun f fd cd A ou s H hg hr =>
    have nd := sc_is_productive.nd
    (db_cons (ds_expr (de_cA h_want_row hg (hr.mono (by decide)) rfl (da_cons (de_v 0) da_nil)))
    (db_one (ds_ret (de_cA h_is_productive_row hg (hr.mono (by decide)) rfl (da_cons (de_v 0) da_nil)))))
/-! prime_worths -/
abbrev s_prime_worths : Stmt := topS 30
abbrev N_prime_worths : List Str := ["row"]
abbrev P_prime_worths : List Str := ["row"]
theorem sc_prime_worths : FnScope N_prime_worths P_prime_worths (defScope s_prime_worths) := ⟨rfl, rfl, rfl, by decide +kernel, rfl, by decide +kernel, by decide +kernel⟩
def den_prime_worths : DSt :=
    (sSeq (sExpr (eCallA F_want_row [] [(eV 0)]))
    (sRet (eCallA F_worths_of [] [(eV 0)])))
def F_prime_worths : List D → Option RV := mkA 1 1 den_prime_worths
abbrev dd_prime_worths : List D := []
abbrev dv_prime_worths : List V := []
theorem ok_prime_worths {P : Program} {w : World} {K : PySem.W.Frag} {mg : Str → Option Value} {B : Heap} (T : Tp K mg) (h0 : D0 K mg s_prime_worths "prime_worths" dv_prime_worths) (h_want_row : CA P w K mg B 3 s_want_row "want_row" P_want_row dv_want_row dd_want_row F_want_row) (h_worths_of : CA P w K mg B 3 s_worths_of "worths_of" P_worths_of dv_worths_of dd_worths_of F_worths_of) : CA P w K mg B 4 s_prime_worths "prime_worths" P_prime_worths dv_prime_worths dd_prime_worths F_prime_worths :=
  mkCA h0 sc_prime_worths (by intro G; repeat (first | exact .nil | refine .cons (by first | exact .int _ | exact .bl _ | exact .non | exact .str _) ?_)) fun f fd cd A ou s H hg hr =>
    have nd := sc_prime_worths.nd
    (db_cons (ds_expr (de_cA h_want_row hg (hr.mono (by decide)) rfl (da_cons (de_v 0) da_nil)))
    (db_one (ds_ret (de_cA h_worths_of hg (hr.mono (by decide)) rfl (da_cons (de_v 0) da_nil)))))
/-! productive_part -/
abbrev s_productive_part : Stmt := topS 31
abbrev N_productive_part : List Str := ["row"]
abbrev P_productive_part : List Str := ["row"]
theorem sc_productive_part : FnScope N_productive_part P_productive_part (defScope s_productive_part) := ⟨rfl, rfl, rfl, by decide +kernel, rfl, by decide +kernel, by decide +kernel⟩
def den_productive_part : DSt :=
    (sSeq (sExpr (eCallA F_want_row [] [(eV 0)]))
    (sRet (eCallA F_built_of [] [(eB oLen [(eV 0)]), (eFz (eCallA F_worths_of [] [(eV 0)]))])))
def F_productive_part : List D → Option RV := mkA 1 1 den_productive_part
abbrev dd_productive_part : List D := []
abbrev dv_productive_part : List V := []
theorem ok_productive_part {P : Program} {w : World} {K : PySem.W.Frag} {mg : Str → Option Value} {B : Heap} (T : Tp K mg) (h0 : D0 K mg s_productive_part "productive_part" dv_productive_part) (h_want_row : CA P w K mg B 3 s_want_row "want_row" P_want_row dv_want_row dd_want_row F_want_row) (h_built_of : CA P w K mg B 3 s_built_of "built_of" P_built_of dv_built_of dd_built_of F_built_of) (h_worths_of : CA P w K mg B 3 s_worths_of "worths_of" P_worths_of dv_worths_of dd_worths_of F_worths_of) : CA P w K mg B 4 s_productive_part "productive_part" P_productive_part dv_productive_part dd_productive_part F_productive_part :=
  mkCA h0 sc_productive_part (by intro G; repeat (first | exact .nil | refine .cons (by first | exact .int _ | exact .bl _ | exact .non | exact .str _) ?_)) fun f fd cd A ou s H hg hr =>
    have nd := sc_productive_part.nd
    (db_cons (ds_expr (de_cA h_want_row hg (hr.mono (by decide)) rfl (da_cons (de_v 0) da_nil)))
    (db_one (ds_ret (de_cA h_built_of hg (hr.mono (by decide)) rfl (da_cons (de_b call_len cs_len rfl T.n_len PySem.boot_len (da_cons (de_v 0) da_nil)) (da_cons (de_fz (de_cA h_worths_of hg (hr.mono (by decide)) rfl (da_cons (de_v 0) da_nil))) da_nil))))))
/-! productive_to -/
abbrev s_productive_to : Stmt := topS 32
abbrev N_productive_to : List Str := ["row", "near", "far"]
abbrev P_productive_to : List Str := ["row"]
theorem sc_productive_to : FnScope N_productive_to P_productive_to (defScope s_productive_to) := ⟨rfl, rfl, rfl, by decide +kernel, rfl, by decide +kernel, by decide +kernel⟩
def ce0_productive_to : DEx :=
    (eBin oSub (eBin oMul (eV 1) (eV 2)) (eC (.int 1)))
def den_productive_to : DSt :=
    (sSeq (sExpr (eCallA F_want_row [] [(eV 0)]))
    (sSeq (sIf (eT (eBin oNe (eBin oIx (eV 0) (eC (.int 0))) (eC (.int 1)))) (sRet (eC (.int 0))) sNext)
    (sRet (eB oMin [(eBin oAdd (eLst [(eB oLen [(eV 0)])]) (eLc (iSeq (eFz (eCallA F_breaks_of [] [(eV 0)]))) (.tp [(.nm 1), (.nm 2)]) yesD ce0_productive_to [1, 2]))]))))
def F_productive_to : List D → Option RV := mkA 1 3 den_productive_to
abbrev dd_productive_to : List D := []
abbrev dv_productive_to : List V := []
theorem ok_productive_to {P : Program} {w : World} {K : PySem.W.Frag} {mg : Str → Option Value} {B : Heap} (T : Tp K mg) (h0 : D0 K mg s_productive_to "productive_to" dv_productive_to) (h_want_row : CA P w K mg B 3 s_want_row "want_row" P_want_row dv_want_row dd_want_row F_want_row) (h_breaks_of : CA P w K mg B 3 s_breaks_of "breaks_of" P_breaks_of dv_breaks_of dd_breaks_of F_breaks_of) : CA P w K mg B 4 s_productive_to "productive_to" P_productive_to dv_productive_to dd_productive_to F_productive_to :=
  mkCA h0 sc_productive_to (by intro G; repeat (first | exact .nil | refine .cons (by first | exact .int _ | exact .bl _ | exact .non | exact .str _) ?_)) fun f fd cd A ou s H hg hr =>
    have nd := sc_productive_to.nd
    (db_cons (ds_expr (de_cA h_want_row hg (hr.mono (by decide)) rfl (da_cons (de_v 0) da_nil)))
    (db_cons (ds_if (dt_cmp (op_neP hr.units) s_ne (de_ix (de_v 0) de_int) de_int (nomark _)) (db_one (ds_ret de_int)) db_nil)
    (db_one (ds_ret (de_b (CallR.either (call_min2 rfl) (cr_min rfl)) cs_min rfl T.n_min PyProof.Rows.boot_min (da_cons (de_bin op_addA s_add (de_lst (da_cons (de_b call_len cs_len rfl T.n_len PySem.boot_len (da_cons (de_v 0) da_nil)) da_nil)) (de_lc (own := [("near", 1), ("far", 2)]) rfl nd (di_seq (de_fz (de_cA h_breaks_of hg (hr.mono (by decide)) rfl (da_cons (de_v 0) da_nil)))) (blkOk_by (N := N_productive_to) (sc := (defScope s_productive_to)) (by decide +kernel)) (by decide) (fun _ _ _ _ _ => (dg_tup rfl (dgs_cons (dg_name (i := 1) nd rfl (.inl rfl)) (dgs_cons (dg_name (i := 2) nd rfl (.inl rfl)) dgs_nil)))) (fun _ _ _ _ _ => dts_nil) (fun _ _ _ _ _ => (de_bin op_sub s_sub (de_bin op_mulAll s_mul (de_v 1) (de_v 2)) de_int)))) da_nil))))))
/-! least_of -/
abbrev s_least_of : Stmt := topS 37
abbrev N_least_of : List Str := ["breaks", "found", "near", "far"]
abbrev P_least_of : List Str := ["breaks"]
theorem sc_least_of : FnScope N_least_of P_least_of (defScope s_least_of) := ⟨rfl, rfl, rfl, by decide +kernel, rfl, by decide +kernel, by decide +kernel⟩
def ce0_least_of : DEx :=
    (eTup [(eBin oMul (eV 2) (eV 3)), (eV 2), (eV 3)])
def den_least_of : DSt :=
    (sSeq (sSet 1 (eFz (eB (oSortT 3 64) [(eLc (iSeq (eV 0)) (.tp [(.nm 2), (.nm 3)]) yesD ce0_least_of [2, 3])])))
    (sRet (eIf (eT (eBin oNe (eV 1) (eLst []))) (eSl (eBin oIx (eV 1) (eC (.int 0))) (some (eC (.int 1))) none) (eC .none))))
def F_least_of : List D → Option RV := mkA 1 4 den_least_of
abbrev dd_least_of : List D := []
abbrev dv_least_of : List V := []
theorem ok_least_of {P : Program} {w : World} {K : PySem.W.Frag} {mg : Str → Option Value} {B : Heap} (T : Tp K mg) (h0 : D0 K mg s_least_of "least_of" dv_least_of) : CA P w K mg B 1 s_least_of "least_of" P_least_of dv_least_of dd_least_of F_least_of :=
  mkCA h0 sc_least_of (by intro G; repeat (first | exact .nil | refine .cons (by first | exact .int _ | exact .bl _ | exact .non | exact .str _) ?_)) fun f fd cd A ou s H hg hr =>
    have nd := sc_least_of.nd
    (db_cons (ds_set (i := 1) nd rfl (.inl rfl) (de_fz (de_b (cr_sortT (by decide)) (cs_sortT 3 64) rfl T.n_sorted PyProof.Rows.boot_sorted (da_cons (de_lc (own := [("near", 2), ("far", 3)]) rfl nd (di_seq (de_v 0)) (blkOk_by (N := N_least_of) (sc := (defScope s_least_of)) (by decide +kernel)) (by decide) (fun _ _ _ _ _ => (dg_tup rfl (dgs_cons (dg_name (i := 2) nd rfl (.inl rfl)) (dgs_cons (dg_name (i := 3) nd rfl (.inl rfl)) dgs_nil)))) (fun _ _ _ _ _ => dts_nil) (fun _ _ _ _ _ => (de_tup (da_cons (de_bin op_mulAll s_mul (de_v 2) (de_v 3)) (da_cons (de_v 2) (da_cons (de_v 3) da_nil)))))) da_nil))))
    (db_one (ds_ret (de_if (dt_cmp (op_neP hr.units) s_ne (de_v 1) (de_lst da_nil) (nomark _)) (de_sl (de_ix (de_v 1) de_int) (dp_some de_int) dp_none) de_non))))
/-! product_paper_of -/
abbrev s_product_paper_of : Stmt := topS 38
abbrev N_product_paper_of : List Str := ["row", "found"]
abbrev P_product_paper_of : List Str := ["row"]
theorem sc_product_paper_of : FnScope N_product_paper_of P_product_paper_of (defScope s_product_paper_of) := ⟨rfl, rfl, rfl, by decide +kernel, rfl, by decide +kernel, by decide +kernel⟩
def den_product_paper_of : DSt :=
    (sSeq (sIf (eT (eBin oNe (eBin oIx (eV 0) (eC (.int 0))) (eC (.int 1)))) (sRet (eTup [(eC (.str "first")), (eBin oIx (eV 0) (eC (.int 0)))])) sNext)
    (sSeq (sSet 1 (eFz (eCallA F_least_of [] [(eFz (eCallA F_breaks_of [] [(eV 0)]))])))
    (sRet (eIf (eT (eBin oNotN (eV 1) (eC .none))) (eTup [(eC (.str "break")), (eV 1)]) (eTup [(eC (.str "worths")), (eB oTuple [(eCallA F_worths_of [] [(eV 0)])])])))))
def F_product_paper_of : List D → Option RV := mkA 1 2 den_product_paper_of
abbrev dd_product_paper_of : List D := []
abbrev dv_product_paper_of : List V := []
theorem ok_product_paper_of {P : Program} {w : World} {K : PySem.W.Frag} {mg : Str → Option Value} {B : Heap} (T : Tp K mg) (h0 : D0 K mg s_product_paper_of "product_paper_of" dv_product_paper_of) (h_least_of : CA P w K mg B 1 s_least_of "least_of" P_least_of dv_least_of dd_least_of F_least_of) (h_breaks_of : CA P w K mg B 3 s_breaks_of "breaks_of" P_breaks_of dv_breaks_of dd_breaks_of F_breaks_of) (h_worths_of : CA P w K mg B 3 s_worths_of "worths_of" P_worths_of dv_worths_of dd_worths_of F_worths_of) : CA P w K mg B 4 s_product_paper_of "product_paper_of" P_product_paper_of dv_product_paper_of dd_product_paper_of F_product_paper_of :=
  mkCA h0 sc_product_paper_of (by intro G; repeat (first | exact .nil | refine .cons (by first | exact .int _ | exact .bl _ | exact .non | exact .str _) ?_)) fun f fd cd A ou s H hg hr =>
    have nd := sc_product_paper_of.nd
    (db_cons (ds_if (dt_cmp (op_neP hr.units) s_ne (de_ix (de_v 0) de_int) de_int (nomark _)) (db_one (ds_ret (de_tup (da_cons (T.c_FIRST.elim fun t ht => de_glob (v := .str "first") rfl ht ⟨_, rfl⟩ fun _ => .str _) (da_cons (de_ix (de_v 0) de_int) da_nil))))) db_nil)
    (db_cons (ds_set (i := 1) nd rfl (.inl rfl) (de_fz (de_cA h_least_of hg (hr.mono (by decide)) rfl (da_cons (de_fz (de_cA h_breaks_of hg (hr.mono (by decide)) rfl (da_cons (de_v 0) da_nil))) da_nil))))
    (db_one (ds_ret (de_if (dt_cmp op_notN s_notN (de_v 1) de_non (nomark _)) (de_tup (da_cons (T.c_BREAK.elim fun t ht => de_glob (v := .str "break") rfl ht ⟨_, rfl⟩ fun _ => .str _) (da_cons (de_v 1) da_nil))) (de_tup (da_cons (T.c_WORTHS.elim fun t ht => de_glob (v := .str "worths") rfl ht ⟨_, rfl⟩ fun _ => .str _) (da_cons (de_ty call_tuple_of cs_tuple rfl T.n_tuple PyProof.Rows.boot_tuple (da_cons (de_cA h_worths_of hg (hr.mono (by decide)) rfl (da_cons (de_v 0) da_nil)) da_nil)) da_nil))))))))
/-! is_couple -/
abbrev s_is_couple : Stmt := topS 39
abbrev N_is_couple : List Str := ["row", "value", "one"]
abbrev P_is_couple : List Str := ["row", "value"]
theorem sc_is_couple : FnScope N_is_couple P_is_couple (defScope s_is_couple) := ⟨rfl, rfl, rfl, by decide +kernel, rfl, by decide +kernel, by decide +kernel⟩
def ce0_is_couple : DEx :=
    (eAnd (eCallA F_is_count [] [(eV 2)]) (eBin oGt (eV 2) (eC (.int 1))))
def den_is_couple : DSt :=
    (sSeq (sIf (tOrD (tNotD (eT (eIsi "tuple" (eV 1)))) (tOrD (eT (eBin oNe (eB oLen [(eV 1)]) (eC (.int 2)))) (tNotD (eT (eB oAll [(eLc (iSeq (eV 1)) (.nm 2) yesD ce0_is_couple [2])]))))) (sRet (eC (.bool false))) sNext)
    (sRet (eBin oLe (eBin oMul (eBin oIx (eV 1) (eC (.int 0))) (eBin oIx (eV 1) (eC (.int 1)))) (eB oLen [(eV 0)]))))
def F_is_couple : List D → Option RV := mkA 2 3 den_is_couple
abbrev dd_is_couple : List D := []
abbrev dv_is_couple : List V := []
theorem ok_is_couple {P : Program} {w : World} {K : PySem.W.Frag} {mg : Str → Option Value} {B : Heap} (T : Tp K mg) (h0 : D0 K mg s_is_couple "is_couple" dv_is_couple) (h_is_count : CA P w K mg B 2 s_is_count "is_count" P_is_count dv_is_count dd_is_count F_is_count) : CA P w K mg B 3 s_is_couple "is_couple" P_is_couple dv_is_couple dd_is_couple F_is_couple :=
  mkCA h0 sc_is_couple (by intro G; repeat (first | exact .nil | refine .cons (by first | exact .int _ | exact .bl _ | exact .non | exact .str _) ?_)) fun f fd cd A ou s H hg hr =>
    have nd := sc_is_couple.nd
    (db_cons (ds_if (dt_w (dw_or (dt_not (dt_val (de_isi rfl T.n_isinstance rfl T.n_tuple PyProof.Rows.boot_tuple (de_v 1)))) (dw_or (dt_cmp (op_neP hr.units) s_ne (de_b call_len cs_len rfl T.n_len PySem.boot_len (da_cons (de_v 1) da_nil)) de_int (nomark _)) (dw_or1 (dt_not (dt_val (de_b (cr_all rfl) cs_all rfl T.n_all PyProof.Rows.boot_all (da_cons (de_lc (own := [("one", 2)]) rfl nd (di_seq (de_v 1)) (blkOk_by (N := N_is_couple) (sc := (defScope s_is_couple)) (by decide +kernel)) (by decide) (fun _ _ _ _ _ => (dg_name (i := 2) nd rfl (.inl rfl))) (fun _ _ _ _ _ => dts_nil) (fun _ _ _ _ _ => (de_and (de_cA h_is_count hg (hr.mono (by decide)) rfl (da_cons (de_v 2) da_nil)) (de_one (de_cmp op_gt s_gt (de_v 2) de_int (nomark _)))))) da_nil)))))))) (db_one (ds_ret de_bl)) db_nil)
    (db_one (ds_ret (de_cmp op_le s_le (de_bin op_mulAll s_mul (de_ix (de_v 1) de_int) (de_ix (de_v 1) de_int)) (de_b call_len cs_len rfl T.n_len PySem.boot_len (da_cons (de_v 0) da_nil)) (nomark _)))))
/-! is_first -/
abbrev s_is_first : Stmt := topS 40
abbrev N_is_first : List Str := ["row", "value"]
abbrev P_is_first : List Str := ["row", "value"]
theorem sc_is_first : FnScope N_is_first P_is_first (defScope s_is_first) := ⟨rfl, rfl, rfl, by decide +kernel, rfl, by decide +kernel, by decide +kernel⟩
def den_is_first : DSt :=
    (sRet (eAnd (eCallA F_is_integer [] [(eV 1)]) (eAnd (eBin oEq (eV 1) (eBin oIx (eV 0) (eC (.int 0)))) (eBin oNe (eV 1) (eC (.int 1))))))
def F_is_first : List D → Option RV := mkA 2 2 den_is_first
abbrev dd_is_first : List D := []
abbrev dv_is_first : List V := []
theorem ok_is_first {P : Program} {w : World} {K : PySem.W.Frag} {mg : Str → Option Value} {B : Heap} (T : Tp K mg) (h0 : D0 K mg s_is_first "is_first" dv_is_first) (h_is_integer : CA P w K mg B 1 s_is_integer "is_integer" P_is_integer dv_is_integer dd_is_integer F_is_integer) : CA P w K mg B 2 s_is_first "is_first" P_is_first dv_is_first dd_is_first F_is_first :=
  mkCA h0 sc_is_first (by intro G; repeat (first | exact .nil | refine .cons (by first | exact .int _ | exact .bl _ | exact .non | exact .str _) ?_)) fun f fd cd A ou s H hg hr =>
    have nd := sc_is_first.nd
    (db_one (ds_ret (de_and (de_cA h_is_integer hg (hr.mono (by decide)) rfl (da_cons (de_v 1) da_nil)) (de_and (de_cmp (op_eqP hr.units) s_eq (de_v 1) (de_ix (de_v 0) de_int) (nomark _)) (de_one (de_cmp (op_neP hr.units) s_ne (de_v 1) de_int (nomark _)))))))
/-! is_worded -/
abbrev s_is_worded : Stmt := topS 41
abbrev N_is_worded : List Str := ["value"]
abbrev P_is_worded : List Str := ["value"]
theorem sc_is_worded : FnScope N_is_worded P_is_worded (defScope s_is_worded) := ⟨rfl, rfl, rfl, by decide +kernel, rfl, by decide +kernel, by decide +kernel⟩
def den_is_worded : DSt :=
    (sRet (eAnd (eIsi "tuple" (eV 0)) (eAnd (eBin oEq (eB oLen [(eV 0)]) (eC (.int 2))) (eIsi "str" (eBin oIx (eV 0) (eC (.int 0)))))))
def F_is_worded : List D → Option RV := mkA 1 1 den_is_worded
abbrev dd_is_worded : List D := []
abbrev dv_is_worded : List V := []
theorem ok_is_worded {P : Program} {w : World} {K : PySem.W.Frag} {mg : Str → Option Value} {B : Heap} (T : Tp K mg) (h0 : D0 K mg s_is_worded "is_worded" dv_is_worded) : CA P w K mg B 1 s_is_worded "is_worded" P_is_worded dv_is_worded dd_is_worded F_is_worded :=
  mkCA h0 sc_is_worded (by intro G; repeat (first | exact .nil | refine .cons (by first | exact .int _ | exact .bl _ | exact .non | exact .str _) ?_)) fun f fd cd A ou s H hg hr =>
    have nd := sc_is_worded.nd
    (db_one (ds_ret (de_and (de_isi rfl T.n_isinstance rfl T.n_tuple PyProof.Rows.boot_tuple (de_v 0)) (de_and (de_cmp (op_eqP hr.units) s_eq (de_b call_len cs_len rfl T.n_len PySem.boot_len (da_cons (de_v 0) da_nil)) de_int (nomark _)) (de_one (de_isi rfl T.n_isinstance rfl T.n_str PyProof.Rows.boot_str (de_ix (de_v 0) de_int)))))))
/-! is_broken_at -/
abbrev s_is_broken_at : Stmt := topS 42
abbrev N_is_broken_at : List Str := ["row", "value"]
abbrev P_is_broken_at : List Str := ["row", "value"]
theorem sc_is_broken_at : FnScope N_is_broken_at P_is_broken_at (defScope s_is_broken_at) := ⟨rfl, rfl, rfl, by decide +kernel, rfl, by decide +kernel, by decide +kernel⟩
def den_is_broken_at : DSt :=
    (sRet (eAnd (eBin oEq (eBin oIx (eV 0) (eC (.int 0))) (eC (.int 1))) (eAnd (eCallA F_is_couple [] [(eV 0), (eV 1)]) (eCallA F_fails_at [] [(eV 0), (eV 1)]))))
def F_is_broken_at : List D → Option RV := mkA 2 2 den_is_broken_at
abbrev dd_is_broken_at : List D := []
abbrev dv_is_broken_at : List V := []
theorem ok_is_broken_at {P : Program} {w : World} {K : PySem.W.Frag} {mg : Str → Option Value} {B : Heap} (T : Tp K mg) (h0 : D0 K mg s_is_broken_at "is_broken_at" dv_is_broken_at) (h_is_couple : CA P w K mg B 3 s_is_couple "is_couple" P_is_couple dv_is_couple dd_is_couple F_is_couple) (h_fails_at : CA P w K mg B 1 s_fails_at "fails_at" P_fails_at dv_fails_at dd_fails_at F_fails_at) : CA P w K mg B 4 s_is_broken_at "is_broken_at" P_is_broken_at dv_is_broken_at dd_is_broken_at F_is_broken_at :=
  mkCA h0 sc_is_broken_at (by intro G; repeat (first | exact .nil | refine .cons (by first | exact .int _ | exact .bl _ | exact .non | exact .str _) ?_)) fun f fd cd A ou s H hg hr =>
    have nd := sc_is_broken_at.nd
    (db_one (ds_ret (de_and (de_cmp (op_eqP hr.units) s_eq (de_ix (de_v 0) de_int) de_int (nomark _)) (de_and (de_cA h_is_couple hg (hr.mono (by decide)) rfl (da_cons (de_v 0) (da_cons (de_v 1) da_nil))) (de_one (de_cA h_fails_at hg (hr.mono (by decide)) rfl (da_cons (de_v 0) (da_cons (de_v 1) da_nil))))))))
/-! product_paper -/
abbrev s_product_paper : Stmt := topS 43
abbrev N_product_paper : List Str := ["row"]
abbrev P_product_paper : List Str := ["row"]
theorem sc_product_paper : FnScope N_product_paper P_product_paper (defScope s_product_paper) := ⟨rfl, rfl, rfl, by decide +kernel, rfl, by decide +kernel, by decide +kernel⟩
def den_product_paper : DSt :=
    (sSeq (sExpr (eCallA F_want_row [] [(eV 0)]))
    (sRet (eCallA F_product_paper_of [] [(eV 0)])))
def F_product_paper : List D → Option RV := mkA 1 1 den_product_paper
abbrev dd_product_paper : List D := []
abbrev dv_product_paper : List V := []
theorem ok_product_paper {P : Program} {w : World} {K : PySem.W.Frag} {mg : Str → Option Value} {B : Heap} (T : Tp K mg) (h0 : D0 K mg s_product_paper "product_paper" dv_product_paper) (h_want_row : CA P w K mg B 3 s_want_row "want_row" P_want_row dv_want_row dd_want_row F_want_row) (h_product_paper_of : CA P w K mg B 4 s_product_paper_of "product_paper_of" P_product_paper_of dv_product_paper_of dd_product_paper_of F_product_paper_of) : CA P w K mg B 5 s_product_paper "product_paper" P_product_paper dv_product_paper dd_product_paper F_product_paper :=
  mkCA h0 sc_product_paper (by intro G; repeat (first | exact .nil | refine .cons (by first | exact .int _ | exact .bl _ | exact .non | exact .str _) ?_)) fun f fd cd A ou s H hg hr =>
    have nd := sc_product_paper.nd
    (db_cons (ds_expr (de_cA h_want_row hg (hr.mono (by decide)) rfl (da_cons (de_v 0) da_nil)))
    (db_one (ds_ret (de_cA h_product_paper_of hg (hr.mono (by decide)) rfl (da_cons (de_v 0) da_nil)))))
/-! is_product_paper -/
abbrev s_is_product_paper : Stmt := topS 44
abbrev N_is_product_paper : List Str := ["row", "value"]
abbrev P_is_product_paper : List Str := ["row", "value"]
theorem sc_is_product_paper : FnScope N_is_product_paper P_is_product_paper (defScope s_is_product_paper) := ⟨rfl, rfl, rfl, by decide +kernel, rfl, by decide +kernel, by decide +kernel⟩
def den_is_product_paper : DSt :=
    (sSeq (sExpr (eCallA F_want_row [] [(eV 0)]))
    (sSeq (sIf (tNotD (eT (eCallA F_is_worded [] [(eV 1)]))) (sRet (eC (.bool false))) sNext)
    (sSeq (sIf (eT (eBin oEq (eBin oIx (eV 1) (eC (.int 0))) (eC (.str "worths")))) (sRet (eAnd (eCallA F_are_worths [] [(eFz (eCallA F_places_of [] [(eB oLen [(eV 0)])])), (eBin oIx (eV 1) (eC (.int 1)))]) (eBin oEq (eCallA F_built_of [] [(eB oLen [(eV 0)]), (eBin oIx (eV 1) (eC (.int 1)))]) (eB oList [(eV 0)])))) sNext)
    (sSeq (sIf (eT (eBin oEq (eBin oIx (eV 1) (eC (.int 0))) (eC (.str "first")))) (sRet (eCallA F_is_first [] [(eV 0), (eBin oIx (eV 1) (eC (.int 1)))])) sNext)
    (sRet (eAnd (eBin oEq (eBin oIx (eV 1) (eC (.int 0))) (eC (.str "break"))) (eAnd (eCallA F_is_broken_at [] [(eV 0), (eBin oIx (eV 1) (eC (.int 1)))]) (eBin oEq (eCallA F_share_of [] [(eBin oIx (eBin oIx (eV 1) (eC (.int 1))) (eC (.int 0))), (eBin oIx (eBin oIx (eV 1) (eC (.int 1))) (eC (.int 1)))]) (eC (.int 1))))))))))
def F_is_product_paper : List D → Option RV := mkA 2 2 den_is_product_paper
abbrev dd_is_product_paper : List D := []
abbrev dv_is_product_paper : List V := []
theorem ok_is_product_paper {P : Program} {w : World} {K : PySem.W.Frag} {mg : Str → Option Value} {B : Heap} (T : Tp K mg) (h0 : D0 K mg s_is_product_paper "is_product_paper" dv_is_product_paper) (h_want_row : CA P w K mg B 3 s_want_row "want_row" P_want_row dv_want_row dd_want_row F_want_row) (h_is_worded : CA P w K mg B 1 s_is_worded "is_worded" P_is_worded dv_is_worded dd_is_worded F_is_worded) (h_are_worths : CA P w K mg B 2 s_are_worths "are_worths" P_are_worths dv_are_worths dd_are_worths F_are_worths) (h_places_of : CA P w K mg B 2 s_places_of "places_of" P_places_of dv_places_of dd_places_of F_places_of) (h_built_of : CA P w K mg B 3 s_built_of "built_of" P_built_of dv_built_of dd_built_of F_built_of) (h_is_first : CA P w K mg B 2 s_is_first "is_first" P_is_first dv_is_first dd_is_first F_is_first) (h_is_broken_at : CA P w K mg B 4 s_is_broken_at "is_broken_at" P_is_broken_at dv_is_broken_at dd_is_broken_at F_is_broken_at) (h_share_of : CA P w K mg B 1 s_share_of "share_of" P_share_of dv_share_of dd_share_of F_share_of) : CA P w K mg B 5 s_is_product_paper "is_product_paper" P_is_product_paper dv_is_product_paper dd_is_product_paper F_is_product_paper :=
  mkCA h0 sc_is_product_paper (by intro G; repeat (first | exact .nil | refine .cons (by first | exact .int _ | exact .bl _ | exact .non | exact .str _) ?_)) fun f fd cd A ou s H hg hr =>
    have nd := sc_is_product_paper.nd
    (db_cons (ds_expr (de_cA h_want_row hg (hr.mono (by decide)) rfl (da_cons (de_v 0) da_nil)))
    (db_cons (ds_if (dt_not (dt_val (de_cA h_is_worded hg (hr.mono (by decide)) rfl (da_cons (de_v 1) da_nil)))) (db_one (ds_ret de_bl)) db_nil)
    (db_cons (ds_if (dt_cmp (op_eqP hr.units) s_eq (de_ix (de_v 1) de_int) (T.c_WORTHS.elim fun t ht => de_glob (v := .str "worths") rfl ht ⟨_, rfl⟩ fun _ => .str _) (nomark _)) (db_one (ds_ret (de_and (de_cA h_are_worths hg (hr.mono (by decide)) rfl (da_cons (de_fz (de_cA h_places_of hg (hr.mono (by decide)) rfl (da_cons (de_b call_len cs_len rfl T.n_len PySem.boot_len (da_cons (de_v 0) da_nil)) da_nil))) (da_cons (de_ix (de_v 1) de_int) da_nil))) (de_one (de_cmp (op_eqP hr.units) s_eq (de_cA h_built_of hg (hr.mono (by decide)) rfl (da_cons (de_b call_len cs_len rfl T.n_len PySem.boot_len (da_cons (de_v 0) da_nil)) (da_cons (de_ix (de_v 1) de_int) da_nil))) (de_ty call_list_of cs_list rfl T.n_list PyProof.Rows.boot_list (da_cons (de_v 0) da_nil)) (nomark _)))))) db_nil)
    (db_cons (ds_if (dt_cmp (op_eqP hr.units) s_eq (de_ix (de_v 1) de_int) (T.c_FIRST.elim fun t ht => de_glob (v := .str "first") rfl ht ⟨_, rfl⟩ fun _ => .str _) (nomark _)) (db_one (ds_ret (de_cA h_is_first hg (hr.mono (by decide)) rfl (da_cons (de_v 0) (da_cons (de_ix (de_v 1) de_int) da_nil))))) db_nil)
    (db_one (ds_ret (de_and (de_cmp (op_eqP hr.units) s_eq (de_ix (de_v 1) de_int) (T.c_BREAK.elim fun t ht => de_glob (v := .str "break") rfl ht ⟨_, rfl⟩ fun _ => .str _) (nomark _)) (de_and (de_cA h_is_broken_at hg (hr.mono (by decide)) rfl (da_cons (de_v 0) (da_cons (de_ix (de_v 1) de_int) da_nil))) (de_one (de_cmp (op_eqP hr.units) s_eq (de_cA h_share_of hg (hr.mono (by decide)) rfl (da_cons (de_ix (de_ix (de_v 1) de_int) de_int) (da_cons (de_ix (de_ix (de_v 1) de_int) de_int) da_nil))) de_int (nomark _)))))))))))
/-! all_breaks -/
abbrev s_all_breaks : Stmt := topS 45
abbrev N_all_breaks : List Str := ["row"]
abbrev P_all_breaks : List Str := ["row"]
theorem sc_all_breaks : FnScope N_all_breaks P_all_breaks (defScope s_all_breaks) := ⟨rfl, rfl, rfl, by decide +kernel, rfl, by decide +kernel, by decide +kernel⟩
def den_all_breaks : DSt :=
    (sSeq (sExpr (eCallA F_want_row [] [(eV 0)]))
    (sRet (eCallA F_breaks_of [] [(eV 0)])))
def F_all_breaks : List D → Option RV := mkA 1 1 den_all_breaks
abbrev dd_all_breaks : List D := []
abbrev dv_all_breaks : List V := []
theorem ok_all_breaks {P : Program} {w : World} {K : PySem.W.Frag} {mg : Str → Option Value} {B : Heap} (T : Tp K mg) (h0 : D0 K mg s_all_breaks "all_breaks" dv_all_breaks) (h_want_row : CA P w K mg B 3 s_want_row "want_row" P_want_row dv_want_row dd_want_row F_want_row) (h_breaks_of : CA P w K mg B 3 s_breaks_of "breaks_of" P_breaks_of dv_breaks_of dd_breaks_of F_breaks_of) : CA P w K mg B 4 s_all_breaks "all_breaks" P_all_breaks dv_all_breaks dd_all_breaks F_all_breaks :=
  mkCA h0 sc_all_breaks (by intro G; repeat (first | exact .nil | refine .cons (by first | exact .int _ | exact .bl _ | exact .non | exact .str _) ?_)) fun f fd cd A ou s H hg hr =>
    have nd := sc_all_breaks.nd
    (db_cons (ds_expr (de_cA h_want_row hg (hr.mono (by decide)) rfl (da_cons (de_v 0) da_nil)))
    (db_one (ds_ret (de_cA h_breaks_of hg (hr.mono (by decide)) rfl (da_cons (de_v 0) da_nil)))))
/-! first_break -/
abbrev s_first_break : Stmt := topS 46
abbrev N_first_break : List Str := ["row"]
abbrev P_first_break : List Str := ["row"]
theorem sc_first_break : FnScope N_first_break P_first_break (defScope s_first_break) := ⟨rfl, rfl, rfl, by decide +kernel, rfl, by decide +kernel, by decide +kernel⟩
def den_first_break : DSt :=
    (sSeq (sExpr (eCallA F_want_row [] [(eV 0)]))
    (sRet (eCallA F_least_of [] [(eFz (eCallA F_breaks_of [] [(eV 0)]))])))
def F_first_break : List D → Option RV := mkA 1 1 den_first_break
abbrev dd_first_break : List D := []
abbrev dv_first_break : List V := []
theorem ok_first_break {P : Program} {w : World} {K : PySem.W.Frag} {mg : Str → Option Value} {B : Heap} (T : Tp K mg) (h0 : D0 K mg s_first_break "first_break" dv_first_break) (h_want_row : CA P w K mg B 3 s_want_row "want_row" P_want_row dv_want_row dd_want_row F_want_row) (h_least_of : CA P w K mg B 1 s_least_of "least_of" P_least_of dv_least_of dd_least_of F_least_of) (h_breaks_of : CA P w K mg B 3 s_breaks_of "breaks_of" P_breaks_of dv_breaks_of dd_breaks_of F_breaks_of) : CA P w K mg B 4 s_first_break "first_break" P_first_break dv_first_break dd_first_break F_first_break :=
  mkCA h0 sc_first_break (by intro G; repeat (first | exact .nil | refine .cons (by first | exact .int _ | exact .bl _ | exact .non | exact .str _) ?_)) fun f fd cd A ou s H hg hr =>
    have nd := sc_first_break.nd
    (db_cons (ds_expr (de_cA h_want_row hg (hr.mono (by decide)) rfl (da_cons (de_v 0) da_nil)))
    (db_one (ds_ret (de_cA h_least_of hg (hr.mono (by decide)) rfl (da_cons (de_fz (de_cA h_breaks_of hg (hr.mono (by decide)) rfl (da_cons (de_v 0) da_nil))) da_nil)))))
/-! _law_pot -/
abbrev s_law_pot : Stmt := topS 48
abbrev N_law_pot : List Str := ["script", "k", "cell"]
abbrev P_law_pot : List Str := ["script", "k"]
theorem sc_law_pot : FnScope N_law_pot P_law_pot (defScope s_law_pot) := ⟨rfl, rfl, rfl, by decide +kernel, rfl, by decide +kernel, by decide +kernel⟩
def den_law_pot : DSt :=
    (sSeq (sSet 2 (eIf (eT (eBin oLt (eV 1) (eB oLen [(eV 0)]))) (eB oAbs [(eBin oIx (eV 0) (eV 1))]) (eBin oAdd (eBin oMul (eC (.int 4657)) (eV 1)) (eC (.int 3931)))))
    (sRet (eLst [(eB oMax [(eC (.int 0)), (eBin oSub (eV 2) (eBin oPow (eC (.int 10)) (eC (.int 18))))]), (eBin oAdd (eBin oMod (eB oInt [(eBin oAdd (eBin oAdd (eBin oMul (eBin oMod (eB oInt [(eV 2)]) (eC (.int 2147483549))) (eC (.int 40014))) (eBin oMul (eC (.int 41299)) (eV 1))) (eC (.int 3251)))]) (eC (.int 2147483563))) (eC (.int 1)))])))
def F_law_pot : List D → Option RV := mkA 2 3 den_law_pot
abbrev dd_law_pot : List D := []
abbrev dv_law_pot : List V := []
theorem ok_law_pot {P : Program} {w : World} {K : PySem.W.Frag} {mg : Str → Option Value} {B : Heap} (T : Tp K mg) (h0 : D0 K mg s_law_pot "_law_pot" dv_law_pot) : CA P w K mg B 1 s_law_pot "_law_pot" P_law_pot dv_law_pot dd_law_pot F_law_pot :=
  mkCA h0 sc_law_pot (by intro G; repeat (first | exact .nil | refine .cons (by first | exact .int _ | exact .bl _ | exact .non | exact .str _) ?_)) fun f fd cd A ou s H hg hr =>
    have nd := sc_law_pot.nd
    (db_cons (ds_set (i := 2) nd rfl (.inl rfl) (de_if (dt_cmp op_lt s_lt (de_v 1) (de_b call_len cs_len rfl T.n_len PySem.boot_len (da_cons (de_v 0) da_nil)) (nomark _)) (de_b call_abs cs_abs rfl T.n_abs PyProof.Rows.boot_abs (da_cons (de_ix (de_v 0) (de_v 1)) da_nil)) (de_bin op_addA s_add (de_bin op_mulAll s_mul de_int (de_v 1)) de_int)))
    (db_one (ds_ret (de_lst (da_cons (de_b (CallR.either (call_max2 rfl) (cr_max rfl)) cs_max rfl T.n_max PyProof.Rows.boot_max (da_cons de_int (da_cons (de_bin op_sub s_sub (de_v 2) (de_bin op_pow s_pow de_int de_int)) da_nil))) (da_cons (de_bin op_addA s_add (de_bin op_modN s_mod (de_ty call_int1 cs_int rfl T.n_int PyProof.Rows.boot_int (da_cons (de_bin op_addA s_add (de_bin op_addA s_add (de_bin op_mulAll s_mul (de_bin op_modN s_mod (de_ty call_int1 cs_int rfl T.n_int PyProof.Rows.boot_int (da_cons (de_v 2) da_nil)) de_int) de_int) (de_bin op_mulAll s_mul de_int (de_v 1))) de_int) da_nil)) de_int) de_int) da_nil))))))
/-! _law_draw -/
abbrev s_law_draw : Stmt := topS 49
abbrev N_law_draw : List Str := ["pot", "many", "digit"]
abbrev P_law_draw : List Str := ["pot", "many"]
theorem sc_law_draw : FnScope N_law_draw P_law_draw (defScope s_law_draw) := ⟨rfl, rfl, rfl, by decide +kernel, rfl, by decide +kernel, by decide +kernel⟩
def den_law_draw : DSt :=
    (sSeq (sIf (eT (eBin oGt (eBin oIx (eV 0) (eC (.int 0))) (eC (.int 0)))) (sSeq (sUnpS 0 (eC (.int 0)) 2 (eB oDivmod [(eBin oIx (eV 0) (eC (.int 0))), (eV 1)]))
    (sRet (eV 2))) sNext)
    (sSeq (sStore 0 (eC (.int 1)) (eBin oMod (eB oInt [(eBin oAdd (eBin oMul (eBin oIx (eV 0) (eC (.int 1))) (eC (.int 40487))) (eC (.int 12757)))]) (eC (.int 2147483563))))
    (sRet (eBin oMod (eB oInt [(eBin oFdiv (eBin oMod (eB oInt [(eBin oMul (eBin oIx (eV 0) (eC (.int 1))) (eBin oIx (eV 0) (eC (.int 1))))]) (eC (.int 2147483549))) (eC (.int 19)))]) (eV 1)))))
def F_law_draw : List D → List D → Option (RV × List D) := mkB 2 3 den_law_draw
abbrev dd_law_draw : List D := []
abbrev dv_law_draw : List V := []
theorem ok_law_draw {P : Program} {w : World} {K : PySem.W.Frag} {mg : Str → Option Value} {B : Heap} (T : Tp K mg) (h0 : D0 K mg s_law_draw "_law_draw" dv_law_draw) : CB P w K mg B 1 s_law_draw "_law_draw" P_law_draw dv_law_draw dd_law_draw F_law_draw :=
  mkCB h0 sc_law_draw (by intro G; repeat (first | exact .nil | refine .cons (by first | exact .int _ | exact .bl _ | exact .non | exact .str _) ?_)) fun f fd cd A ou s H hg hr =>
    have nd := sc_law_draw.nd
    (db_cons (ds_if (dt_cmp op_gt s_gt (de_ix (de_v 0) de_int) de_int (nomark _)) (db_cons (ds_unpS rfl (pg_sub (pv 0) de_int set_list) (pg_name (i := 2) nd rfl (.inl rfl)) (de_b call_divmodW cs_divmod rfl T.n_divmod PyProof.Rows.boot_divmod (da_cons (de_ix (de_v 0) de_int) (da_cons (de_v 1) da_nil))))
    (db_one (ds_ret (de_v 2)))) db_nil)
    (db_cons (ds_store (pg_sub (pv 0) de_int set_list) (de_bin op_modN s_mod (de_ty call_int1 cs_int rfl T.n_int PyProof.Rows.boot_int (da_cons (de_bin op_addA s_add (de_bin op_mulAll s_mul (de_ix (de_v 0) de_int) de_int) de_int) da_nil)) de_int))
    (db_one (ds_ret (de_bin op_modN s_mod (de_ty call_int1 cs_int rfl T.n_int PyProof.Rows.boot_int (da_cons (de_bin op_fdivA s_fdiv (de_bin op_modN s_mod (de_ty call_int1 cs_int rfl T.n_int PyProof.Rows.boot_int (da_cons (de_bin op_mulAll s_mul (de_ix (de_v 0) de_int) (de_ix (de_v 0) de_int)) da_nil)) de_int) de_int) da_nil)) (de_v 1))))))
/-! _law_pick -/
abbrev s_law_pick : Stmt := topS 50
abbrev N_law_pick : List Str := ["pot", "some"]
abbrev P_law_pick : List Str := ["pot", "some"]
theorem sc_law_pick : FnScope N_law_pick P_law_pick (defScope s_law_pick) := ⟨rfl, rfl, rfl, by decide +kernel, rfl, by decide +kernel, by decide +kernel⟩
def den_law_pick : DSt :=
    (sRet (eBin oIx (eV 1) (eCallB F_law_draw [(eV 0), (eB oLen [(eV 1)])])))
def F_law_pick : List D → List D → Option (RV × List D) := mkB 2 2 den_law_pick
abbrev dd_law_pick : List D := []
abbrev dv_law_pick : List V := []
theorem ok_law_pick {P : Program} {w : World} {K : PySem.W.Frag} {mg : Str → Option Value} {B : Heap} (T : Tp K mg) (h0 : D0 K mg s_law_pick "_law_pick" dv_law_pick) (h_law_draw : CB P w K mg B 1 s_law_draw "_law_draw" P_law_draw dv_law_draw dd_law_draw F_law_draw) : CB P w K mg B 2 s_law_pick "_law_pick" P_law_pick dv_law_pick dd_law_pick F_law_pick :=
  mkCB h0 sc_law_pick (by intro G; repeat (first | exact .nil | refine .cons (by first | exact .int _ | exact .bl _ | exact .non | exact .str _) ?_)) fun f fd cd A ou s H hg hr =>
    have nd := sc_law_pick.nd
    (db_one (ds_ret (de_ix (de_v 1) (de_cB h_law_draw hg (hr.mono (by decide)) rfl (da_cons (de_v 0) (da_cons (de_b call_len cs_len rfl T.n_len PySem.boot_len (da_cons (de_v 1) da_nil)) da_nil))))))
/-! _law_share -/
abbrev s_law_share : Stmt := topS 51
abbrev N_law_share : List Str := ["one", "late"]
abbrev P_law_share : List Str := ["one", "late"]
theorem sc_law_share : FnScope N_law_share P_law_share (defScope s_law_share) := ⟨rfl, rfl, rfl, by decide +kernel, rfl, by decide +kernel, by decide +kernel⟩
def wt0_law_share : DTx :=
    (eT (eBin oGt (eV 1) (eC (.int 0))))
def lp0_law_share : DSt :=
    (sPar 0 1 [(eV 1), (eBin oMod (eB oInt [(eV 0)]) (eV 1))])
def den_law_share : DSt :=
    (sSeq (sWhile wt0_law_share lp0_law_share)
    (sRet (eV 0)))
def F_law_share : List D → Option RV := mkA 2 2 den_law_share
abbrev dd_law_share : List D := []
abbrev dv_law_share : List V := []
theorem ok_law_share {P : Program} {w : World} {K : PySem.W.Frag} {mg : Str → Option Value} {B : Heap} (T : Tp K mg) (h0 : D0 K mg s_law_share "_law_share" dv_law_share) : CA P w K mg B 1 s_law_share "_law_share" P_law_share dv_law_share dd_law_share F_law_share :=
  mkCA h0 sc_law_share (by intro G; repeat (first | exact .nil | refine .cons (by first | exact .int _ | exact .bl _ | exact .non | exact .str _) ?_)) fun f fd cd A ou s H hg hr =>
    have nd := sc_law_share.nd
    (db_cons (ds_while PassesOwn.never (dt_cmp op_gt s_gt (de_v 1) de_int (nomark _)) (db_one (ds_par (i := 0) (j := 1) rfl nd rfl rfl (by decide) rfl rfl (da_cons (de_v 1) (da_cons (de_bin op_modN s_mod (de_ty call_int1 cs_int rfl T.n_int PyProof.Rows.boot_int (da_cons (de_v 0) da_nil)) (de_v 1)) da_nil)))))
    (db_one (ds_ret (de_v 0))))
/-! _law_primes -/
abbrev s_law_primes : Stmt := topS 52
abbrev N_law_primes : List Str := ["number", "found", "left", "one"]
abbrev P_law_primes : List Str := ["number"]
theorem sc_law_primes : FnScope N_law_primes P_law_primes (defScope s_law_primes) := ⟨rfl, rfl, rfl, by decide +kernel, rfl, by decide +kernel, by decide +kernel⟩
def wt0_law_primes : DTx :=
    (eT (eBin oLe (eBin oMul (eV 3) (eV 3)) (eV 2)))
def lp0_law_primes : DSt :=
    (sIf (eT (eBin oEq (eBin oMod (eB oInt [(eV 2)]) (eV 3)) (eC (.int 0)))) (sPar 1 2 [(eFz (eBin oAdd (eV 1) (eLst [(eV 3)]))), (eBin oFdiv (eV 2) (eV 3))]) (sSet 3 (eBin oAdd (eV 3) (eC (.int 1)))))
def den_law_primes : DSt :=
    (sSeq (sPar3 1 2 3 [(eFz (eLst [])), (eV 0), (eC (.int 2))])
    (sSeq (sWhile wt0_law_primes lp0_law_primes)
    (sRet (eBin oAdd (eV 1) (eIf (eT (eBin oGt (eV 2) (eC (.int 1)))) (eLst [(eV 2)]) (eLst []))))))
def F_law_primes : List D → Option RV := mkA 1 4 den_law_primes
abbrev dd_law_primes : List D := []
abbrev dv_law_primes : List V := []
theorem ok_law_primes {P : Program} {w : World} {K : PySem.W.Frag} {mg : Str → Option Value} {B : Heap} (T : Tp K mg) (h0 : D0 K mg s_law_primes "_law_primes" dv_law_primes) : CA P w K mg B 1 s_law_primes "_law_primes" P_law_primes dv_law_primes dd_law_primes F_law_primes :=
  mkCA h0 sc_law_primes (by intro G; repeat (first | exact .nil | refine .cons (by first | exact .int _ | exact .bl _ | exact .non | exact .str _) ?_)) fun f fd cd A ou s H hg hr =>
    have nd := sc_law_primes.nd
    (db_cons (ds_par3 (i := 1) (j := 2) (l := 3) rfl nd rfl rfl rfl (by decide) (by decide) (by decide) rfl rfl rfl (da_cons (de_fz (de_lst da_nil)) (da_cons (de_v 0) (da_cons de_int da_nil))))
    (db_cons (ds_while PassesOwn.never (dt_cmp op_le s_le (de_bin op_mulAll s_mul (de_v 3) (de_v 3)) (de_v 2) (nomark _)) (db_one (ds_if (dt_cmp (op_eqP hr.units) s_eq (de_bin op_modN s_mod (de_ty call_int1 cs_int rfl T.n_int PyProof.Rows.boot_int (da_cons (de_v 2) da_nil)) (de_v 3)) de_int (nomark _)) (db_one (ds_par (i := 1) (j := 2) rfl nd rfl rfl (by decide) rfl rfl (da_cons (de_fz (de_bin op_addA s_add (de_v 1) (de_lst (da_cons (de_v 3) da_nil)))) (da_cons (de_bin op_fdivA s_fdiv (de_v 2) (de_v 3)) da_nil)))) (db_one (ds_set (i := 3) nd rfl (.inl rfl) (de_bin op_addA s_add (de_v 3) de_int))))))
    (db_one (ds_ret (de_bin op_addA s_add (de_v 1) (de_if (dt_cmp op_gt s_gt (de_v 2) de_int (nomark _)) (de_lst (da_cons (de_v 2) da_nil)) (de_lst da_nil)))))))
/-! _law_power -/
abbrev s_law_power : Stmt := topS 54
abbrev N_law_power : List Str := ["one", "many", "found", "turn"]
abbrev P_law_power : List Str := ["one", "many"]
theorem sc_law_power : FnScope N_law_power P_law_power (defScope s_law_power) := ⟨rfl, rfl, rfl, by decide +kernel, rfl, by decide +kernel, by decide +kernel⟩
def lp0_law_power : DSt :=
    (sSet 2 (eBin oMul (eV 2) (eV 0)))
def den_law_power : DSt :=
    (sSeq (sSet 2 (eC (.int 1)))
    (sSeq (sFor (iRange [(eV 1)]) (.nm 3) lp0_law_power)
    (sRet (eV 2))))
def F_law_power : List D → Option RV := mkA 2 4 den_law_power
abbrev dd_law_power : List D := []
abbrev dv_law_power : List V := []
theorem ok_law_power {P : Program} {w : World} {K : PySem.W.Frag} {mg : Str → Option Value} {B : Heap} (T : Tp K mg) (h0 : D0 K mg s_law_power "_law_power" dv_law_power) : CA P w K mg B 1 s_law_power "_law_power" P_law_power dv_law_power dd_law_power F_law_power :=
  mkCA h0 sc_law_power (by intro G; repeat (first | exact .nil | refine .cons (by first | exact .int _ | exact .bl _ | exact .non | exact .str _) ?_)) fun f fd cd A ou s H hg hr =>
    have nd := sc_law_power.nd
    (db_cons (ds_set (i := 2) nd rfl (.inl rfl) de_int)
    (db_cons (ds_for PassesOwn.never rfl (di_range1 rfl T.n_range (da_cons (de_v 1) da_nil)) (dg_name (i := 3) nd rfl (.inl rfl)) (db_one (ds_set (i := 2) nd rfl (.inl rfl) (de_bin op_mulAll s_mul (de_v 2) (de_v 0)))))
    (db_one (ds_ret (de_v 2)))))
/-! _law_parts -/
abbrev s_law_parts : Stmt := topS 53
abbrev N_law_parts : List Str := ["number", "some", "found", "prime"]
abbrev P_law_parts : List Str := ["number"]
theorem sc_law_parts : FnScope N_law_parts P_law_parts (defScope s_law_parts) := ⟨rfl, rfl, rfl, by decide +kernel, rfl, by decide +kernel, by decide +kernel⟩
def lp0_law_parts : DSt :=
    (sExpr (eMth mAppend 2 [(eFz (eCallA F_law_power [] [(eV 3), (eFz (eCount (eV 1) (eV 3)))]))]))
def den_law_parts : DSt :=
    (sSeq (sPar 1 2 [(eFz (eCallA F_law_primes [] [(eV 0)])), (eLst [])])
    (sSeq (sFor (iSeq (eFz (eSSet (eV 1)))) (.nm 3) lp0_law_parts)
    (sRet (eV 2))))
def F_law_parts : List D → Option RV := mkA 1 4 den_law_parts
abbrev dd_law_parts : List D := []
abbrev dv_law_parts : List V := []
theorem ok_law_parts {P : Program} {w : World} {K : PySem.W.Frag} {mg : Str → Option Value} {B : Heap} (T : Tp K mg) (h0 : D0 K mg s_law_parts "_law_parts" dv_law_parts) (h_law_primes : CA P w K mg B 1 s_law_primes "_law_primes" P_law_primes dv_law_primes dd_law_primes F_law_primes) (h_law_power : CA P w K mg B 1 s_law_power "_law_power" P_law_power dv_law_power dd_law_power F_law_power) : CA P w K mg B 2 s_law_parts "_law_parts" P_law_parts dv_law_parts dd_law_parts F_law_parts :=
  mkCA h0 sc_law_parts (by intro G; repeat (first | exact .nil | refine .cons (by first | exact .int _ | exact .bl _ | exact .non | exact .str _) ?_)) fun f fd cd A ou s H hg hr =>
    have nd := sc_law_parts.nd
    (db_cons (ds_par (i := 1) (j := 2) rfl nd rfl rfl (by decide) rfl rfl (da_cons (de_fz (de_cA h_law_primes hg (hr.mono (by decide)) rfl (da_cons (de_v 0) da_nil))) (da_cons (de_lst da_nil) da_nil)))
    (db_cons (ds_for PassesOwn.never rfl (di_seq (de_fz (de_sset rfl rfl T.n_sorted (by rfl) rfl T.n_set (de_v 1)))) (dg_name (i := 3) nd rfl (.inl rfl)) (db_one (ds_expr (de_append (pv 2) (da_cons (de_fz (de_cA h_law_power hg (hr.mono (by decide)) rfl (da_cons (de_v 3) (da_cons (de_fz (de_count (de_v 1) (de_v 3))) da_nil)))) da_nil)))))
    (db_one (ds_ret (de_v 2)))))
/-! _law_places -/
abbrev s_law_places : Stmt := topS 55
abbrev N_law_places : List Str := ["many", "number"]
abbrev P_law_places : List Str := ["many"]
theorem sc_law_places : FnScope N_law_places P_law_places (defScope s_law_places) := ⟨rfl, rfl, rfl, by decide +kernel, rfl, by decide +kernel, by decide +kernel⟩
def ct0_law_places : DTx :=
    (eT (eBin oEq (eB oLen [(eCallA F_law_parts [] [(eV 1)])]) (eC (.int 1))))
def ce0_law_places : DEx :=
    (eV 1)
def den_law_places : DSt :=
    (sRet (eLc (iRange [(eC (.int 2)), (eBin oAdd (eV 0) (eC (.int 1)))]) (.nm 1) ct0_law_places ce0_law_places [1]))
def F_law_places : List D → Option RV := mkA 1 2 den_law_places
abbrev dd_law_places : List D := []
abbrev dv_law_places : List V := []
theorem ok_law_places {P : Program} {w : World} {K : PySem.W.Frag} {mg : Str → Option Value} {B : Heap} (T : Tp K mg) (h0 : D0 K mg s_law_places "_law_places" dv_law_places) (h_law_parts : CA P w K mg B 2 s_law_parts "_law_parts" P_law_parts dv_law_parts dd_law_parts F_law_parts) : CA P w K mg B 3 s_law_places "_law_places" P_law_places dv_law_places dd_law_places F_law_places :=
  mkCA h0 sc_law_places (by intro G; repeat (first | exact .nil | refine .cons (by first | exact .int _ | exact .bl _ | exact .non | exact .str _) ?_)) fun f fd cd A ou s H hg hr =>
    have nd := sc_law_places.nd
    (db_one (ds_ret (de_lc (own := [("number", 1)]) rfl nd (di_range2 rfl T.n_range (da_cons de_int (da_cons (de_bin op_addA s_add (de_v 0) de_int) da_nil))) (blkOk_by (N := N_law_places) (sc := (defScope s_law_places)) (by decide +kernel)) (by decide) (fun _ _ _ _ _ => (dg_name (i := 1) nd rfl (.inl rfl))) (fun _ _ _ _ _ => (dts_one (dt_cmp (op_eqP hr.units) s_eq (de_b call_len cs_len rfl T.n_len PySem.boot_len (da_cons (de_cA h_law_parts hg (hr.mono (by decide)) rfl (da_cons (de_v 1) da_nil)) da_nil)) de_int (nomark _)))) (fun _ _ _ _ _ => (de_v 1)))))
/-! _law_built -/
abbrev s_law_built : Stmt := topS 56
abbrev N_law_built : List Str := ["many", "worths", "table", "found", "number", "product", "part"]
abbrev P_law_built : List Str := ["many", "worths"]
theorem sc_law_built : FnScope N_law_built P_law_built (defScope s_law_built) := ⟨rfl, rfl, rfl, by decide +kernel, rfl, by decide +kernel, by decide +kernel⟩
def lp0_law_built : DSt :=
    (sSet 5 (eBin oMul (eV 5) (eDIxA (eV 2) (eV 6))))
def lp1_law_built : DSt :=
    (sSeq (sSet 5 (eC (.int 1)))
    (sSeq (sFor (iSeq (eFz (eCallA F_law_parts [] [(eV 4)]))) (.nm 6) lp0_law_built)
    (sExpr (eMth mAppend 3 [(eV 5)]))))
def den_law_built : DSt :=
    (sSeq (sPar 2 3 [(eFz (eDictOf (eV 1))), (eLst [])])
    (sSeq (sFor (iRange [(eC (.int 1)), (eBin oAdd (eV 0) (eC (.int 1)))]) (.nm 4) lp1_law_built)
    (sRet (eV 3))))
def F_law_built : List D → Option RV := mkA 2 7 den_law_built
abbrev dd_law_built : List D := []
abbrev dv_law_built : List V := []
theorem ok_law_built {P : Program} {w : World} {K : PySem.W.Frag} {mg : Str → Option Value} {B : Heap} (T : Tp K mg) (h0 : D0 K mg s_law_built "_law_built" dv_law_built) (h_law_parts : CA P w K mg B 2 s_law_parts "_law_parts" P_law_parts dv_law_parts dd_law_parts F_law_parts) : CA P w K mg B 3 s_law_built "_law_built" P_law_built dv_law_built dd_law_built F_law_built :=
  mkCA h0 sc_law_built (by intro G; repeat (first | exact .nil | refine .cons (by first | exact .int _ | exact .bl _ | exact .non | exact .str _) ?_)) fun f fd cd A ou s H hg hr =>
    have nd := sc_law_built.nd
    (db_cons (ds_par (i := 2) (j := 3) rfl nd rfl rfl (by decide) rfl rfl (da_cons (de_fz (de_dictOf rfl rfl T.n_dict (by rfl) (de_v 1))) (da_cons (de_lst da_nil) da_nil)))
    (db_cons (ds_for PassesOwn.never rfl (di_range2 rfl T.n_range (da_cons de_int (da_cons (de_bin op_addA s_add (de_v 0) de_int) da_nil))) (dg_name (i := 4) nd rfl (.inl rfl)) (db_cons (ds_set (i := 5) nd rfl (.inl rfl) de_int)
    (db_cons (ds_for PassesOwn.never rfl (di_seq (de_fz (de_cA h_law_parts hg (hr.mono (by decide)) rfl (da_cons (de_v 4) da_nil)))) (dg_name (i := 6) nd rfl (.inl rfl)) (db_one (ds_set (i := 5) nd rfl (.inl rfl) (de_bin op_mulAll s_mul (de_v 5) (de_dixA (un1 hr.units) (de_v 2) (de_v 6))))))
    (db_one (ds_expr (de_append (pv 3) (da_cons (de_v 5) da_nil)))))))
    (db_one (ds_ret (de_v 3)))))
/-! _law_wholly -/
abbrev s_law_wholly : Stmt := topS 57
abbrev N_law_wholly : List Str := ["many", "worths", "table", "found", "number", "product", "prime"]
abbrev P_law_wholly : List Str := ["many", "worths"]
theorem sc_law_wholly : FnScope N_law_wholly P_law_wholly (defScope s_law_wholly) := ⟨rfl, rfl, rfl, by decide +kernel, rfl, by decide +kernel, by decide +kernel⟩
def lp0_law_wholly : DSt :=
    (sSet 5 (eBin oMul (eV 5) (eDIxA (eV 2) (eV 6))))
def lp1_law_wholly : DSt :=
    (sSeq (sSet 5 (eC (.int 1)))
    (sSeq (sFor (iSeq (eFz (eCallA F_law_primes [] [(eV 4)]))) (.nm 6) lp0_law_wholly)
    (sExpr (eMth mAppend 3 [(eV 5)]))))
def den_law_wholly : DSt :=
    (sSeq (sPar 2 3 [(eFz (eDictOf (eV 1))), (eLst [])])
    (sSeq (sFor (iRange [(eC (.int 1)), (eBin oAdd (eV 0) (eC (.int 1)))]) (.nm 4) lp1_law_wholly)
    (sRet (eV 3))))
def F_law_wholly : List D → Option RV := mkA 2 7 den_law_wholly
abbrev dd_law_wholly : List D := []
abbrev dv_law_wholly : List V := []
theorem ok_law_wholly {P : Program} {w : World} {K : PySem.W.Frag} {mg : Str → Option Value} {B : Heap} (T : Tp K mg) (h0 : D0 K mg s_law_wholly "_law_wholly" dv_law_wholly) (h_law_primes : CA P w K mg B 1 s_law_primes "_law_primes" P_law_primes dv_law_primes dd_law_primes F_law_primes) : CA P w K mg B 2 s_law_wholly "_law_wholly" P_law_wholly dv_law_wholly dd_law_wholly F_law_wholly :=
  mkCA h0 sc_law_wholly (by intro G; repeat (first | exact .nil | refine .cons (by first | exact .int _ | exact .bl _ | exact .non | exact .str _) ?_)) fun f fd cd A ou s H hg hr =>
    have nd := sc_law_wholly.nd
    (db_cons (ds_par (i := 2) (j := 3) rfl nd rfl rfl (by decide) rfl rfl (da_cons (de_fz (de_dictOf rfl rfl T.n_dict (by rfl) (de_v 1))) (da_cons (de_lst da_nil) da_nil)))
    (db_cons (ds_for PassesOwn.never rfl (di_range2 rfl T.n_range (da_cons de_int (da_cons (de_bin op_addA s_add (de_v 0) de_int) da_nil))) (dg_name (i := 4) nd rfl (.inl rfl)) (db_cons (ds_set (i := 5) nd rfl (.inl rfl) de_int)
    (db_cons (ds_for PassesOwn.never rfl (di_seq (de_fz (de_cA h_law_primes hg (hr.mono (by decide)) rfl (da_cons (de_v 4) da_nil)))) (dg_name (i := 6) nd rfl (.inl rfl)) (db_one (ds_set (i := 5) nd rfl (.inl rfl) (de_bin op_mulAll s_mul (de_v 5) (de_dixA (un1 hr.units) (de_v 2) (de_v 6))))))
    (db_one (ds_expr (de_append (pv 3) (da_cons (de_v 5) da_nil)))))))
    (db_one (ds_ret (de_v 3)))))
/-! _law_breaks -/
abbrev s_law_breaks : Stmt := topS 58
abbrev N_law_breaks : List Str := ["row", "found", "near", "far"]
abbrev P_law_breaks : List Str := ["row"]
theorem sc_law_breaks : FnScope N_law_breaks P_law_breaks (defScope s_law_breaks) := ⟨rfl, rfl, rfl, by decide +kernel, rfl, by decide +kernel, by decide +kernel⟩
def lp0_law_breaks : DSt :=
    (sIf (tAndD (eT (eBin oEq (eCallA F_law_share [] [(eV 2), (eV 3)]) (eC (.int 1)))) (eT (eBin oNe (eBin oIx (eV 0) (eBin oSub (eBin oMul (eV 2) (eV 3)) (eC (.int 1)))) (eBin oMul (eBin oIx (eV 0) (eBin oSub (eV 2) (eC (.int 1)))) (eBin oIx (eV 0) (eBin oSub (eV 3) (eC (.int 1)))))))) (sExpr (eMth mAppend 1 [(eTup [(eV 2), (eV 3)])])) sNext)
def lp1_law_breaks : DSt :=
    (sFor (iRange [(eBin oAdd (eV 2) (eC (.int 1))), (eBin oAdd (eBin oFdiv (eB oLen [(eV 0)]) (eV 2)) (eC (.int 1)))]) (.nm 3) lp0_law_breaks)
def den_law_breaks : DSt :=
    (sSeq (sSet 1 (eLst []))
    (sSeq (sFor (iRange [(eC (.int 2)), (eBin oAdd (eB oLen [(eV 0)]) (eC (.int 1)))]) (.nm 2) lp1_law_breaks)
    (sRet (eV 1))))
def F_law_breaks : List D → Option RV := mkA 1 4 den_law_breaks
abbrev dd_law_breaks : List D := []
abbrev dv_law_breaks : List V := []
theorem ok_law_breaks {P : Program} {w : World} {K : PySem.W.Frag} {mg : Str → Option Value} {B : Heap} (T : Tp K mg) (h0 : D0 K mg s_law_breaks "_law_breaks" dv_law_breaks) (h_law_share : CA P w K mg B 1 s_law_share "_law_share" P_law_share dv_law_share dd_law_share F_law_share) : CA P w K mg B 2 s_law_breaks "_law_breaks" P_law_breaks dv_law_breaks dd_law_breaks F_law_breaks :=
  mkCA h0 sc_law_breaks (by intro G; repeat (first | exact .nil | refine .cons (by first | exact .int _ | exact .bl _ | exact .non | exact .str _) ?_)) fun f fd cd A ou s H hg hr =>
    have nd := sc_law_breaks.nd
    (db_cons (ds_set (i := 1) nd rfl (.inl rfl) (de_lst da_nil))
    (db_cons (ds_for PassesOwn.never rfl (di_range2 rfl T.n_range (da_cons de_int (da_cons (de_bin op_addA s_add (de_b call_len cs_len rfl T.n_len PySem.boot_len (da_cons (de_v 0) da_nil)) de_int) da_nil))) (dg_name (i := 2) nd rfl (.inl rfl)) (db_one (ds_for PassesOwn.never rfl (di_range2 rfl T.n_range (da_cons (de_bin op_addA s_add (de_v 2) de_int) (da_cons (de_bin op_addA s_add (de_bin op_fdivA s_fdiv (de_b call_len cs_len rfl T.n_len PySem.boot_len (da_cons (de_v 0) da_nil)) (de_v 2)) de_int) da_nil))) (dg_name (i := 3) nd rfl (.inl rfl)) (db_one (ds_if (dt_w (dw_and (dt_cmp (op_eqP hr.units) s_eq (de_cA h_law_share hg (hr.mono (by decide)) rfl (da_cons (de_v 2) (da_cons (de_v 3) da_nil))) de_int (nomark _)) (dw_and1 (dt_cmp (op_neP hr.units) s_ne (de_ix (de_v 0) (de_bin op_sub s_sub (de_bin op_mulAll s_mul (de_v 2) (de_v 3)) de_int)) (de_bin op_mulAll s_mul (de_ix (de_v 0) (de_bin op_sub s_sub (de_v 2) de_int)) (de_ix (de_v 0) (de_bin op_sub s_sub (de_v 3) de_int))) (nomark _))))) (db_one (ds_expr (de_append (pv 1) (da_cons (de_tup (da_cons (de_v 2) (da_cons (de_v 3) da_nil))) da_nil)))) db_nil)))))
    (db_one (ds_ret (de_v 1)))))
/-! _law_drawn_worth -/
abbrev s_law_drawn_worth : Stmt := topS 59
abbrev N_law_drawn_worth : List Str := ["pot"]
abbrev P_law_drawn_worth : List Str := ["pot"]
theorem sc_law_drawn_worth : FnScope N_law_drawn_worth P_law_drawn_worth (defScope s_law_drawn_worth) := ⟨rfl, rfl, rfl, by decide +kernel, rfl, by decide +kernel, by decide +kernel⟩
def den_law_drawn_worth : DSt :=
    (sRet (eCallB F_law_pick [(eV 0), (eFz (eLst [(eC (.int 0)), (eC (.int 1)), (eNeg (eC (.int 1))), (eC (.int 2)), (eC (.int 3)), (eBin oSub (eCallB F_law_draw [(eV 0), (eC (.int 19))]) (eC (.int 9)))]))]))
def F_law_drawn_worth : List D → List D → Option (RV × List D) := mkB 1 1 den_law_drawn_worth
abbrev dd_law_drawn_worth : List D := []
abbrev dv_law_drawn_worth : List V := []
theorem ok_law_drawn_worth {P : Program} {w : World} {K : PySem.W.Frag} {mg : Str → Option Value} {B : Heap} (T : Tp K mg) (h0 : D0 K mg s_law_drawn_worth "_law_drawn_worth" dv_law_drawn_worth) (h_law_pick : CB P w K mg B 2 s_law_pick "_law_pick" P_law_pick dv_law_pick dd_law_pick F_law_pick) (h_law_draw : CB P w K mg B 1 s_law_draw "_law_draw" P_law_draw dv_law_draw dd_law_draw F_law_draw) : CB P w K mg B 3 s_law_drawn_worth "_law_drawn_worth" P_law_drawn_worth dv_law_drawn_worth dd_law_drawn_worth F_law_drawn_worth :=
  mkCB h0 sc_law_drawn_worth (by intro G; repeat (first | exact .nil | refine .cons (by first | exact .int _ | exact .bl _ | exact .non | exact .str _) ?_)) fun f fd cd A ou s H hg hr =>
    have nd := sc_law_drawn_worth.nd
    (db_one (ds_ret (de_cB h_law_pick hg (hr.mono (by decide)) rfl (da_cons (de_v 0) (da_cons (de_fz (de_lst (da_cons de_int (da_cons de_int (da_cons (de_neg de_int) (da_cons de_int (da_cons de_int (da_cons (de_bin op_sub s_sub (de_cB h_law_draw hg (hr.mono (by decide)) rfl (da_cons (de_v 0) (da_cons de_int da_nil))) de_int) da_nil)))))))) da_nil)))))
/-! _law_row -/
abbrev s_law_row : Stmt := topS 60
abbrev N_law_row : List Str := ["pot", "many", "way", "at", "row", "prime", "place"]
abbrev P_law_row : List Str := ["pot", "many"]
theorem sc_law_row : FnScope N_law_row P_law_row (defScope s_law_row) := ⟨rfl, rfl, rfl, by decide +kernel, rfl, by decide +kernel, by decide +kernel⟩
def ce0_law_row : DEx :=
    (eCallB F_law_drawn_worth [(eV 0)])
def ct0_law_row : DTx :=
    (eT (eBin oEq (eCallA F_law_primes [] [(eV 5)]) (eLst [(eV 5)])))
def ce1_law_row : DEx :=
    (eTup [(eV 5), (eFz (eCallB F_law_drawn_worth [(eV 0)]))])
def ce2_law_row : DEx :=
    (eTup [(eV 6), (eFz (eCallB F_law_drawn_worth [(eV 0)]))])
def den_law_row : DSt :=
    (sSeq (sSet 2 (eFz (eCallB F_law_draw [(eV 0), (eC (.int 4))])))
    (sSeq (sIf (eT (eBin oEq (eV 2) (eC (.int 0)))) (sRet (eBin oAdd (eLst [(eFz (eCallB F_law_pick [(eV 0), (eFz (eLst [(eC (.int 1)), (eC (.int 1)), (eC (.int 1)), (eC (.int 2)), (eC (.int 0)), (eNeg (eC (.int 1)))]))]))]) (eLc (iRange [(eBin oSub (eV 1) (eC (.int 1)))]) (.nm 3) yesD ce0_law_row [3]))) sNext)
    (sSeq (sIf (eT (eBin oEq (eV 2) (eC (.int 1)))) (sSet 4 (eFz (eCallA F_law_wholly [] [(eV 1), (eFz (eLc (iRange [(eC (.int 2)), (eBin oAdd (eV 1) (eC (.int 1)))]) (.nm 5) ct0_law_row ce1_law_row [5]))]))) (sSet 4 (eFz (eCallA F_law_built [] [(eV 1), (eFz (eLc (iSeq (eFz (eCallA F_law_places [] [(eV 1)]))) (.nm 6) yesD ce2_law_row [6]))]))))
    (sSeq (sIf (eT (eBin oEq (eCallB F_law_draw [(eV 0), (eC (.int 2))]) (eC (.int 0)))) (sSeq (sSet 3 (eFz (eCallB F_law_draw [(eV 0), (eV 1)])))
    (sSet 4 (eFz (eBin oAdd (eBin oAdd (eSl (eV 4) none (some (eV 3))) (eLst [(eFz (eBin oAdd (eBin oIx (eV 4) (eV 3)) (eCallB F_law_pick [(eV 0), (eFz (eLst [(eC (.int 1)), (eNeg (eC (.int 1))), (eC (.int 2))]))])))])) (eSl (eV 4) (some (eBin oAdd (eV 3) (eC (.int 1)))) none))))) sNext)
    (sRet (eV 4))))))
def F_law_row : List D → List D → Option (RV × List D) := mkB 2 7 den_law_row
abbrev dd_law_row : List D := []
abbrev dv_law_row : List V := []
theorem ok_law_row {P : Program} {w : World} {K : PySem.W.Frag} {mg : Str → Option Value} {B : Heap} (T : Tp K mg) (h0 : D0 K mg s_law_row "_law_row" dv_law_row) (h_law_draw : CB P w K mg B 1 s_law_draw "_law_draw" P_law_draw dv_law_draw dd_law_draw F_law_draw) (h_law_pick : CB P w K mg B 2 s_law_pick "_law_pick" P_law_pick dv_law_pick dd_law_pick F_law_pick) (h_law_drawn_worth : CB P w K mg B 3 s_law_drawn_worth "_law_drawn_worth" P_law_drawn_worth dv_law_drawn_worth dd_law_drawn_worth F_law_drawn_worth) (h_law_wholly : CA P w K mg B 2 s_law_wholly "_law_wholly" P_law_wholly dv_law_wholly dd_law_wholly F_law_wholly) (h_law_primes : CA P w K mg B 1 s_law_primes "_law_primes" P_law_primes dv_law_primes dd_law_primes F_law_primes) (h_law_built : CA P w K mg B 3 s_law_built "_law_built" P_law_built dv_law_built dd_law_built F_law_built) (h_law_places : CA P w K mg B 3 s_law_places "_law_places" P_law_places dv_law_places dd_law_places F_law_places) : CB P w K mg B 4 s_law_row "_law_row" P_law_row dv_law_row dd_law_row F_law_row :=
  mkCB h0 sc_law_row (by intro G; repeat (first | exact .nil | refine .cons (by first | exact .int _ | exact .bl _ | exact .non | exact .str _) ?_)) fun f fd cd A ou s H hg hr =>
    have nd := sc_law_row.nd
    (db_cons (ds_set (i := 2) nd rfl (.inl rfl) (de_fz (de_cB h_law_draw hg (hr.mono (by decide)) rfl (da_cons (de_v 0) (da_cons de_int da_nil)))))
    (db_cons (ds_if (dt_cmp (op_eqP hr.units) s_eq (de_v 2) de_int (nomark _)) (db_one (ds_ret (de_bin op_addA s_add (de_lst (da_cons (de_fz (de_cB h_law_pick hg (hr.mono (by decide)) rfl (da_cons (de_v 0) (da_cons (de_fz (de_lst (da_cons de_int (da_cons de_int (da_cons de_int (da_cons de_int (da_cons de_int (da_cons (de_neg de_int) da_nil)))))))) da_nil)))) da_nil)) (de_lc (own := [("at", 3)]) rfl nd (di_range1 rfl T.n_range (da_cons (de_bin op_sub s_sub (de_v 1) de_int) da_nil)) (blkOk_by (N := N_law_row) (sc := (defScope s_law_row)) (by decide +kernel)) (by decide) (fun _ _ _ _ _ => (dg_name (i := 3) nd rfl (.inl rfl))) (fun _ _ _ _ _ => dts_nil) (fun _ _ _ _ _ => (de_cB h_law_drawn_worth hg (hr.mono (by decide)) rfl (da_cons (de_v 0) da_nil))))))) db_nil)
    (db_cons (ds_if (dt_cmp (op_eqP hr.units) s_eq (de_v 2) de_int (nomark _)) (db_one (ds_set (i := 4) nd rfl (.inl rfl) (de_fz (de_cA h_law_wholly hg (hr.mono (by decide)) rfl (da_cons (de_v 1) (da_cons (de_fz (de_lc (own := [("prime", 5)]) rfl nd (di_range2 rfl T.n_range (da_cons de_int (da_cons (de_bin op_addA s_add (de_v 1) de_int) da_nil))) (blkOk_by (N := N_law_row) (sc := (defScope s_law_row)) (by decide +kernel)) (by decide) (fun _ _ _ _ _ => (dg_name (i := 5) nd rfl (.inl rfl))) (fun _ _ _ _ _ => (dts_one (dt_cmp (op_eqP hr.units) s_eq (de_cA h_law_primes hg (hr.mono (by decide)) rfl (da_cons (de_v 5) da_nil)) (de_lst (da_cons (de_v 5) da_nil)) (nomark _)))) (fun _ _ _ _ _ => (de_tup (da_cons (de_v 5) (da_cons (de_fz (de_cB h_law_drawn_worth hg (hr.mono (by decide)) rfl (da_cons (de_v 0) da_nil))) da_nil)))))) da_nil)))))) (db_one (ds_set (i := 4) nd rfl (.inl rfl) (de_fz (de_cA h_law_built hg (hr.mono (by decide)) rfl (da_cons (de_v 1) (da_cons (de_fz (de_lc (own := [("place", 6)]) rfl nd (di_seq (de_fz (de_cA h_law_places hg (hr.mono (by decide)) rfl (da_cons (de_v 1) da_nil)))) (blkOk_by (N := N_law_row) (sc := (defScope s_law_row)) (by decide +kernel)) (by decide) (fun _ _ _ _ _ => (dg_name (i := 6) nd rfl (.inl rfl))) (fun _ _ _ _ _ => dts_nil) (fun _ _ _ _ _ => (de_tup (da_cons (de_v 6) (da_cons (de_fz (de_cB h_law_drawn_worth hg (hr.mono (by decide)) rfl (da_cons (de_v 0) da_nil))) da_nil)))))) da_nil)))))))
    (db_cons (ds_if (dt_cmp (op_eqP hr.units) s_eq (de_cB h_law_draw hg (hr.mono (by decide)) rfl (da_cons (de_v 0) (da_cons de_int da_nil))) de_int (nomark _)) (db_cons (ds_set (i := 3) nd rfl (.inl rfl) (de_fz (de_cB h_law_draw hg (hr.mono (by decide)) rfl (da_cons (de_v 0) (da_cons (de_v 1) da_nil)))))
    (db_one (ds_set (i := 4) nd rfl (.inl rfl) (de_fz (de_bin op_addA s_add (de_bin op_addA s_add (de_sl (de_v 4) dp_none (dp_some (de_v 3))) (de_lst (da_cons (de_fz (de_bin op_addA s_add (de_ix (de_v 4) (de_v 3)) (de_cB h_law_pick hg (hr.mono (by decide)) rfl (da_cons (de_v 0) (da_cons (de_fz (de_lst (da_cons de_int (da_cons (de_neg de_int) (da_cons de_int da_nil))))) da_nil))))) da_nil))) (de_sl (de_v 4) (dp_some (de_bin op_addA s_add (de_v 3) de_int)) dp_none)))))) db_nil)
    (db_one (ds_ret (de_v 4)))))))
/-! _law_paper -/
abbrev s_law_paper : Stmt := topS 61
abbrev N_law_paper : List Str := ["row", "some", "near", "far", "place"]
abbrev P_law_paper : List Str := ["row"]
theorem sc_law_paper : FnScope N_law_paper P_law_paper (defScope s_law_paper) := ⟨rfl, rfl, rfl, by decide +kernel, rfl, by decide +kernel, by decide +kernel⟩
def ce0_law_paper : DEx :=
    (eTup [(eBin oMul (eV 2) (eV 3)), (eV 2), (eV 3)])
def ce1_law_paper : DEx :=
    (eTup [(eV 4), (eBin oIx (eV 0) (eBin oSub (eV 4) (eC (.int 1))))])
def den_law_paper : DSt :=
    (sSeq (sIf (eT (eBin oNe (eBin oIx (eV 0) (eC (.int 0))) (eC (.int 1)))) (sRet (eTup [(eC (.str "first")), (eBin oIx (eV 0) (eC (.int 0)))])) sNext)
    (sSeq (sSet 1 (eFz (eB (oSortT 3 64) [(eLc (iSeq (eFz (eCallA F_law_breaks [] [(eV 0)]))) (.tp [(.nm 2), (.nm 3)]) yesD ce0_law_paper [2, 3])])))
    (sRet (eIf (eT (eBin oNe (eV 1) (eLst []))) (eTup [(eC (.str "break")), (eFz (eSl (eBin oIx (eV 1) (eC (.int 0))) (some (eC (.int 1))) none))]) (eTup [(eC (.str "worths")), (eB oTuple [(eLc (iSeq (eFz (eCallA F_law_places [] [(eB oLen [(eV 0)])]))) (.nm 4) yesD ce1_law_paper [4])])])))))
def F_law_paper : List D → Option RV := mkA 1 5 den_law_paper
abbrev dd_law_paper : List D := []
abbrev dv_law_paper : List V := []
theorem ok_law_paper {P : Program} {w : World} {K : PySem.W.Frag} {mg : Str → Option Value} {B : Heap} (T : Tp K mg) (h0 : D0 K mg s_law_paper "_law_paper" dv_law_paper) (h_law_breaks : CA P w K mg B 2 s_law_breaks "_law_breaks" P_law_breaks dv_law_breaks dd_law_breaks F_law_breaks) (h_law_places : CA P w K mg B 3 s_law_places "_law_places" P_law_places dv_law_places dd_law_places F_law_places) : CA P w K mg B 4 s_law_paper "_law_paper" P_law_paper dv_law_paper dd_law_paper F_law_paper :=
  mkCA h0 sc_law_paper (by intro G; repeat (first | exact .nil | refine .cons (by first | exact .int _ | exact .bl _ | exact .non | exact .str _) ?_)) fun f fd cd A ou s H hg hr =>
    have nd := sc_law_paper.nd
    (db_cons (ds_if (dt_cmp (op_neP hr.units) s_ne (de_ix (de_v 0) de_int) de_int (nomark _)) (db_one (ds_ret (de_tup (da_cons de_str (da_cons (de_ix (de_v 0) de_int) da_nil))))) db_nil)
    (db_cons (ds_set (i := 1) nd rfl (.inl rfl) (de_fz (de_b (cr_sortT (by decide)) (cs_sortT 3 64) rfl T.n_sorted PyProof.Rows.boot_sorted (da_cons (de_lc (own := [("near", 2), ("far", 3)]) rfl nd (di_seq (de_fz (de_cA h_law_breaks hg (hr.mono (by decide)) rfl (da_cons (de_v 0) da_nil)))) (blkOk_by (N := N_law_paper) (sc := (defScope s_law_paper)) (by decide +kernel)) (by decide) (fun _ _ _ _ _ => (dg_tup rfl (dgs_cons (dg_name (i := 2) nd rfl (.inl rfl)) (dgs_cons (dg_name (i := 3) nd rfl (.inl rfl)) dgs_nil)))) (fun _ _ _ _ _ => dts_nil) (fun _ _ _ _ _ => (de_tup (da_cons (de_bin op_mulAll s_mul (de_v 2) (de_v 3)) (da_cons (de_v 2) (da_cons (de_v 3) da_nil)))))) da_nil))))
    (db_one (ds_ret (de_if (dt_cmp (op_neP hr.units) s_ne (de_v 1) (de_lst da_nil) (nomark _)) (de_tup (da_cons de_str (da_cons (de_fz (de_sl (de_ix (de_v 1) de_int) (dp_some de_int) dp_none)) da_nil))) (de_tup (da_cons de_str (da_cons (de_ty call_tuple_of cs_tuple rfl T.n_tuple PyProof.Rows.boot_tuple (da_cons (de_lc (own := [("place", 4)]) rfl nd (di_seq (de_fz (de_cA h_law_places hg (hr.mono (by decide)) rfl (da_cons (de_b call_len cs_len rfl T.n_len PySem.boot_len (da_cons (de_v 0) da_nil)) da_nil)))) (blkOk_by (N := N_law_paper) (sc := (defScope s_law_paper)) (by decide +kernel)) (by decide) (fun _ _ _ _ _ => (dg_name (i := 4) nd rfl (.inl rfl))) (fun _ _ _ _ _ => dts_nil) (fun _ _ _ _ _ => (de_tup (da_cons (de_v 4) (da_cons (de_ix (de_v 0) (de_bin op_sub s_sub (de_v 4) de_int)) da_nil))))) da_nil)) da_nil))))))))
/-! _law_row_right -/
abbrev s_law_row_right : Stmt := topS 62
abbrev N_law_row_right : List Str := ["pot", "row", "due", "shown", "own", "near", "far", "here", "turn", "some", "at", "one"]
abbrev P_law_row_right : List Str := ["pot", "row"]
theorem sc_law_row_right : FnScope N_law_row_right P_law_row_right (defScope s_law_row_right) := ⟨rfl, rfl, rfl, by decide +kernel, rfl, by decide +kernel, by decide +kernel⟩
def ce0_law_row_right : DEx :=
    (eTup [(eC (.str "break")), (eV 11)])
def ce1_law_row_right : DEx :=
    (eAnd (eCallA F_is_product_paper [] [(eV 1), (eV 11)]) (eBin oNe (eBin oIx (eV 11) (eC (.int 0))) (eBin oIx (eV 2) (eC (.int 0)))))
def ce2_law_row_right : DEx :=
    (eCallK F_is_product_paper (permL .none [1, 0]) [(eV 11), (eV 1)])
def lp0_law_row_right : DSt :=
    (sSeq (sSet 9 (eFz (eCallA F_first_break [] [(eV 7)])))
    (sSeq (sIf (eT (eBin oIsN (eV 9) (eC .none))) sBreak sNext)
    (sSeq (sSet 10 (eBin oMul (eBin oIx (eV 9) (eC (.int 0))) (eBin oIx (eV 9) (eC (.int 1)))))
    (sSet 7 (eFz (eBin oAdd (eBin oAdd (eSl (eV 7) none (some (eBin oSub (eV 10) (eC (.int 1))))) (eLst [(eBin oMul (eBin oIx (eV 7) (eBin oSub (eBin oIx (eV 9) (eC (.int 0))) (eC (.int 1)))) (eBin oIx (eV 7) (eBin oSub (eBin oIx (eV 9) (eC (.int 1))) (eC (.int 1)))))])) (eSl (eV 7) (some (eV 10)) none)))))))
def st0_law_row_right : DSt :=
    (sPar 2 3 [(eFz (eCallA F_law_paper [] [(eV 1)])), (eB oRepr [(eV 1)])])
def st1_law_row_right : DSt :=
    (sIf (tOrD (eT (eBin oNe (eB oRepr [(eLst [(eFz (eCallA F_product_paper [] [(eV 1)])), (eFz (eCallK F_product_paper (permL .none [0]) [(eB oTuple [(eV 1)])]))])]) (eB oRepr [(eLst [(eV 2), (eV 2)])]))) (tOrD (eT (eBin oNotB (eCallA F_is_product_paper [] [(eV 1), (eV 2)]) (eC (.bool true)))) (eT (eBin oNe (eBin oEq (eBin oIx (eV 2) (eC (.int 0))) (eC (.str "worths"))) (eCallA F_is_productive [] [(eV 1)]))))) (sRet (eC (.bool false))) sNext)
def st2_law_row_right : DSt :=
    (sSet 4 (eFz (eBin oAdd (eLst [(eTup [(eC (.str "first")), (eBin oIx (eV 1) (eC (.int 0)))]), (eTup [(eC (.str "worths")), (eB oTuple [(eCallA F_prime_worths [] [(eV 1)])])])]) (eLc (iSeq (eFz (eCallA F_all_breaks [] [(eV 1)]))) (.nm 11) yesD ce0_law_row_right [11]))))
def st3_law_row_right : DSt :=
    (sIf (tOrD (eT (eB oAny [(eLc (iSeq (eV 4)) (.nm 11) yesD ce1_law_row_right [11])])) (tNotD (eT (eB oAny [(eLc (iSeq (eV 4)) (.nm 11) yesD ce2_law_row_right [11])])))) (sRet (eC (.bool false))) sNext)
def st4_law_row_right : DSt :=
    (sIf (eT (eBin oEq (eBin oIx (eV 2) (eC (.int 0))) (eC (.str "break")))) (sSeq (sUnp (.tp [(.nm 5), (.nm 6)]) (eBin oIx (eV 2) (eC (.int 1))))
    (sIf (tOrD (eT (eBin oNe (eCallA F_first_break [] [(eV 1)]) (eBin oIx (eV 2) (eC (.int 1))))) (tOrD (eT (eBin oEq (eCallA F_worth_at [] [(eV 1), (eBin oMul (eV 5) (eV 6))]) (eBin oMul (eCallA F_worth_at [] [(eV 1), (eV 5)]) (eCallA F_worth_at [] [(eV 1), (eV 6)])))) (eT (eBin oNe (eCallA F_productive_to [] [(eV 1)]) (eBin oSub (eBin oMul (eV 5) (eV 6)) (eC (.int 1))))))) (sRet (eC (.bool false))) sNext)) sNext)
def st5_law_row_right : DSt :=
    (sSet 7 (eFz (eBin oAdd (eLst [(eC (.int 1))]) (eB oList [(eSl (eV 1) (some (eC (.int 1))) none)]))))
def st6_law_row_right : DSt :=
    (sFor (iRange [(eB oLen [(eV 1)])]) (.nm 8) lp0_law_row_right)
def st7_law_row_right : DSt :=
    (sRet (eAnd (eBin oIsB (eCallA F_is_productive [] [(eV 7)]) (eC (.bool true))) (eAnd (eBin oEq (eV 7) (eCallA F_productive_part [] [(eV 1)])) (eAnd (eBin oEq (eBin oIx (eCallA F_product_paper [] [(eV 7)]) (eC (.int 0))) (eC (.str "worths"))) (eBin oEq (eB oRepr [(eV 1)]) (eV 3))))))
def den_law_row_right : DSt :=
    (sSeq st0_law_row_right
    (sSeq st1_law_row_right
    (sSeq st2_law_row_right
    (sSeq st3_law_row_right
    (sSeq st4_law_row_right
    (sSeq st5_law_row_right
    (sSeq st6_law_row_right
    st7_law_row_right)))))))
def F_law_row_right : List D → Option RV := mkA 2 12 den_law_row_right
abbrev dd_law_row_right : List D := []
abbrev dv_law_row_right : List V := []
theorem ok_law_row_right {P : Program} {w : World} {K : PySem.W.Frag} {mg : Str → Option Value} {B : Heap} (T : Tp K mg) (h0 : D0 K mg s_law_row_right "_law_row_right" dv_law_row_right) (h_law_paper : CA P w K mg B 4 s_law_paper "_law_paper" P_law_paper dv_law_paper dd_law_paper F_law_paper) (h_product_paper : CA P w K mg B 5 s_product_paper "product_paper" P_product_paper dv_product_paper dd_product_paper F_product_paper) (h_is_product_paper : CA P w K mg B 5 s_is_product_paper "is_product_paper" P_is_product_paper dv_is_product_paper dd_is_product_paper F_is_product_paper) (h_is_productive : CA P w K mg B 5 s_is_productive "is_productive" P_is_productive dv_is_productive dd_is_productive F_is_productive) (h_prime_worths : CA P w K mg B 4 s_prime_worths "prime_worths" P_prime_worths dv_prime_worths dd_prime_worths F_prime_worths) (h_all_breaks : CA P w K mg B 4 s_all_breaks "all_breaks" P_all_breaks dv_all_breaks dd_all_breaks F_all_breaks) (h_first_break : CA P w K mg B 4 s_first_break "first_break" P_first_break dv_first_break dd_first_break F_first_break) (h_worth_at : CA P w K mg B 4 s_worth_at "worth_at" P_worth_at dv_worth_at dd_worth_at F_worth_at) (h_productive_to : CA P w K mg B 4 s_productive_to "productive_to" P_productive_to dv_productive_to dd_productive_to F_productive_to) (h_productive_part : CA P w K mg B 4 s_productive_part "productive_part" P_productive_part dv_productive_part dd_productive_part F_productive_part) : CA P w K mg B 6 s_law_row_right "_law_row_right" P_law_row_right dv_law_row_right dd_law_row_right F_law_row_right :=
  mkCA h0 sc_law_row_right (by intro G; repeat (first | exact .nil | refine .cons (by first | exact .int _ | exact .bl _ | exact .non | exact .str _) ?_)) fun f fd cd A ou s H hg hr =>
    have nd := sc_law_row_right.nd
    (db_cons (ds_parT (i := 2) (j := 3) rfl nd rfl rfl (.inr rfl) (.inl rfl) (da_cons (de_fz (de_cA h_law_paper hg (hr.mono (by decide)) rfl (da_cons (de_v 1) da_nil))) (da_cons (de_b (cr_repr hg (hr.mono (Nat.zero_le _))) cs_repr rfl T.n_repr PyProof.Rows.boot_repr (da_cons (de_v 1) da_nil)) da_nil)))
    (db_cons (ds_if (dt_w (dw_or (dt_cmp (op_neP hr.units) s_ne (de_b (cr_repr hg (hr.mono (Nat.zero_le _))) cs_repr rfl T.n_repr PyProof.Rows.boot_repr (da_cons (de_lst (da_cons (de_fz (de_cA h_product_paper hg (hr.mono (by decide)) rfl (da_cons (de_v 1) da_nil))) (da_cons (de_fz (de_cK0 h_product_paper (ks := ["row"]) (ix := [0]) hg (hr.mono (by decide)) rfl (fun _ _ _ _ _ _ us ws h1 h2 => match us, ws, h1, h2 with | [], [_], _, _ => rfl) (dk_cons (de_ty call_tuple_of cs_tuple rfl T.n_tuple PyProof.Rows.boot_tuple (da_cons (de_v 1) da_nil)) dk_nil))) da_nil))) da_nil)) (de_b (cr_repr hg (hr.mono (Nat.zero_le _))) cs_repr rfl T.n_repr PyProof.Rows.boot_repr (da_cons (de_lst (da_cons (de_v 2) (da_cons (de_v 2) da_nil))) da_nil)) (nomark _)) (dw_or (dt_cmp op_isnot_bl s_notB (de_cA h_is_product_paper hg (hr.mono (by decide)) rfl (da_cons (de_v 1) (da_cons (de_v 2) da_nil))) de_bl (nomark _)) (dw_or1 (dt_cmp (op_neP hr.units) s_ne (de_cmp (op_eqP hr.units) s_eq (de_ix (de_v 2) de_int) de_str (nomark _)) (de_cA h_is_productive hg (hr.mono (by decide)) rfl (da_cons (de_v 1) da_nil)) (nomark _)))))) (db_one (ds_ret de_bl)) db_nil)
    (db_cons (ds_set (i := 4) nd rfl (.inl rfl) (de_fz (de_bin op_addA s_add (de_lst (da_cons (de_tup (da_cons de_str (da_cons (de_ix (de_v 1) de_int) da_nil))) (da_cons (de_tup (da_cons de_str (da_cons (de_ty call_tuple_of cs_tuple rfl T.n_tuple PyProof.Rows.boot_tuple (da_cons (de_cA h_prime_worths hg (hr.mono (by decide)) rfl (da_cons (de_v 1) da_nil)) da_nil)) da_nil))) da_nil))) (de_lc (own := [("one", 11)]) rfl nd (di_seq (de_fz (de_cA h_all_breaks hg (hr.mono (by decide)) rfl (da_cons (de_v 1) da_nil)))) (blkOk_by (N := N_law_row_right) (sc := (defScope s_law_row_right)) (by decide +kernel)) (by decide) (fun _ _ _ _ _ => (dg_name (i := 11) nd rfl (.inl rfl))) (fun _ _ _ _ _ => dts_nil) (fun _ _ _ _ _ => (de_tup (da_cons de_str (da_cons (de_v 11) da_nil))))))))
    (db_cons (ds_if (dt_w (dw_or (dt_val (de_b (cr_any rfl) cs_any rfl T.n_any PyProof.Rows.boot_any (da_cons (de_lc (own := [("one", 11)]) rfl nd (di_seq (de_v 4)) (blkOk_by (N := N_law_row_right) (sc := (defScope s_law_row_right)) (by decide +kernel)) (by decide) (fun _ _ _ _ _ => (dg_name (i := 11) nd rfl (.inl rfl))) (fun _ _ _ _ _ => dts_nil) (fun _ _ _ _ _ => (de_and (de_cA h_is_product_paper hg (hr.mono (by decide)) rfl (da_cons (de_v 1) (da_cons (de_v 11) da_nil))) (de_one (de_cmp (op_neP hr.units) s_ne (de_ix (de_v 11) de_int) (de_ix (de_v 2) de_int) (nomark _)))))) da_nil))) (dw_or1 (dt_not (dt_val (de_b (cr_any rfl) cs_any rfl T.n_any PyProof.Rows.boot_any (da_cons (de_lc (own := [("one", 11)]) rfl nd (di_seq (de_v 4)) (blkOk_by (N := N_law_row_right) (sc := (defScope s_law_row_right)) (by decide +kernel)) (by decide) (fun _ _ _ _ _ => (dg_name (i := 11) nd rfl (.inl rfl))) (fun _ _ _ _ _ => dts_nil) (fun _ _ _ _ _ => (de_cK0 h_is_product_paper (ks := ["value", "row"]) (ix := [1, 0]) hg (hr.mono (by decide)) rfl (fun _ _ _ _ _ _ us ws h1 h2 => match us, ws, h1, h2 with | [], [_, _], _, _ => rfl) (dk_cons (de_v 11) (dk_cons (de_v 1) dk_nil))))) da_nil))))))) (db_one (ds_ret de_bl)) db_nil)
    (db_cons (ds_if (dt_cmp (op_eqP hr.units) s_eq (de_ix (de_v 2) de_int) de_str (nomark _)) (db_cons (ds_unp (de_ix (de_v 2) de_int) (dg_tup rfl (dgs_cons (dg_name (i := 5) nd rfl (.inl rfl)) (dgs_cons (dg_name (i := 6) nd rfl (.inl rfl)) dgs_nil))))
    (db_one (ds_if (dt_w (dw_or (dt_cmp (op_neP hr.units) s_ne (de_cA h_first_break hg (hr.mono (by decide)) rfl (da_cons (de_v 1) da_nil)) (de_ix (de_v 2) de_int) (nomark _)) (dw_or (dt_cmp (op_eqP hr.units) s_eq (de_cA h_worth_at hg (hr.mono (by decide)) rfl (da_cons (de_v 1) (da_cons (de_bin op_mulAll s_mul (de_v 5) (de_v 6)) da_nil))) (de_bin op_mulAll s_mul (de_cA h_worth_at hg (hr.mono (by decide)) rfl (da_cons (de_v 1) (da_cons (de_v 5) da_nil))) (de_cA h_worth_at hg (hr.mono (by decide)) rfl (da_cons (de_v 1) (da_cons (de_v 6) da_nil)))) (nomark _)) (dw_or1 (dt_cmp (op_neP hr.units) s_ne (de_cA h_productive_to hg (hr.mono (by decide)) rfl (da_cons (de_v 1) da_nil)) (de_bin op_sub s_sub (de_bin op_mulAll s_mul (de_v 5) (de_v 6)) de_int) (nomark _)))))) (db_one (ds_ret de_bl)) db_nil))) db_nil)
    (db_cons (ds_set (i := 7) nd rfl (.inl rfl) (de_fz (de_bin op_addA s_add (de_lst (da_cons de_int da_nil)) (de_ty call_list_of cs_list rfl T.n_list PyProof.Rows.boot_list (da_cons (de_sl (de_v 1) (dp_some de_int) dp_none) da_nil)))))
    (db_cons (ds_for PassesOwn.never rfl (di_range1 rfl T.n_range (da_cons (de_b call_len cs_len rfl T.n_len PySem.boot_len (da_cons (de_v 1) da_nil)) da_nil)) (dg_name (i := 8) nd rfl (.inl rfl)) (db_cons (ds_set (i := 9) nd rfl (.inl rfl) (de_fz (de_cA h_first_break hg (hr.mono (by decide)) rfl (da_cons (de_v 7) da_nil))))
    (db_cons (ds_if (dt_cmp op_isN s_isN (de_v 9) de_non (nomark _)) (db_one ds_break) db_nil)
    (db_cons (ds_set (i := 10) nd rfl (.inl rfl) (de_bin op_mulAll s_mul (de_ix (de_v 9) de_int) (de_ix (de_v 9) de_int)))
    (db_one (ds_set (i := 7) nd rfl (.inl rfl) (de_fz (de_bin op_addA s_add (de_bin op_addA s_add (de_sl (de_v 7) dp_none (dp_some (de_bin op_sub s_sub (de_v 10) de_int))) (de_lst (da_cons (de_bin op_mulAll s_mul (de_ix (de_v 7) (de_bin op_sub s_sub (de_ix (de_v 9) de_int) de_int)) (de_ix (de_v 7) (de_bin op_sub s_sub (de_ix (de_v 9) de_int) de_int))) da_nil))) (de_sl (de_v 7) (dp_some (de_v 10)) dp_none)))))))))
    (db_one (ds_ret (de_and (de_cmp op_is_bl s_isB (de_cA h_is_productive hg (hr.mono (by decide)) rfl (da_cons (de_v 7) da_nil)) de_bl (nomark _)) (de_and (de_cmp (op_eqP hr.units) s_eq (de_v 7) (de_cA h_productive_part hg (hr.mono (by decide)) rfl (da_cons (de_v 1) da_nil)) (nomark _)) (de_and (de_cmp (op_eqP hr.units) s_eq (de_ix (de_cA h_product_paper hg (hr.mono (by decide)) rfl (da_cons (de_v 7) da_nil)) de_int) de_str (nomark _)) (de_one (de_cmp (op_eqP hr.units) s_eq (de_b (cr_repr hg (hr.mono (Nat.zero_le _))) cs_repr rfl T.n_repr PyProof.Rows.boot_repr (da_cons (de_v 1) da_nil)) (de_v 3) (nomark _)))))))))))))))
/-! _law_right -/
abbrev s_law_right : Stmt := topS 63
abbrev N_law_right : List Str := ["pot", "most"]
abbrev P_law_right : List Str := ["pot"]
theorem sc_law_right : FnScope N_law_right P_law_right (defScope s_law_right) := ⟨rfl, rfl, rfl, by decide +kernel, rfl, by decide +kernel, by decide +kernel⟩
def ce0_law_right : DEx :=
    (eCallV F_law_row_right [] [(eV 0), (eCallB F_law_row [(eV 0), (eFz (eBin oAdd (eC (.int 1)) (eCallB F_law_draw [(eV 0), (eV 1)])))])])
def den_law_right : DSt :=
    (sRet (eB oAll [(eLc (iSeq (eTup [(eC (.int 60)), (eC (.int 24)), (eC (.int 8))])) (.nm 1) yesD ce0_law_right [1])]))
def F_law_right : List D → List D → Option (RV × List D) := mkB 1 2 den_law_right
abbrev dd_law_right : List D := []
abbrev dv_law_right : List V := []
theorem ok_law_right {P : Program} {w : World} {K : PySem.W.Frag} {mg : Str → Option Value} {B : Heap} (T : Tp K mg) (h0 : D0 K mg s_law_right "_law_right" dv_law_right) (h_law_row_right : CA P w K mg B 6 s_law_row_right "_law_row_right" P_law_row_right dv_law_row_right dd_law_row_right F_law_row_right) (h_law_row : CB P w K mg B 4 s_law_row "_law_row" P_law_row dv_law_row dd_law_row F_law_row) (h_law_draw : CB P w K mg B 1 s_law_draw "_law_draw" P_law_draw dv_law_draw dd_law_draw F_law_draw) : CB P w K mg B 7 s_law_right "_law_right" P_law_right dv_law_right dd_law_right F_law_right :=
  mkCB h0 sc_law_right (by intro G; repeat (first | exact .nil | refine .cons (by first | exact .int _ | exact .bl _ | exact .non | exact .str _) ?_)) fun f fd cd A ou s H hg hr =>
    have nd := sc_law_right.nd
    (db_one (ds_ret (de_b (cr_all rfl) cs_all rfl T.n_all PyProof.Rows.boot_all (da_cons (de_lc (own := [("most", 1)]) rfl nd (di_seq (de_tup (da_cons de_int (da_cons de_int (da_cons de_int da_nil))))) (blkOk_by (N := N_law_right) (sc := (defScope s_law_right)) (by decide +kernel)) (by decide) (fun _ _ _ _ _ => (dg_name (i := 1) nd rfl (.inl rfl))) (fun _ _ _ _ _ => dts_nil) (fun _ _ _ _ _ => (de_cV h_law_row_right hg (hr.mono (by decide)) rfl (da_cons (de_v 0) (da_cons (de_cB h_law_row hg (hr.mono (by decide)) rfl (da_cons (de_v 0) (da_cons (de_fz (de_bin op_addA s_add de_int (de_cB h_law_draw hg (hr.mono (by decide)) rfl (da_cons (de_v 0) (da_cons (de_v 1) da_nil))))) da_nil))) da_nil))))) da_nil))))
/-! law -/
abbrev s_law : Stmt := topS 64
abbrev N_law : List Str := ["script", "k"]
abbrev P_law : List Str := ["script"]
theorem sc_law : FnScope N_law P_law (defScope s_law) := ⟨rfl, rfl, rfl, by decide +kernel, rfl, by decide +kernel, by decide +kernel⟩
def ce0_law : DEx :=
    (eCallB F_law_right [(eCallA F_law_pot [] [(eV 0), (eV 1)])])
def den_law : DSt :=
    (sRet (eB oAll [(eLc (iRange [(eB oMax [(eC (.int 1)), (eB oMin [(eC (.int 3)), (eB oLen [(eV 0)])])])]) (.nm 1) yesD ce0_law [1])]))
def F_law : List D → Option RV := mkA 1 2 den_law
abbrev dd_law : List D := []
abbrev dv_law : List V := []
theorem ok_law {P : Program} {w : World} {K : PySem.W.Frag} {mg : Str → Option Value} {B : Heap} (T : Tp K mg) (h0 : D0 K mg s_law "law" dv_law) (h_law_right : CB P w K mg B 7 s_law_right "_law_right" P_law_right dv_law_right dd_law_right F_law_right) (h_law_pot : CA P w K mg B 1 s_law_pot "_law_pot" P_law_pot dv_law_pot dd_law_pot F_law_pot) : CA P w K mg B 8 s_law "law" P_law dv_law dd_law F_law :=
  mkCA h0 sc_law (by intro G; repeat (first | exact .nil | refine .cons (by first | exact .int _ | exact .bl _ | exact .non | exact .str _) ?_)) fun f fd cd A ou s H hg hr =>
    have nd := sc_law.nd
    (db_one (ds_ret (de_b (cr_all rfl) cs_all rfl T.n_all PyProof.Rows.boot_all (da_cons (de_lc (own := [("k", 1)]) rfl nd (di_range1 rfl T.n_range (da_cons (de_b (CallR.either (call_max2 rfl) (cr_max rfl)) cs_max rfl T.n_max PyProof.Rows.boot_max (da_cons de_int (da_cons (de_b (CallR.either (call_min2 rfl) (cr_min rfl)) cs_min rfl T.n_min PyProof.Rows.boot_min (da_cons de_int (da_cons (de_b call_len cs_len rfl T.n_len PySem.boot_len (da_cons (de_v 0) da_nil)) da_nil))) da_nil))) da_nil)) (blkOk_by (N := N_law) (sc := (defScope s_law)) (by decide +kernel)) (by decide) (fun _ _ _ _ _ => (dg_name (i := 1) nd rfl (.inl rfl))) (fun _ _ _ _ _ => dts_nil) (fun _ _ _ _ _ => (de_cB h_law_right hg (hr.mono (by decide)) rfl (da_cons (de_cA h_law_pot hg (hr.mono (by decide)) rfl (da_cons (de_v 0) (da_cons (de_v 1) da_nil))) da_nil)))) da_nil))))
/-! the top -/
def d_is_integer : He.DefD := ⟨("is_integer", none), "is_integer", "is_integer", defArgs s_is_integer, defBody s_is_integer, defScope s_is_integer, [], []⟩
def d_is_count : He.DefD := ⟨("is_count", none), "is_count", "is_count", defArgs s_is_count, defBody s_is_count, defScope s_is_count, [], []⟩
def d_is_list : He.DefD := ⟨("is_list", none), "is_list", "is_list", defArgs s_is_list, defBody s_is_list, defScope s_is_list, [], []⟩
def d_share_of : He.DefD := ⟨("share_of", none), "share_of", "share_of", defArgs s_share_of, defBody s_share_of, defScope s_share_of, [], []⟩
def d_power_of : He.DefD := ⟨("power_of", none), "power_of", "power_of", defArgs s_power_of, defBody s_power_of, defScope s_power_of, [], []⟩
def d_powers_of : He.DefD := ⟨("powers_of", none), "powers_of", "powers_of", defArgs s_powers_of, defBody s_powers_of, defScope s_powers_of, [], []⟩
def d_is_row_value : He.DefD := ⟨("is_row_value", none), "is_row_value", "is_row_value", defArgs s_is_row_value, defBody s_is_row_value, defScope s_is_row_value, [], []⟩
def d_want_row : He.DefD := ⟨("want_row", none), "want_row", "want_row", defArgs s_want_row, defBody s_want_row, defScope s_want_row, [], []⟩
def d_worth_at : He.DefD := ⟨("worth_at", none), "worth_at", "worth_at", defArgs s_worth_at, defBody s_worth_at, defScope s_worth_at, [], []⟩
def d_are_worths : He.DefD := ⟨("are_worths", none), "are_worths", "are_worths", defArgs s_are_worths, defBody s_are_worths, defScope s_are_worths, [], []⟩
def d_places_of : He.DefD := ⟨("places_of", none), "places_of", "places_of", defArgs s_places_of, defBody s_places_of, defScope s_places_of, [], []⟩
def d_worths_of : He.DefD := ⟨("worths_of", none), "worths_of", "worths_of", defArgs s_worths_of, defBody s_worths_of, defScope s_worths_of, [], []⟩
def d_worth_by : He.DefD := ⟨("worth_by", none), "worth_by", "worth_by", defArgs s_worth_by, defBody s_worth_by, defScope s_worth_by, [], []⟩
def d_built_of : He.DefD := ⟨("built_of", none), "built_of", "built_of", defArgs s_built_of, defBody s_built_of, defScope s_built_of, [], []⟩
def d_couples_to : He.DefD := ⟨("couples_to", none), "couples_to", "couples_to", defArgs s_couples_to, defBody s_couples_to, defScope s_couples_to, [], []⟩
def d_fails_at : He.DefD := ⟨("fails_at", none), "fails_at", "fails_at", defArgs s_fails_at, defBody s_fails_at, defScope s_fails_at, [], []⟩
def d_whole_breaks_of : He.DefD := ⟨("whole_breaks_of", none), "whole_breaks_of", "whole_breaks_of", defArgs s_whole_breaks_of, defBody s_whole_breaks_of, defScope s_whole_breaks_of, [], []⟩
def d_breaks_of : He.DefD := ⟨("breaks_of", none), "breaks_of", "breaks_of", defArgs s_breaks_of, defBody s_breaks_of, defScope s_breaks_of, [], []⟩
def d_is_productive_row : He.DefD := ⟨("is_productive_row", none), "is_productive_row", "is_productive_row", defArgs s_is_productive_row, defBody s_is_productive_row, defScope s_is_productive_row, [], []⟩
def d_is_productive : He.DefD := ⟨("is_productive", none), "is_productive", "is_productive", defArgs s_is_productive, defBody s_is_productive, defScope s_is_productive, [], []⟩
def d_prime_worths : He.DefD := ⟨("prime_worths", none), "prime_worths", "prime_worths", defArgs s_prime_worths, defBody s_prime_worths, defScope s_prime_worths, [], []⟩
def d_productive_part : He.DefD := ⟨("productive_part", none), "productive_part", "productive_part", defArgs s_productive_part, defBody s_productive_part, defScope s_productive_part, [], []⟩
def d_productive_to : He.DefD := ⟨("productive_to", none), "productive_to", "productive_to", defArgs s_productive_to, defBody s_productive_to, defScope s_productive_to, [], []⟩
def d_least_of : He.DefD := ⟨("least_of", none), "least_of", "least_of", defArgs s_least_of, defBody s_least_of, defScope s_least_of, [], []⟩
def d_product_paper_of : He.DefD := ⟨("product_paper_of", none), "product_paper_of", "product_paper_of", defArgs s_product_paper_of, defBody s_product_paper_of, defScope s_product_paper_of, [], []⟩
def d_is_couple : He.DefD := ⟨("is_couple", none), "is_couple", "is_couple", defArgs s_is_couple, defBody s_is_couple, defScope s_is_couple, [], []⟩
def d_is_first : He.DefD := ⟨("is_first", none), "is_first", "is_first", defArgs s_is_first, defBody s_is_first, defScope s_is_first, [], []⟩
def d_is_worded : He.DefD := ⟨("is_worded", none), "is_worded", "is_worded", defArgs s_is_worded, defBody s_is_worded, defScope s_is_worded, [], []⟩
def d_is_broken_at : He.DefD := ⟨("is_broken_at", none), "is_broken_at", "is_broken_at", defArgs s_is_broken_at, defBody s_is_broken_at, defScope s_is_broken_at, [], []⟩
def d_product_paper : He.DefD := ⟨("product_paper", none), "product_paper", "product_paper", defArgs s_product_paper, defBody s_product_paper, defScope s_product_paper, [], []⟩
def d_is_product_paper : He.DefD := ⟨("is_product_paper", none), "is_product_paper", "is_product_paper", defArgs s_is_product_paper, defBody s_is_product_paper, defScope s_is_product_paper, [], []⟩
def d_all_breaks : He.DefD := ⟨("all_breaks", none), "all_breaks", "all_breaks", defArgs s_all_breaks, defBody s_all_breaks, defScope s_all_breaks, [], []⟩
def d_first_break : He.DefD := ⟨("first_break", none), "first_break", "first_break", defArgs s_first_break, defBody s_first_break, defScope s_first_break, [], []⟩
def d_law_pot : He.DefD := ⟨("_law_pot", none), "_law_pot", "_law_pot", defArgs s_law_pot, defBody s_law_pot, defScope s_law_pot, [], []⟩
def d_law_draw : He.DefD := ⟨("_law_draw", none), "_law_draw", "_law_draw", defArgs s_law_draw, defBody s_law_draw, defScope s_law_draw, [], []⟩
def d_law_pick : He.DefD := ⟨("_law_pick", none), "_law_pick", "_law_pick", defArgs s_law_pick, defBody s_law_pick, defScope s_law_pick, [], []⟩
def d_law_share : He.DefD := ⟨("_law_share", none), "_law_share", "_law_share", defArgs s_law_share, defBody s_law_share, defScope s_law_share, [], []⟩
def d_law_primes : He.DefD := ⟨("_law_primes", none), "_law_primes", "_law_primes", defArgs s_law_primes, defBody s_law_primes, defScope s_law_primes, [], []⟩
def d_law_power : He.DefD := ⟨("_law_power", none), "_law_power", "_law_power", defArgs s_law_power, defBody s_law_power, defScope s_law_power, [], []⟩
def d_law_parts : He.DefD := ⟨("_law_parts", none), "_law_parts", "_law_parts", defArgs s_law_parts, defBody s_law_parts, defScope s_law_parts, [], []⟩
def d_law_places : He.DefD := ⟨("_law_places", none), "_law_places", "_law_places", defArgs s_law_places, defBody s_law_places, defScope s_law_places, [], []⟩
def d_law_built : He.DefD := ⟨("_law_built", none), "_law_built", "_law_built", defArgs s_law_built, defBody s_law_built, defScope s_law_built, [], []⟩
def d_law_wholly : He.DefD := ⟨("_law_wholly", none), "_law_wholly", "_law_wholly", defArgs s_law_wholly, defBody s_law_wholly, defScope s_law_wholly, [], []⟩
def d_law_breaks : He.DefD := ⟨("_law_breaks", none), "_law_breaks", "_law_breaks", defArgs s_law_breaks, defBody s_law_breaks, defScope s_law_breaks, [], []⟩
def d_law_drawn_worth : He.DefD := ⟨("_law_drawn_worth", none), "_law_drawn_worth", "_law_drawn_worth", defArgs s_law_drawn_worth, defBody s_law_drawn_worth, defScope s_law_drawn_worth, [], []⟩
def d_law_row : He.DefD := ⟨("_law_row", none), "_law_row", "_law_row", defArgs s_law_row, defBody s_law_row, defScope s_law_row, [], []⟩
def d_law_paper : He.DefD := ⟨("_law_paper", none), "_law_paper", "_law_paper", defArgs s_law_paper, defBody s_law_paper, defScope s_law_paper, [], []⟩
def d_law_row_right : He.DefD := ⟨("_law_row_right", none), "_law_row_right", "_law_row_right", defArgs s_law_row_right, defBody s_law_row_right, defScope s_law_row_right, [], []⟩
def d_law_right : He.DefD := ⟨("_law_right", none), "_law_right", "_law_right", defArgs s_law_right, defBody s_law_right, defScope s_law_right, [], []⟩
def d_law : He.DefD := ⟨("law", none), "law", "law", defArgs s_law, defBody s_law, defScope s_law, [], []⟩
def fn : List He.DefD := [d_is_integer, d_is_count, d_is_list, d_share_of, d_power_of, d_powers_of, d_is_row_value, d_want_row, d_worth_at, d_are_worths, d_places_of, d_worths_of, d_worth_by, d_built_of, d_couples_to, d_fails_at, d_whole_breaks_of, d_breaks_of, d_is_productive_row, d_is_productive, d_prime_worths, d_productive_part, d_productive_to, d_least_of, d_product_paper_of, d_is_couple, d_is_first, d_is_worded, d_is_broken_at, d_product_paper, d_is_product_paper, d_all_breaks, d_first_break, d_law_pot, d_law_draw, d_law_pick, d_law_share, d_law_primes, d_law_power, d_law_parts, d_law_places, d_law_built, d_law_wholly, d_law_breaks, d_law_drawn_worth, d_law_row, d_law_paper, d_law_row_right, d_law_right, d_law]
def fa : List He.Fa := [.glo "is_integer", .glo "is_count", .glo "is_list", .glo "share_of", .glo "power_of", .glo "powers_of", .glo "is_row_value", .glo "want_row", .glo "worth_at", .glo "are_worths", .glo "places_of", .glo "worths_of", .glo "worth_by", .glo "built_of", .glo "couples_to", .glo "fails_at", .glo "whole_breaks_of", .glo "breaks_of", .glo "is_productive_row", .glo "is_productive", .glo "prime_worths", .glo "productive_part", .glo "productive_to", .glo "least_of", .glo "product_paper_of", .glo "is_couple", .glo "is_first", .glo "is_worded", .glo "is_broken_at", .glo "product_paper", .glo "is_product_paper", .glo "all_breaks", .glo "first_break", .glo "_law_pot", .glo "_law_draw", .glo "_law_pick", .glo "_law_share", .glo "_law_primes", .glo "_law_power", .glo "_law_parts", .glo "_law_places", .glo "_law_built", .glo "_law_wholly", .glo "_law_breaks", .glo "_law_drawn_worth", .glo "_law_row", .glo "_law_paper", .glo "_law_row_right", .glo "_law_right", .glo "law", .free "isinstance", .free "int", .free "bool", .free "tuple", .free "list", .free "abs", .free "range", .free "len", .free "all", .free "dict", .free "min", .free "sorted", .free "str", .free "max", .free "divmod", .free "set", .free "repr", .free "any", .int "MOST_ROW" 60, .int "LONGEST" 1000000000000000000000000000000, .str "FIRST" "first", .str "BREAK" "break", .str "WORTHS" "worths"]
theorem facts {P : Program} {w : World} {K : PySem.W.Frag} {h : Heap} {mg : Str → Option Value} {f : Addr} (X : K.In h) (G : h.Ns mainGlobals mg) (hfa : mg ("law" : Str) = some (.ref f)) (c : He.SaysD fa fn K) :
    ∃ fd : FuncData, (∀ (s : Shared) (v : Value), BindsTo s fd ⟨[v], []⟩ [("script", v)]) ∧ ∀ B : Heap, K.In B → B.Ns mainGlobals mg → FnG P w K mg B 8 f fd ["script"] (spA K F_law) := by
  have T : Tp K mg := {
    n_isinstance := He.free_ok X G (c.fact 50 (f := He.Fa.free "isinstance") rfl)
    n_int := He.free_ok X G (c.fact 51 (f := He.Fa.free "int") rfl)
    n_bool := He.free_ok X G (c.fact 52 (f := He.Fa.free "bool") rfl)
    n_tuple := He.free_ok X G (c.fact 53 (f := He.Fa.free "tuple") rfl)
    n_list := He.free_ok X G (c.fact 54 (f := He.Fa.free "list") rfl)
    n_abs := He.free_ok X G (c.fact 55 (f := He.Fa.free "abs") rfl)
    n_range := He.free_ok X G (c.fact 56 (f := He.Fa.free "range") rfl)
    n_len := He.free_ok X G (c.fact 57 (f := He.Fa.free "len") rfl)
    n_all := He.free_ok X G (c.fact 58 (f := He.Fa.free "all") rfl)
    n_dict := He.free_ok X G (c.fact 59 (f := He.Fa.free "dict") rfl)
    n_min := He.free_ok X G (c.fact 60 (f := He.Fa.free "min") rfl)
    n_sorted := He.free_ok X G (c.fact 61 (f := He.Fa.free "sorted") rfl)
    n_str := He.free_ok X G (c.fact 62 (f := He.Fa.free "str") rfl)
    n_max := He.free_ok X G (c.fact 63 (f := He.Fa.free "max") rfl)
    n_divmod := He.free_ok X G (c.fact 64 (f := He.Fa.free "divmod") rfl)
    n_set := He.free_ok X G (c.fact 65 (f := He.Fa.free "set") rfl)
    n_repr := He.free_ok X G (c.fact 66 (f := He.Fa.free "repr") rfl)
    n_any := He.free_ok X G (c.fact 67 (f := He.Fa.free "any") rfl)
    c_MOST_ROW := He.int_ok X G (c.fact 68 (f := He.Fa.int "MOST_ROW" 60) rfl)
    c_LONGEST := He.int_ok X G (c.fact 69 (f := He.Fa.int "LONGEST" 1000000000000000000000000000000) rfl)
    c_FIRST := He.str_ok X G (c.fact 70 (f := He.Fa.str "FIRST" "first") rfl)
    c_BREAK := He.str_ok X G (c.fact 71 (f := He.Fa.str "BREAK" "break") rfl)
    c_WORTHS := He.str_ok X G (c.fact 72 (f := He.Fa.str "WORTHS" "worths") rfl)
  }
  have e_is_integer : D0 K mg s_is_integer "is_integer" dv_is_integer := by
    obtain ⟨fd, F⟩ := c.def_ 0 (d := d_is_integer) rfl
    exact ⟨_, fd, F, He.glo_ok X G (c.fact 0 (f := He.Fa.glo "is_integer") rfl)⟩
  have e_is_count : D0 K mg s_is_count "is_count" dv_is_count := by
    obtain ⟨fd, F⟩ := c.def_ 1 (d := d_is_count) rfl
    exact ⟨_, fd, F, He.glo_ok X G (c.fact 1 (f := He.Fa.glo "is_count") rfl)⟩
  have e_is_list : D0 K mg s_is_list "is_list" dv_is_list := by
    obtain ⟨fd, F⟩ := c.def_ 2 (d := d_is_list) rfl
    exact ⟨_, fd, F, He.glo_ok X G (c.fact 2 (f := He.Fa.glo "is_list") rfl)⟩
  have e_share_of : D0 K mg s_share_of "share_of" dv_share_of := by
    obtain ⟨fd, F⟩ := c.def_ 3 (d := d_share_of) rfl
    exact ⟨_, fd, F, He.glo_ok X G (c.fact 3 (f := He.Fa.glo "share_of") rfl)⟩
  have e_power_of : D0 K mg s_power_of "power_of" dv_power_of := by
    obtain ⟨fd, F⟩ := c.def_ 4 (d := d_power_of) rfl
    exact ⟨_, fd, F, He.glo_ok X G (c.fact 4 (f := He.Fa.glo "power_of") rfl)⟩
  have e_powers_of : D0 K mg s_powers_of "powers_of" dv_powers_of := by
    obtain ⟨fd, F⟩ := c.def_ 5 (d := d_powers_of) rfl
    exact ⟨_, fd, F, He.glo_ok X G (c.fact 5 (f := He.Fa.glo "powers_of") rfl)⟩
  have e_is_row_value : D0 K mg s_is_row_value "is_row_value" dv_is_row_value := by
    obtain ⟨fd, F⟩ := c.def_ 6 (d := d_is_row_value) rfl
    exact ⟨_, fd, F, He.glo_ok X G (c.fact 6 (f := He.Fa.glo "is_row_value") rfl)⟩
  have e_want_row : D0 K mg s_want_row "want_row" dv_want_row := by
    obtain ⟨fd, F⟩ := c.def_ 7 (d := d_want_row) rfl
    exact ⟨_, fd, F, He.glo_ok X G (c.fact 7 (f := He.Fa.glo "want_row") rfl)⟩
  have e_worth_at : D0 K mg s_worth_at "worth_at" dv_worth_at := by
    obtain ⟨fd, F⟩ := c.def_ 8 (d := d_worth_at) rfl
    exact ⟨_, fd, F, He.glo_ok X G (c.fact 8 (f := He.Fa.glo "worth_at") rfl)⟩
  have e_are_worths : D0 K mg s_are_worths "are_worths" dv_are_worths := by
    obtain ⟨fd, F⟩ := c.def_ 9 (d := d_are_worths) rfl
    exact ⟨_, fd, F, He.glo_ok X G (c.fact 9 (f := He.Fa.glo "are_worths") rfl)⟩
  have e_places_of : D0 K mg s_places_of "places_of" dv_places_of := by
    obtain ⟨fd, F⟩ := c.def_ 10 (d := d_places_of) rfl
    exact ⟨_, fd, F, He.glo_ok X G (c.fact 10 (f := He.Fa.glo "places_of") rfl)⟩
  have e_worths_of : D0 K mg s_worths_of "worths_of" dv_worths_of := by
    obtain ⟨fd, F⟩ := c.def_ 11 (d := d_worths_of) rfl
    exact ⟨_, fd, F, He.glo_ok X G (c.fact 11 (f := He.Fa.glo "worths_of") rfl)⟩
  have e_worth_by : D0 K mg s_worth_by "worth_by" dv_worth_by := by
    obtain ⟨fd, F⟩ := c.def_ 12 (d := d_worth_by) rfl
    exact ⟨_, fd, F, He.glo_ok X G (c.fact 12 (f := He.Fa.glo "worth_by") rfl)⟩
  have e_built_of : D0 K mg s_built_of "built_of" dv_built_of := by
    obtain ⟨fd, F⟩ := c.def_ 13 (d := d_built_of) rfl
    exact ⟨_, fd, F, He.glo_ok X G (c.fact 13 (f := He.Fa.glo "built_of") rfl)⟩
  have e_couples_to : D0 K mg s_couples_to "couples_to" dv_couples_to := by
    obtain ⟨fd, F⟩ := c.def_ 14 (d := d_couples_to) rfl
    exact ⟨_, fd, F, He.glo_ok X G (c.fact 14 (f := He.Fa.glo "couples_to") rfl)⟩
  have e_fails_at : D0 K mg s_fails_at "fails_at" dv_fails_at := by
    obtain ⟨fd, F⟩ := c.def_ 15 (d := d_fails_at) rfl
    exact ⟨_, fd, F, He.glo_ok X G (c.fact 15 (f := He.Fa.glo "fails_at") rfl)⟩
  have e_whole_breaks_of : D0 K mg s_whole_breaks_of "whole_breaks_of" dv_whole_breaks_of := by
    obtain ⟨fd, F⟩ := c.def_ 16 (d := d_whole_breaks_of) rfl
    exact ⟨_, fd, F, He.glo_ok X G (c.fact 16 (f := He.Fa.glo "whole_breaks_of") rfl)⟩
  have e_breaks_of : D0 K mg s_breaks_of "breaks_of" dv_breaks_of := by
    obtain ⟨fd, F⟩ := c.def_ 17 (d := d_breaks_of) rfl
    exact ⟨_, fd, F, He.glo_ok X G (c.fact 17 (f := He.Fa.glo "breaks_of") rfl)⟩
  have e_is_productive_row : D0 K mg s_is_productive_row "is_productive_row" dv_is_productive_row := by
    obtain ⟨fd, F⟩ := c.def_ 18 (d := d_is_productive_row) rfl
    exact ⟨_, fd, F, He.glo_ok X G (c.fact 18 (f := He.Fa.glo "is_productive_row") rfl)⟩
  have e_is_productive : D0 K mg s_is_productive "is_productive" dv_is_productive := by
    obtain ⟨fd, F⟩ := c.def_ 19 (d := d_is_productive) rfl
    exact ⟨_, fd, F, He.glo_ok X G (c.fact 19 (f := He.Fa.glo "is_productive") rfl)⟩
  have e_prime_worths : D0 K mg s_prime_worths "prime_worths" dv_prime_worths := by
    obtain ⟨fd, F⟩ := c.def_ 20 (d := d_prime_worths) rfl
    exact ⟨_, fd, F, He.glo_ok X G (c.fact 20 (f := He.Fa.glo "prime_worths") rfl)⟩
  have e_productive_part : D0 K mg s_productive_part "productive_part" dv_productive_part := by
    obtain ⟨fd, F⟩ := c.def_ 21 (d := d_productive_part) rfl
    exact ⟨_, fd, F, He.glo_ok X G (c.fact 21 (f := He.Fa.glo "productive_part") rfl)⟩
  have e_productive_to : D0 K mg s_productive_to "productive_to" dv_productive_to := by
    obtain ⟨fd, F⟩ := c.def_ 22 (d := d_productive_to) rfl
    exact ⟨_, fd, F, He.glo_ok X G (c.fact 22 (f := He.Fa.glo "productive_to") rfl)⟩
  have e_least_of : D0 K mg s_least_of "least_of" dv_least_of := by
    obtain ⟨fd, F⟩ := c.def_ 23 (d := d_least_of) rfl
    exact ⟨_, fd, F, He.glo_ok X G (c.fact 23 (f := He.Fa.glo "least_of") rfl)⟩
  have e_product_paper_of : D0 K mg s_product_paper_of "product_paper_of" dv_product_paper_of := by
    obtain ⟨fd, F⟩ := c.def_ 24 (d := d_product_paper_of) rfl
    exact ⟨_, fd, F, He.glo_ok X G (c.fact 24 (f := He.Fa.glo "product_paper_of") rfl)⟩
  have e_is_couple : D0 K mg s_is_couple "is_couple" dv_is_couple := by
    obtain ⟨fd, F⟩ := c.def_ 25 (d := d_is_couple) rfl
    exact ⟨_, fd, F, He.glo_ok X G (c.fact 25 (f := He.Fa.glo "is_couple") rfl)⟩
  have e_is_first : D0 K mg s_is_first "is_first" dv_is_first := by
    obtain ⟨fd, F⟩ := c.def_ 26 (d := d_is_first) rfl
    exact ⟨_, fd, F, He.glo_ok X G (c.fact 26 (f := He.Fa.glo "is_first") rfl)⟩
  have e_is_worded : D0 K mg s_is_worded "is_worded" dv_is_worded := by
    obtain ⟨fd, F⟩ := c.def_ 27 (d := d_is_worded) rfl
    exact ⟨_, fd, F, He.glo_ok X G (c.fact 27 (f := He.Fa.glo "is_worded") rfl)⟩
  have e_is_broken_at : D0 K mg s_is_broken_at "is_broken_at" dv_is_broken_at := by
    obtain ⟨fd, F⟩ := c.def_ 28 (d := d_is_broken_at) rfl
    exact ⟨_, fd, F, He.glo_ok X G (c.fact 28 (f := He.Fa.glo "is_broken_at") rfl)⟩
  have e_product_paper : D0 K mg s_product_paper "product_paper" dv_product_paper := by
    obtain ⟨fd, F⟩ := c.def_ 29 (d := d_product_paper) rfl
    exact ⟨_, fd, F, He.glo_ok X G (c.fact 29 (f := He.Fa.glo "product_paper") rfl)⟩
  have e_is_product_paper : D0 K mg s_is_product_paper "is_product_paper" dv_is_product_paper := by
    obtain ⟨fd, F⟩ := c.def_ 30 (d := d_is_product_paper) rfl
    exact ⟨_, fd, F, He.glo_ok X G (c.fact 30 (f := He.Fa.glo "is_product_paper") rfl)⟩
  have e_all_breaks : D0 K mg s_all_breaks "all_breaks" dv_all_breaks := by
    obtain ⟨fd, F⟩ := c.def_ 31 (d := d_all_breaks) rfl
    exact ⟨_, fd, F, He.glo_ok X G (c.fact 31 (f := He.Fa.glo "all_breaks") rfl)⟩
  have e_first_break : D0 K mg s_first_break "first_break" dv_first_break := by
    obtain ⟨fd, F⟩ := c.def_ 32 (d := d_first_break) rfl
    exact ⟨_, fd, F, He.glo_ok X G (c.fact 32 (f := He.Fa.glo "first_break") rfl)⟩
  have e_law_pot : D0 K mg s_law_pot "_law_pot" dv_law_pot := by
    obtain ⟨fd, F⟩ := c.def_ 33 (d := d_law_pot) rfl
    exact ⟨_, fd, F, He.glo_ok X G (c.fact 33 (f := He.Fa.glo "_law_pot") rfl)⟩
  have e_law_draw : D0 K mg s_law_draw "_law_draw" dv_law_draw := by
    obtain ⟨fd, F⟩ := c.def_ 34 (d := d_law_draw) rfl
    exact ⟨_, fd, F, He.glo_ok X G (c.fact 34 (f := He.Fa.glo "_law_draw") rfl)⟩
  have e_law_pick : D0 K mg s_law_pick "_law_pick" dv_law_pick := by
    obtain ⟨fd, F⟩ := c.def_ 35 (d := d_law_pick) rfl
    exact ⟨_, fd, F, He.glo_ok X G (c.fact 35 (f := He.Fa.glo "_law_pick") rfl)⟩
  have e_law_share : D0 K mg s_law_share "_law_share" dv_law_share := by
    obtain ⟨fd, F⟩ := c.def_ 36 (d := d_law_share) rfl
    exact ⟨_, fd, F, He.glo_ok X G (c.fact 36 (f := He.Fa.glo "_law_share") rfl)⟩
  have e_law_primes : D0 K mg s_law_primes "_law_primes" dv_law_primes := by
    obtain ⟨fd, F⟩ := c.def_ 37 (d := d_law_primes) rfl
    exact ⟨_, fd, F, He.glo_ok X G (c.fact 37 (f := He.Fa.glo "_law_primes") rfl)⟩
  have e_law_power : D0 K mg s_law_power "_law_power" dv_law_power := by
    obtain ⟨fd, F⟩ := c.def_ 38 (d := d_law_power) rfl
    exact ⟨_, fd, F, He.glo_ok X G (c.fact 38 (f := He.Fa.glo "_law_power") rfl)⟩
  have e_law_parts : D0 K mg s_law_parts "_law_parts" dv_law_parts := by
    obtain ⟨fd, F⟩ := c.def_ 39 (d := d_law_parts) rfl
    exact ⟨_, fd, F, He.glo_ok X G (c.fact 39 (f := He.Fa.glo "_law_parts") rfl)⟩
  have e_law_places : D0 K mg s_law_places "_law_places" dv_law_places := by
    obtain ⟨fd, F⟩ := c.def_ 40 (d := d_law_places) rfl
    exact ⟨_, fd, F, He.glo_ok X G (c.fact 40 (f := He.Fa.glo "_law_places") rfl)⟩
  have e_law_built : D0 K mg s_law_built "_law_built" dv_law_built := by
    obtain ⟨fd, F⟩ := c.def_ 41 (d := d_law_built) rfl
    exact ⟨_, fd, F, He.glo_ok X G (c.fact 41 (f := He.Fa.glo "_law_built") rfl)⟩
  have e_law_wholly : D0 K mg s_law_wholly "_law_wholly" dv_law_wholly := by
    obtain ⟨fd, F⟩ := c.def_ 42 (d := d_law_wholly) rfl
    exact ⟨_, fd, F, He.glo_ok X G (c.fact 42 (f := He.Fa.glo "_law_wholly") rfl)⟩
  have e_law_breaks : D0 K mg s_law_breaks "_law_breaks" dv_law_breaks := by
    obtain ⟨fd, F⟩ := c.def_ 43 (d := d_law_breaks) rfl
    exact ⟨_, fd, F, He.glo_ok X G (c.fact 43 (f := He.Fa.glo "_law_breaks") rfl)⟩
  have e_law_drawn_worth : D0 K mg s_law_drawn_worth "_law_drawn_worth" dv_law_drawn_worth := by
    obtain ⟨fd, F⟩ := c.def_ 44 (d := d_law_drawn_worth) rfl
    exact ⟨_, fd, F, He.glo_ok X G (c.fact 44 (f := He.Fa.glo "_law_drawn_worth") rfl)⟩
  have e_law_row : D0 K mg s_law_row "_law_row" dv_law_row := by
    obtain ⟨fd, F⟩ := c.def_ 45 (d := d_law_row) rfl
    exact ⟨_, fd, F, He.glo_ok X G (c.fact 45 (f := He.Fa.glo "_law_row") rfl)⟩
  have e_law_paper : D0 K mg s_law_paper "_law_paper" dv_law_paper := by
    obtain ⟨fd, F⟩ := c.def_ 46 (d := d_law_paper) rfl
    exact ⟨_, fd, F, He.glo_ok X G (c.fact 46 (f := He.Fa.glo "_law_paper") rfl)⟩
  have e_law_row_right : D0 K mg s_law_row_right "_law_row_right" dv_law_row_right := by
    obtain ⟨fd, F⟩ := c.def_ 47 (d := d_law_row_right) rfl
    exact ⟨_, fd, F, He.glo_ok X G (c.fact 47 (f := He.Fa.glo "_law_row_right") rfl)⟩
  have e_law_right : D0 K mg s_law_right "_law_right" dv_law_right := by
    obtain ⟨fd, F⟩ := c.def_ 48 (d := d_law_right) rfl
    exact ⟨_, fd, F, He.glo_ok X G (c.fact 48 (f := He.Fa.glo "_law_right") rfl)⟩
  have e_law : D0 K mg s_law "law" dv_law := by
    obtain ⟨fd, F⟩ := c.def_ 49 (d := d_law) rfl
    exact ⟨_, fd, F, He.glo_ok X G (c.fact 49 (f := He.Fa.glo "law") rfl)⟩
  obtain ⟨f0, fd, F, hf0⟩ := id e_law
  have hf : f0 = f := by
    have := hf0.symm.trans hfa
    cases this
    rfl
  subst hf
  refine ⟨fd, fun s v => F.bindsA (ps := ["script"]) (fun _ _ _ _ _ _ us hl => match us, hl with | [_], _ => rfl) s [v] rfl, fun B _ _ => ?_⟩
  have k_is_integer : CA P w K mg B 1 s_is_integer "is_integer" P_is_integer dv_is_integer dd_is_integer F_is_integer := ok_is_integer T e_is_integer
  have k_is_count : CA P w K mg B 2 s_is_count "is_count" P_is_count dv_is_count dd_is_count F_is_count := ok_is_count T e_is_count k_is_integer
  have k_is_list : CA P w K mg B 1 s_is_list "is_list" P_is_list dv_is_list dd_is_list F_is_list := ok_is_list T e_is_list
  have k_share_of : CA P w K mg B 1 s_share_of "share_of" P_share_of dv_share_of dd_share_of F_share_of := ok_share_of T e_share_of
  have k_power_of : CA P w K mg B 1 s_power_of "power_of" P_power_of dv_power_of dd_power_of F_power_of := ok_power_of T e_power_of
  have k_powers_of : CA P w K mg B 1 s_powers_of "powers_of" P_powers_of dv_powers_of dd_powers_of F_powers_of := ok_powers_of T e_powers_of
  have k_is_row_value : CA P w K mg B 2 s_is_row_value "is_row_value" P_is_row_value dv_is_row_value dd_is_row_value F_is_row_value := ok_is_row_value T e_is_row_value k_is_list k_is_integer
  have k_want_row : CA P w K mg B 3 s_want_row "want_row" P_want_row dv_want_row dd_want_row F_want_row := ok_want_row T e_want_row k_is_row_value
  have k_worth_at : CA P w K mg B 4 s_worth_at "worth_at" P_worth_at dv_worth_at dd_worth_at F_worth_at := ok_worth_at T e_worth_at k_want_row k_is_integer
  have k_are_worths : CA P w K mg B 2 s_are_worths "are_worths" P_are_worths dv_are_worths dd_are_worths F_are_worths := ok_are_worths T e_are_worths k_is_list k_is_integer
  have k_places_of : CA P w K mg B 2 s_places_of "places_of" P_places_of dv_places_of dd_places_of F_places_of := ok_places_of T e_places_of k_powers_of
  have k_worths_of : CA P w K mg B 3 s_worths_of "worths_of" P_worths_of dv_worths_of dd_worths_of F_worths_of := ok_worths_of T e_worths_of k_places_of
  have k_worth_by : CA P w K mg B 2 s_worth_by "worth_by" P_worth_by dv_worth_by dd_worth_by F_worth_by := ok_worth_by T e_worth_by k_powers_of k_power_of
  have k_built_of : CA P w K mg B 3 s_built_of "built_of" P_built_of dv_built_of dd_built_of F_built_of := ok_built_of T e_built_of k_worth_by
  have k_couples_to : CA P w K mg B 1 s_couples_to "couples_to" P_couples_to dv_couples_to dd_couples_to F_couples_to := ok_couples_to T e_couples_to
  have k_fails_at : CA P w K mg B 1 s_fails_at "fails_at" P_fails_at dv_fails_at dd_fails_at F_fails_at := ok_fails_at T e_fails_at
  have k_whole_breaks_of : CA P w K mg B 2 s_whole_breaks_of "whole_breaks_of" P_whole_breaks_of dv_whole_breaks_of dd_whole_breaks_of F_whole_breaks_of := ok_whole_breaks_of T e_whole_breaks_of k_couples_to k_fails_at
  have k_breaks_of : CA P w K mg B 3 s_breaks_of "breaks_of" P_breaks_of dv_breaks_of dd_breaks_of F_breaks_of := ok_breaks_of T e_breaks_of k_whole_breaks_of k_share_of
  have k_is_productive_row : CA P w K mg B 4 s_is_productive_row "is_productive_row" P_is_productive_row dv_is_productive_row dd_is_productive_row F_is_productive_row := ok_is_productive_row T e_is_productive_row k_breaks_of
  have k_is_productive : CA P w K mg B 5 s_is_productive "is_productive" P_is_productive dv_is_productive dd_is_productive F_is_productive := ok_is_productive T e_is_productive k_want_row k_is_productive_row
  have k_prime_worths : CA P w K mg B 4 s_prime_worths "prime_worths" P_prime_worths dv_prime_worths dd_prime_worths F_prime_worths := ok_prime_worths T e_prime_worths k_want_row k_worths_of
  have k_productive_part : CA P w K mg B 4 s_productive_part "productive_part" P_productive_part dv_productive_part dd_productive_part F_productive_part := ok_productive_part T e_productive_part k_want_row k_built_of k_worths_of
  have k_productive_to : CA P w K mg B 4 s_productive_to "productive_to" P_productive_to dv_productive_to dd_productive_to F_productive_to := ok_productive_to T e_productive_to k_want_row k_breaks_of
  have k_least_of : CA P w K mg B 1 s_least_of "least_of" P_least_of dv_least_of dd_least_of F_least_of := ok_least_of T e_least_of
  have k_product_paper_of : CA P w K mg B 4 s_product_paper_of "product_paper_of" P_product_paper_of dv_product_paper_of dd_product_paper_of F_product_paper_of := ok_product_paper_of T e_product_paper_of k_least_of k_breaks_of k_worths_of
  have k_is_couple : CA P w K mg B 3 s_is_couple "is_couple" P_is_couple dv_is_couple dd_is_couple F_is_couple := ok_is_couple T e_is_couple k_is_count
  have k_is_first : CA P w K mg B 2 s_is_first "is_first" P_is_first dv_is_first dd_is_first F_is_first := ok_is_first T e_is_first k_is_integer
  have k_is_worded : CA P w K mg B 1 s_is_worded "is_worded" P_is_worded dv_is_worded dd_is_worded F_is_worded := ok_is_worded T e_is_worded
  have k_is_broken_at : CA P w K mg B 4 s_is_broken_at "is_broken_at" P_is_broken_at dv_is_broken_at dd_is_broken_at F_is_broken_at := ok_is_broken_at T e_is_broken_at k_is_couple k_fails_at
  have k_product_paper : CA P w K mg B 5 s_product_paper "product_paper" P_product_paper dv_product_paper dd_product_paper F_product_paper := ok_product_paper T e_product_paper k_want_row k_product_paper_of
  have k_is_product_paper : CA P w K mg B 5 s_is_product_paper "is_product_paper" P_is_product_paper dv_is_product_paper dd_is_product_paper F_is_product_paper := ok_is_product_paper T e_is_product_paper k_want_row k_is_worded k_are_worths k_places_of k_built_of k_is_first k_is_broken_at k_share_of
  have k_all_breaks : CA P w K mg B 4 s_all_breaks "all_breaks" P_all_breaks dv_all_breaks dd_all_breaks F_all_breaks := ok_all_breaks T e_all_breaks k_want_row k_breaks_of
  have k_first_break : CA P w K mg B 4 s_first_break "first_break" P_first_break dv_first_break dd_first_break F_first_break := ok_first_break T e_first_break k_want_row k_least_of k_breaks_of
  have k_law_pot : CA P w K mg B 1 s_law_pot "_law_pot" P_law_pot dv_law_pot dd_law_pot F_law_pot := ok_law_pot T e_law_pot
  have k_law_draw : CB P w K mg B 1 s_law_draw "_law_draw" P_law_draw dv_law_draw dd_law_draw F_law_draw := ok_law_draw T e_law_draw
  have k_law_pick : CB P w K mg B 2 s_law_pick "_law_pick" P_law_pick dv_law_pick dd_law_pick F_law_pick := ok_law_pick T e_law_pick k_law_draw
  have k_law_share : CA P w K mg B 1 s_law_share "_law_share" P_law_share dv_law_share dd_law_share F_law_share := ok_law_share T e_law_share
  have k_law_primes : CA P w K mg B 1 s_law_primes "_law_primes" P_law_primes dv_law_primes dd_law_primes F_law_primes := ok_law_primes T e_law_primes
  have k_law_power : CA P w K mg B 1 s_law_power "_law_power" P_law_power dv_law_power dd_law_power F_law_power := ok_law_power T e_law_power
  have k_law_parts : CA P w K mg B 2 s_law_parts "_law_parts" P_law_parts dv_law_parts dd_law_parts F_law_parts := ok_law_parts T e_law_parts k_law_primes k_law_power
  have k_law_places : CA P w K mg B 3 s_law_places "_law_places" P_law_places dv_law_places dd_law_places F_law_places := ok_law_places T e_law_places k_law_parts
  have k_law_built : CA P w K mg B 3 s_law_built "_law_built" P_law_built dv_law_built dd_law_built F_law_built := ok_law_built T e_law_built k_law_parts
  have k_law_wholly : CA P w K mg B 2 s_law_wholly "_law_wholly" P_law_wholly dv_law_wholly dd_law_wholly F_law_wholly := ok_law_wholly T e_law_wholly k_law_primes
  have k_law_breaks : CA P w K mg B 2 s_law_breaks "_law_breaks" P_law_breaks dv_law_breaks dd_law_breaks F_law_breaks := ok_law_breaks T e_law_breaks k_law_share
  have k_law_drawn_worth : CB P w K mg B 3 s_law_drawn_worth "_law_drawn_worth" P_law_drawn_worth dv_law_drawn_worth dd_law_drawn_worth F_law_drawn_worth := ok_law_drawn_worth T e_law_drawn_worth k_law_pick k_law_draw
  have k_law_row : CB P w K mg B 4 s_law_row "_law_row" P_law_row dv_law_row dd_law_row F_law_row := ok_law_row T e_law_row k_law_draw k_law_pick k_law_drawn_worth k_law_wholly k_law_primes k_law_built k_law_places
  have k_law_paper : CA P w K mg B 4 s_law_paper "_law_paper" P_law_paper dv_law_paper dd_law_paper F_law_paper := ok_law_paper T e_law_paper k_law_breaks k_law_places
  have k_law_row_right : CA P w K mg B 6 s_law_row_right "_law_row_right" P_law_row_right dv_law_row_right dd_law_row_right F_law_row_right := ok_law_row_right T e_law_row_right k_law_paper k_product_paper k_is_product_paper k_is_productive k_prime_worths k_all_breaks k_first_break k_worth_at k_productive_to k_productive_part
  have k_law_right : CB P w K mg B 7 s_law_right "_law_right" P_law_right dv_law_right dd_law_right F_law_right := ok_law_right T e_law_right k_law_row_right k_law_row k_law_draw
  have k_law : CA P w K mg B 8 s_law "law" P_law dv_law dd_law F_law := ok_law T e_law k_law_right k_law_pot
  obtain ⟨f1, fd1, F1, G1, hm1, _⟩ := k_law
  have z := hm1.symm.trans hf0
  cases z
  rw [F.same F1]
  exact G1
end
end Law
namespace Law
open PySem PySem.Spec PyProof.Rows L2 DL
theorem v_power_of (b k : Nat) (hb : b ≤ 2 ^ 60) (hk : k ≤ 1000000) : F_power_of [.int (b : Int), .int (k : Int)] = some (.fz (.int ((b ^ k : Nat) : Int))) := by
  have hr := x_rng1 (j := (k : Int)) (by omega)
  rw [Int.toNat_natCast, rngD_map] at hr
  obtain ⟨ρ', e, c, hc, rfl⟩ := fN_range (t := .nm 3) (g := lp0_power_of) (enc := fun i : Nat => PyData.int (0 + (i : Int) * 1)) (n := k)
    (ρ := [.v (.int (b : Int)), .v (.int (k : Int)), .v (.int 1), .un])
    (fun s ρ => ∃ c, nl c = true ∧ ρ = [.v (.int (b : Int)), .v (.int (k : Int)), .v (.int ((b ^ s : Nat) : Int)), c])
    ⟨.un, rfl, rfl⟩
    (fun s hs ρ ⟨c, hc, e⟩ => by
      subst e
      refine ⟨_, .inl ?_, .v (.int (0 + (s : Int) * 1)), rfl, rfl⟩
      have e2 := x_oMul (i := ((b ^ s : Nat) : Int)) (j := (b : Int)) (.inr (by omega))
      have e3 : ((b ^ (s + 1) : Nat) : Int) = ((b ^ s : Nat) : Int) * (b : Int) := by rw [Nat.pow_succ, Int.natCast_mul]
      rw [e3]
      generalize ((b ^ s : Nat) : Int) = x at *
      generalize 0 + (s : Int) * 1 = z at *
      simp [fT, lp0_power_of, nl_par hc, e2])
  generalize ((b ^ k : Nat) : Int) = y at *
  generalize (List.range k).map (fun i : Nat => PyData.int (0 + (i : Int) * 1)) = rs at *
  simp [F_power_of, mkA, den_power_of, hr, e]
theorem v_is_integer (i : Int) : F_is_integer [.int i] = some (.fz (.bool true)) := by
  simp [F_is_integer, mkA, den_is_integer, tyN]
theorem v_is_count (i : Int) : F_is_count [.int i] = some (.fz (.bool (decide (0 ≤ i)))) := by
  simp [F_is_count, mkA, den_is_count, v_is_integer]
theorem v_is_listL (xs : List D) : F_is_list [.list xs] = some (.fz (.bool true)) := by
  simp [F_is_list, mkA, den_is_list, tyN]
theorem v_is_listT (xs : List D) : F_is_list [.tuple xs] = some (.fz (.bool true)) := by
  simp [F_is_list, mkA, den_is_list, tyN]
def cellN (i : Nat) (ρ : DL.Env) : Nat := match ρ[i]? with
  | some (.v (.int z)) => z.toNat
  | _ => 0
theorem pw_inner (n0 : D) (fs : List D) {l p : Nat} (hp : 2 ≤ p ∧ p ≤ 2 ^ 62) (hl : 0 < l) :
    sWhile wt0_powers_of lp0_powers_of [.v n0, .own fs, .v (.int (l : Int)), .v (.int (p : Int)), .v (.int 0)] = .nx [.v n0, .own fs, .v (.int (NT.wo p l : Nat)), .v (.int (p : Int)), .v (.int (NT.vl p l : Nat))] := by
  obtain ⟨ρ', e, h⟩ := sWhile_inv (t := wt0_powers_of) (g := lp0_powers_of) (ρ := [.v n0, .own fs, .v (.int (l : Int)), .v (.int (p : Int)), .v (.int 0)])
    (fun ρ => ∃ a k : Nat, 0 < a ∧ NT.wo p a = NT.wo p l ∧ NT.vl p a + k = NT.vl p l ∧ ρ = [.v n0, .own fs, .v (.int (a : Int)), .v (.int (p : Int)), .v (.int (k : Int))])
    (fun ρ => ρ = [.v n0, .own fs, .v (.int (NT.wo p l : Nat)), .v (.int (p : Int)), .v (.int (NT.vl p l : Nat))])
    (cellN 2)
    (fun ρ ⟨a, k, ha, h1, h2, e⟩ => by
      subst e
      have m1 := x_oMod (i := (a : Int)) (j := (p : Int)) (by omega)
      have m2 := x_oFdiv (i := (a : Int)) (j := (p : Int)) (by omega)
      by_cases h : a % p = 0
      · have h' : (a : Int) % (p : Int) = 0 := by omega
        have hv := NT.vl_go hp.1 ha h
        have hlt : a / p < a := Nat.div_lt_self ha (by omega)
        have hpos : 0 < a / p := Nat.div_pos (Nat.le_of_dvd ha (Nat.dvd_of_mod_eq_zero h)) (by omega)
        refine .inr ⟨[.v n0, .own fs, .v (.int (a : Int)), .v (.int (p : Int)), .v (.int (k : Int))], [.v n0, .own fs, .v (.int ((a : Int) / (p : Int))), .v (.int (p : Int)), .v (.int ((k : Int) + 1))], by simp [wt0_powers_of, m1, h'], .inl (by simp [lp0_powers_of, m2]), ⟨a / p, k + 1, hpos, ?_, by omega, rfl⟩, ?_⟩
        · rw [← h1]
          unfold NT.wo
          rw [hv, Nat.pow_succ, Nat.mul_comm, Nat.div_div_eq_div_mul]
        · show ((a : Int) / (p : Int)).toNat < ((a : Int)).toNat
          have : (a : Int) / (p : Int) = ((a / p : Nat) : Int) := rfl
          rw [this]
          omega
      · have h' : ¬ (a : Int) % (p : Int) = 0 := by omega
        have hv := NT.vl_stop (n := a) h
        refine .inl ⟨[.v n0, .own fs, .v (.int (a : Int)), .v (.int (p : Int)), .v (.int (k : Int))], by simp [wt0_powers_of, m1, h'], ?_⟩
        have e1 : NT.wo p a = a := by unfold NT.wo; rw [hv, Nat.pow_zero, Nat.div_one]
        rw [← h1, e1, ← h2, hv, Nat.zero_add])
    ⟨l, 0, hl, rfl, rfl, rfl⟩
  rw [e, h]
theorem pwTo_len (n p : Nat) : (NT.pwTo n p).length ≤ p := by
  unfold NT.pwTo
  rw [List.length_map]
  have := List.length_filter_le (NT.pq n) (List.range p)
  rwa [List.length_range] at this
theorem pw_step (n : Nat) {l p : Nat} (c : Cell) (hc : isPar c = false) (t : NT.Td n l p) (hn : n ≤ 100000000000000) (hpl : p * p ≤ l) :
    lp1_powers_of [.v (.int (n : Int)), .own ((NT.pwTo n p).map ppD), .v (.int (l : Int)), .v (.int (p : Int)), c] = .nx [.v (.int (n : Int)), .own ((NT.pwTo n (NT.nxt p)).map ppD), .v (.int (NT.wo p l : Nat)), .v (.int (NT.nxt p : Nat)), .v (.int (NT.vl p l : Nat))] := by
  have hp2 : 2 ≤ p := by rcases t.odd with h | h <;> omega
  have hp : p ≤ 10000000 := by
    false_or_by_contra
    have := Nat.mul_le_mul (show 10000001 ≤ p by omega) (show 10000001 ≤ p by omega)
    have := t.le
    omega
  have e := pw_inner (.int (n : Int)) ((NT.pwTo n p).map ppD) (l := l) (p := p) ⟨hp2, by omega⟩ t.pos
  have h2 := (t.next).2
  have hlen : (((NT.pwTo n p).map ppD).length ≤ LIM) = True := eq_true (lim_of (by rw [List.length_map]; have := pwTo_len n p; omega))
  have hx : NT.nxt p = if p = 2 then 3 else p + 2 := rfl
  rw [h2, hx, List.map_append]
  generalize (NT.pwTo n p).map ppD = fs at *
  generalize NT.vl p l = k at *
  generalize NT.wo p l = w at *
  by_cases hk : 0 < k
  · have hk' : (0 : Int) < (k : Int) := by omega
    by_cases h22 : p = 2
    · subst h22
      have e' : sWhile wt0_powers_of lp0_powers_of [.v (.int (n : Int)), .own fs, .v (.int (l : Int)), .v (.int 2), .v (.int 0)] = .nx [.v (.int (n : Int)), .own fs, .v (.int (w : Int)), .v (.int 2), .v (.int (k : Int))] := e
      simp [lp1_powers_of, hc, e', hk, hk', mAppend, hlen, ppD]
    · have h22' : ¬ (p : Int) = 2 := by omega
      simp [lp1_powers_of, hc, e, hk, hk', mAppend, hlen, ppD, h22, h22']
  · have hk' : ¬ (0 : Int) < (k : Int) := by omega
    by_cases h22 : p = 2
    · subst h22
      have e' : sWhile wt0_powers_of lp0_powers_of [.v (.int (n : Int)), .own fs, .v (.int (l : Int)), .v (.int 2), .v (.int 0)] = .nx [.v (.int (n : Int)), .own fs, .v (.int (w : Int)), .v (.int 2), .v (.int (k : Int))] := e
      simp [lp1_powers_of, hc, e', hk, hk']
    · have h22' : ¬ (p : Int) = 2 := by omega
      simp [lp1_powers_of, hc, e, hk, hk', h22, h22']
theorem v_powers_of (n : Nat) (hn : 1 ≤ n ∧ n ≤ 100000000000000) : F_powers_of [.int (n : Int)] = some (.fr ((NT.pw n).map ppD)) := by
  obtain ⟨ρ', e, l, p, c, hc, ht, hlt, rfl⟩ := sWhile_inv (t := wt1_powers_of) (g := lp1_powers_of) (ρ := [.v (.int (n : Int)), .own [], .v (.int (n : Int)), .v (.int 2), .un])
    (fun ρ => ∃ (l p : Nat) (c : Cell), isPar c = false ∧ NT.Td n l p ∧ p ≤ 10000002 ∧ ρ = [.v (.int (n : Int)), .own ((NT.pwTo n p).map ppD), .v (.int (l : Int)), .v (.int (p : Int)), c])
    (fun ρ => ∃ (l p : Nat) (c : Cell), isPar c = false ∧ NT.Td n l p ∧ (l < p * p ∧ p ≤ 10000002) ∧ ρ = [.v (.int (n : Int)), .own ((NT.pwTo n p).map ppD), .v (.int (l : Int)), .v (.int (p : Int)), c])
    (fun ρ => 20000000 - cellN 3 ρ)
    (fun ρ ⟨l, p, c, hc, t, hp, e⟩ => by
      subst e
      have m1 := x_oMul (i := (p : Int)) (j := (p : Int)) (by omega)
      have m2 : (p : Int) * (p : Int) = ((p * p : Nat) : Int) := (Int.natCast_mul p p).symm
      rw [m2] at m1
      by_cases h : p * p ≤ l
      · have h' : ((p * p : Nat) : Int) ≤ (l : Int) := by omega
        have st := pw_step n c hc t hn.2 h
        have hp' : p ≤ 10000000 := by
          false_or_by_contra
          have := Nat.mul_le_mul (show 10000001 ≤ p by omega) (show 10000001 ≤ p by omega)
          have := t.le
          omega
        have hx : p < NT.nxt p ∧ NT.nxt p ≤ p + 2 := by unfold NT.nxt; split <;> omega
        generalize ((p * p : Nat) : Int) = pp at *
        refine .inr ⟨[.v (.int (n : Int)), .own ((NT.pwTo n p).map ppD), .v (.int (l : Int)), .v (.int (p : Int)), c], _, ?_, .inl st, ⟨_, _, _, rfl, (t.next).1, by omega, rfl⟩, ?_⟩
        · generalize (NT.pwTo n p).map ppD = fs at *
          simp [wt1_powers_of, m1, h']
        · show 20000000 - ((NT.nxt p : Nat) : Int).toNat < 20000000 - ((p : Nat) : Int).toNat
          omega
      · have h' : ¬ ((p * p : Nat) : Int) ≤ (l : Int) := by omega
        refine .inl ⟨[.v (.int (n : Int)), .own ((NT.pwTo n p).map ppD), .v (.int (l : Int)), .v (.int (p : Int)), c], ?_, l, p, c, hc, t, ⟨by omega, hp⟩, rfl⟩
        generalize (NT.pwTo n p).map ppD = fs at *
        generalize ((p * p : Nat) : Int) = pp at *
        simp [wt1_powers_of, m1, h'])
    ⟨n, 2, .un, rfl, NT.Td.start (by omega), by omega, rfl⟩
  have hs := ht.stop hlt.1
  have hlen : (((NT.pwTo n p).map ppD).length ≤ LIM) = True := eq_true (lim_of (by rw [List.length_map]; have := pwTo_len n p; omega))
  rw [hs, List.map_append]
  generalize (NT.pwTo n p).map ppD = fs at *
  by_cases h1 : 1 < l
  · have h1' : (1 : Int) < (l : Int) := by omega
    simp [F_powers_of, mkA, den_powers_of, e, mAppend, frs1, h1, h1', hlen, ppD]
  · have h1' : ¬ (1 : Int) < (l : Int) := by omega
    simp [F_powers_of, mkA, den_powers_of, e, frs1, h1, h1']
def PotOk (ys : List D) : Prop := ∃ a b : Int, ys = [.int a, .int b] ∧ 0 ≤ a ∧ 0 ≤ b ∧ b ≤ 2147483563
theorem v_draw {ps : List D} (m : Int) (hp : PotOk ps) (hm : 0 < m ∧ m ≤ 2 ^ 62) : ∃ d ys, F_law_draw ps [.int m] = some (.fz (.int d), ys) ∧ 0 ≤ d ∧ d < m ∧ PotOk ys := by
  obtain ⟨a, b, rfl, ha, hb, hb2⟩ := hp
  by_cases h : 0 < a
  · refine ⟨a % m, [.int (a / m), .int b], ?_, Int.emod_nonneg _ (by omega), Int.emod_lt_of_pos _ (by omega), _, _, rfl, Int.ediv_nonneg ha (by omega), hb, hb2⟩
    simp [F_law_draw, mkB, den_law_draw, h, atI, ixN, x_oDivmod (i := a) (j := m) (by omega)]
  · have h0 : a = 0 := by omega
    subst h0
    have hq := Int.emod_nonneg (b * 40487 + 12757) (by decide : (2147483563 : Int) ≠ 0)
    have hq2 := Int.emod_lt_of_pos (b * 40487 + 12757) (by decide : (0 : Int) < 2147483563)
    generalize hg : (b * 40487 + 12757) % 2147483563 = q at hq hq2
    refine ⟨_, [.int 0, .int q], ?_, Int.emod_nonneg (q * q % 2147483549 / 19) (by omega : m ≠ 0), Int.emod_lt_of_pos _ (by omega), _, _, rfl, by omega, hq, by omega⟩
    simp [F_law_draw, mkB, den_law_draw, atI, ixN, x_oMul (i := b) (j := 40487) (by omega), x_oMod (i := b * 40487 + 12757) (j := 2147483563) (by omega), hg, x_oMul (i := q) (j := q) (by omega), x_oMod (i := q * q) (j := 2147483549) (by omega), x_oFdiv (i := q * q % 2147483549) (j := 19) (by omega), x_oMod (i := q * q % 2147483549 / 19) (j := m) (by omega)]
theorem v_pick {ps xs : List D} (hp : PotOk ps) (hx : 0 < xs.length ∧ xs.length ≤ 1000) : ∃ d ys, F_law_pick ps [.list xs] = some (.fz d, ys) ∧ d ∈ xs ∧ PotOk ys := by
  obtain ⟨d, ys, e, h0, h1, hy⟩ := v_draw (xs.length : Nat) hp (by omega)
  have hl : d.toNat < xs.length := by omega
  have ha : atI xs d = some xs[d.toNat] := by rw [atI_pos (by omega), List.getElem?_eq_getElem hl]
  refine ⟨xs[d.toNat], ys, ?_, List.getElem_mem hl, hy⟩
  generalize xs[d.toNat] = z at ha ⊢
  simp [F_law_pick, mkB, den_law_pick, e, ha]
theorem pow_10 (n : Nat) (hn : n ≤ 100) : oPow (.int 10) (.int (n : Int)) = some (.at (.int ((10 : Int) ^ n))) := by
  rw [x_oPow (by unfold powOk; simp only [Bool.and_eq_true, dP_iff]; omega)]
  simp
theorem pow18 : oPow (.int 10) (.int 18) = some (.at (.int 1000000000000000000)) := pow_10 18 (by omega)
theorem pow12 : oPow (.int 10) (.int 12) = some (.at (.int 1000000000000)) := pow_10 12 (by omega)
theorem pow9 : oPow (.int 10) (.int 9) = some (.at (.int 1000000000)) := pow_10 9 (by omega)
theorem pow8 : oPow (.int 10) (.int 8) = some (.at (.int 100000000)) := pow_10 8 (by omega)
theorem pow6 : oPow (.int 10) (.int 6) = some (.at (.int 1000000)) := pow_10 6 (by omega)
theorem pow5 : oPow (.int 10) (.int 5) = some (.at (.int 100000)) := pow_10 5 (by omega)
theorem pow4 : oPow (.int 10) (.int 4) = some (.at (.int 10000)) := pow_10 4 (by omega)
theorem v_pot (ns : List Int) (k : Nat) (hk : k ≤ 63) : ∃ ys, F_law_pot [.list (ns.map .int), .int k] = some (.fr ys) ∧ PotOk ys := by
  have key : ∀ c : Int, 0 ≤ c → ∃ ys, finF (match (Out.nx [.v (.list (ns.map .int)), .v (.int k), .v (.int c)]) with
      | .nx ρ1 => sRet (eLst [(eB oMax [(eC (.int 0)), (eBin oSub (eV 2) (eBin oPow (eC (.int 10)) (eC (.int 18))))]), (eBin oAdd (eBin oMod (eB oInt [(eBin oAdd (eBin oAdd (eBin oMul (eBin oMod (eB oInt [(eV 2)]) (eC (.int 2147483549))) (eC (.int 40014))) (eBin oMul (eC (.int 41299)) (eV 1))) (eC (.int 3251)))]) (eC (.int 2147483563))) (eC (.int 1)))]) ρ1
      | o => o) = some (.fr ys) ∧ PotOk ys := fun c hc => by
    have h1 := x_oMod (i := c) (j := 2147483549) (by omega)
    have h2 := x_oMul (i := c % 2147483549) (j := 40014) (by omega)
    have h3 := x_oMul (i := 41299) (j := (k : Int)) (by omega)
    have h4 := x_oMod (i := c % 2147483549 * 40014 + 41299 * (k : Int) + 3251) (j := 2147483563) (by omega)
    have h5 := Int.emod_nonneg (c % 2147483549 * 40014 + 41299 * (k : Int) + 3251) (show (2147483563 : Int) ≠ 0 by omega)
    have h6 := Int.emod_lt_of_pos (c % 2147483549 * 40014 + 41299 * (k : Int) + 3251) (show (0 : Int) < 2147483563 by omega)
    generalize c % 2147483549 = x at *
    generalize (x * 40014 + 41299 * (k : Int) + 3251) % 2147483563 = y at *
    generalize hm : (if c - 1000000000000000000 > 0 then c - 1000000000000000000 else 0) = m
    refine ⟨[.int m, .int (y + 1)], ?_, m, y + 1, rfl, ?_, by omega, by omega⟩
    · simp [pow18, h1, h2, h3, h4]
      omega
    · rw [← hm]; split <;> omega
  by_cases hl : k < ns.length
  · have ha : atI (ns.map PyData.int) (k : Int) = some (.int ns[k]) := by
      rw [atI_pos (by rw [List.length_map]; omega), Int.toNat_natCast, List.getElem?_map, List.getElem?_eq_getElem hl]
      rfl
    obtain ⟨ys, e, hy⟩ := key (if ns[k] < 0 then -ns[k] else ns[k]) (by split <;> omega)
    refine ⟨ys, ?_, hy⟩
    rw [← e]
    generalize ns[k] = z at *
    have hl' : (k : Int) < ((ns.map PyData.int).length : Nat) := by rw [List.length_map]; omega
    generalize ns.map PyData.int = zs at *
    simp [F_law_pot, mkA, den_law_pot, ha, hl']
  · obtain ⟨ys, e, hy⟩ := key (4657 * (k : Int) + 3931) (by omega)
    refine ⟨ys, ?_, hy⟩
    rw [← e]
    have h3 := x_oMul (i := 4657) (j := (k : Int)) (by omega)
    have hl' : ¬ (k : Int) < ((ns.map PyData.int).length : Nat) := by rw [List.length_map]; omega
    generalize ns.map PyData.int = zs at *
    simp [F_law_pot, mkA, den_law_pot, h3, hl']
/-- a list or a tuple of a row -/
def Sq (d : D) (xs : List D) : Prop := d = .list xs ∨ d = .tuple xs
theorem Sq.l (xs : List D) : Sq (.list xs) xs := .inl rfl
theorem Sq.t (xs : List D) : Sq (.tuple xs) xs := .inr rfl
theorem rv_elem (m : Nat) (f : Nat → Int) (d : D) (k : Nat) (h : (f k).natAbs < 10 ^ 30) :
    lcT (.nm 1) yesD ce0_is_row_value [1] [.v d, .un] (.int (f k)) = some (some (.bool true), [.v d, .un]) := by
  have h0 := v_is_integer (f k)
  have h1 : (-1000000000000000000000000000000 : Int) < f k := by omega
  have h2 : f k < (1000000000000000000000000000000 : Int) := by omega
  generalize f k = z at *
  simp [lcT, ce0_is_row_value, h0, h1, h2]
theorem v_is_row_value {d : D} {m : Nat} {f : Nat → Int} (hd : Sq d (rowD m f)) (hm : 1 ≤ m ∧ m ≤ 60) (h : ∀ k, k < m → (f k).natAbs < 10 ^ 30) : F_is_row_value [d] = some (.fz (.bool true)) := by
  have e : lcL (.nm 1) yesD ce0_is_row_value [1] (rowD m f) [.v d, .un] [] = some ((List.range m).map fun _ => .bool true, [.v d, .un]) :=
    lcL_map (fun _ => .bool true) (fun k hk => rv_elem m f d k (h k (List.mem_range.mp hk))) (lim_of (by simp; omega))
  have ha := all_bools (fun _ => true) (List.range m)
  have hl := rowD_len m f
  rw [show (List.range m).all (fun _ => true) = true by simp] at ha
  generalize (List.range m).map (fun _ => PyData.bool true) = bs at *
  have m1 : (1 : Int) ≤ ((m : Nat) : Int) := by omega
  have m2 : ((m : Nat) : Int) ≤ 60 := by omega
  rcases hd with rfl | rfl
  · have h0 := v_is_listL (rowD m f)
    rw [← hl] at m1 m2
    generalize rowD m f = zs at *
    simp [F_is_row_value, mkA, den_is_row_value, h0, m1, m2, e, ha]
  · have h0 := v_is_listT (rowD m f)
    rw [← hl] at m1 m2
    generalize rowD m f = zs at *
    simp [F_is_row_value, mkA, den_is_row_value, h0, m1, m2, e, ha]
theorem v_want_row {d : D} {m : Nat} {f : Nat → Int} (hd : Sq d (rowD m f)) (hm : 1 ≤ m ∧ m ≤ 60) (h : ∀ k, k < m → (f k).natAbs < 10 ^ 30) : F_want_row [d] = some (.fz .none) := by
  have e := v_is_row_value hd hm h
  simp [F_want_row, mkA, den_want_row, e]
theorem Sq.ix {d : D} {xs : List D} (h : Sq d xs) (i : Int) : oIx d (.int i) = (atI xs i).map .at := by
  rcases h with rfl | rfl
  · exact x_oIxL _ _
  · exact x_oIxT _ _
theorem Sq.len {d : D} {xs : List D} (h : Sq d xs) : oLen [d] = some (.at (.int (xs.length : Nat))) := by
  rcases h with rfl | rfl
  · exact x_oLenL _
  · exact x_oLenT _
theorem Sq.it {d : D} {xs : List D} (h : Sq d xs) : itOf (.fz d) = some xs := by
  rcases h with rfl | rfl
  · exact x_itOfL _
  · exact x_itOfT _
theorem Sq.en {d : D} {xs : List D} (h : Sq d xs) (f : DEx) {ρ ρ1 : DL.Env} (e : f ρ = some (.fz d, ρ1)) : iEnumB f ρ = some (enumD 0 xs, ρ1) := by
  rcases h with rfl | rfl
  · rw [x_iEnumB, e]
  · rw [x_iEnumB, e]
theorem v_share_of (a b : Nat) : F_share_of [.int (a : Int), .int (b : Int)] = some (.fz (.int (Nat.gcd a b : Nat))) := by
  obtain ⟨ρ', e, x, rfl⟩ := sWhile_inv (t := wt0_share_of) (g := lp0_share_of) (ρ := [.v (.int (a : Int)), .v (.int (b : Int)), .v (.int (a : Int)), .v (.int (b : Int))])
    (fun ρ => ∃ x y : Nat, Nat.gcd x y = Nat.gcd a b ∧ ρ = [.v (.int (a : Int)), .v (.int (b : Int)), .v (.int (x : Int)), .v (.int (y : Int))])
    (fun ρ => ∃ c, ρ = [.v (.int (a : Int)), .v (.int (b : Int)), .v (.int (Nat.gcd a b : Nat)), c])
    (fun ρ => match ρ[(3 : Nat)]? with
      | some (.v (.int z)) => z.toNat
      | _ => 0)
    (fun ρ ⟨x, y, hg, e⟩ => by
      subst e
      by_cases h : 0 < y
      · have h' : (0 : Int) < (y : Int) := by omega
        have hm := x_oMod (i := (x : Int)) (j := (y : Int)) h'
        have em : (x : Int) % (y : Int) = ((x % y : Nat) : Int) := (Int.natCast_emod x y).symm
        rw [em] at hm
        refine .inr ⟨[.v (.int (a : Int)), .v (.int (b : Int)), .v (.int (x : Int)), .v (.int (y : Int))], [.v (.int (a : Int)), .v (.int (b : Int)), .v (.int (y : Int)), .v (.int ((x % y : Nat) : Int))], by simp [wt0_share_of, h', h], .inl ?_, ⟨y, x % y, ?_, rfl⟩, ?_⟩
        · generalize ((x % y : Nat) : Int) = w at *
          simp [lp0_share_of, hm]
        · rw [← hg, Nat.gcd_comm y (x % y), ← Nat.gcd_rec, Nat.gcd_comm]
        · show (((x % y : Nat) : Int)).toNat < ((y : Nat) : Int).toNat
          have := Nat.mod_lt x h
          omega
      · have h0 : y = 0 := by omega
        subst h0
        rw [Nat.gcd_zero_right] at hg
        refine .inl ⟨[.v (.int (a : Int)), .v (.int (b : Int)), .v (.int (x : Int)), .v (.int ((0 : Nat) : Int))], ?_, _, by rw [hg]⟩
        simp [wt0_share_of])
    ⟨a, b, rfl, rfl⟩
  have ha : ¬ (a : Int) < 0 := by omega
  have hb : ¬ (b : Int) < 0 := by omega
  generalize Nat.gcd a b = g at *
  simp [F_share_of, mkA, den_share_of, ha, hb, e]
theorem v_worth_at {m n : Nat} {f : Nat → Int} {d : D} (hd : Sq d (rowD m f)) (hm : 1 ≤ m ∧ m ≤ 60) (hf : ∀ k, k < m → (f k).natAbs < 10 ^ 30) (hn : 1 ≤ n) : F_worth_at [d, .int (n : Int)] = some (.fz (.int (if n ≤ m then f (n - 1) else 0))) := by
  have e1 := v_want_row hd hm hf
  have e2 := v_is_integer (n : Int)
  have hl := hd.len
  rw [rowD_len] at hl
  have h1 : ¬ (n : Int) < 1 := by omega
  by_cases h : n ≤ m
  · have h' : (n : Int) ≤ (m : Int) := by omega
    have e3 := hd.ix ((n : Int) - 1)
    rw [show (n : Int) - 1 = ((n - 1 : Nat) : Int) from by omega, rowD_at f (by omega)] at e3
    have e4 : (n : Int) - 1 = ((n - 1 : Nat) : Int) := by omega
    rw [if_pos h]
    generalize f (n - 1) = z at *
    generalize ((n - 1 : Nat) : Int) = w at *
    simp [F_worth_at, mkA, den_worth_at, e1, e2, h1, hl, h', e3, e4]
  · have h' : ¬ (n : Int) ≤ (m : Int) := by omega
    rw [if_neg h]
    simp [F_worth_at, mkA, den_worth_at, e1, e2, h1, hl, h']
theorem sm_shift (f : Nat → Int) : ∀ n : Nat, NT.sm f (n + 1) = f 0 + NT.sm (fun i => f (i + 1)) n
  | 0 => by simp [NT.sm]
  | n + 1 => by
    have ih := sm_shift f n
    have e : NT.sm f (n + 1 + 1) = NT.sm f (n + 1) + f (n + 1) := rfl
    have e2 : NT.sm (fun i => f (i + 1)) (n + 1) = NT.sm (fun i => f (i + 1)) n + f (n + 1) := rfl
    rw [e, e2, ih]
    omega
def mz : Nat → Int := fun j => if j = 0 then 0 else NT.mu j
theorem mz_abs (j : Nat) : (mz j).natAbs ≤ 1 := by
  unfold mz
  split
  · decide
  · exact NT.mu_abs j
theorem zipC_row {d0 d1 : D} {m n : Nat} {f g : Nat → Int} (h0 : Sq d0 (rowD m f)) (h1 : Sq d1 (rowD n g)) (e e' : DEx) {ρ : DL.Env} (q0 : e ρ = some (.fz d0, ρ)) (q1 : e' ρ = some (.fz d1, ρ)) : iZipC e e' ρ = some ((List.range (min m n)).map fun a => PyData.tuple [.int (f a), .int (g a)], ρ) := by
  rw [← zipD_row]
  rcases h0 with rfl | rfl <;> rcases h1 with rfl | rfl <;> simp [q0, q1]
/-- an item of a row, a row: of any data -/
def itB : D → Bool
  | .int i => decide (-1000000000000000000000000000000 < i ∧ i < 1000000000000000000000000000000)
  | _ => false
def seqItems : D → Option (List D)
  | .list xs => some xs
  | .tuple xs => some xs
  | _ => none
def isRowB (d : D) : Bool := match seqItems d with
  | some xs => decide (1 ≤ xs.length ∧ xs.length ≤ 60) && xs.all itB
  | none => false
theorem rvA_elem (c : D) (d : D) : lcT (.nm 1) yesD ce0_is_row_value [1] [.v c, .un] d = some (some (.bool (itB d)), [.v c, .un]) := by
  cases d with
  | int i =>
    have h0 := v_is_integer i
    by_cases h1 : (-1000000000000000000000000000000 : Int) < i
    · by_cases h2 : i < (1000000000000000000000000000000 : Int)
      · simp [lcT, ce0_is_row_value, h0, h1, h2, itB]
      · simp [lcT, ce0_is_row_value, h0, h1, h2, itB]
    · simp [lcT, ce0_is_row_value, h0, h1, itB]
  | none => simp [lcT, ce0_is_row_value, F_is_integer, mkA, den_is_integer, tyN, itB]
  | bool b => simp [lcT, ce0_is_row_value, F_is_integer, mkA, den_is_integer, tyN, itB]
  | str b => simp [lcT, ce0_is_row_value, F_is_integer, mkA, den_is_integer, tyN, itB]
  | list b => simp [lcT, ce0_is_row_value, F_is_integer, mkA, den_is_integer, tyN, itB]
  | tuple b => simp [lcT, ce0_is_row_value, F_is_integer, mkA, den_is_integer, tyN, itB]
  | dict b => simp [lcT, ce0_is_row_value, F_is_integer, mkA, den_is_integer, tyN, itB]
theorem rvA_seq {d : D} {xs : List D} (h : Sq d xs) : F_is_row_value [d] = some (.fz (.bool (decide (1 ≤ xs.length ∧ xs.length ≤ 60) && xs.all itB))) := by
  have e : xs.length ≤ 60 → lcL (.nm 1) yesD ce0_is_row_value [1] xs [.v d, .un] [] = some (xs.map fun x => .bool (itB x), [.v d, .un]) := fun hl => by
    have := lcL_map (t := .nm 1) (tt := yesD) (f := ce0_is_row_value) (vs := [1]) (ρ := [.v d, .un]) (enc := fun x : D => x) (fun x => .bool (itB x)) (xs := xs) (fun x _ => rvA_elem d x) (lim_of (by omega))
    rwa [List.map_id'] at this
  have ha := all_bools itB xs
  have hlen := h.len
  have hit := h.it
  have h0 : F_is_list [d] = some (.fz (.bool true)) := by
    rcases h with rfl | rfl
    · exact v_is_listL xs
    · exact v_is_listT xs
  by_cases m1 : 1 ≤ xs.length
  · by_cases m2 : xs.length ≤ 60
    · have m1' : (1 : Int) ≤ (xs.length : Int) := by omega
      have m2' : (xs.length : Int) ≤ 60 := by omega
      have e := e m2
      rw [decide_eq_true ⟨m1, m2⟩, Bool.true_and]
      generalize xs.map (fun x => PyData.bool (itB x)) = bs at *
      simp [F_is_row_value, mkA, den_is_row_value, h0, hlen, m1', m2', hit, e, ha]
    · have m1' : (1 : Int) ≤ (xs.length : Int) := by omega
      have m2' : ¬ (xs.length : Int) ≤ 60 := by omega
      rw [decide_eq_false (fun z => m2 z.2), Bool.false_and]
      simp [F_is_row_value, mkA, den_is_row_value, h0, hlen, m1', m2']
  · have m1' : ¬ (1 : Int) ≤ (xs.length : Int) := by omega
    rw [decide_eq_false (fun z => m1 z.1), Bool.false_and]
    simp [F_is_row_value, mkA, den_is_row_value, h0, hlen, m1']
theorem v_is_row_any (d : D) : F_is_row_value [d] = some (.fz (.bool (isRowB d))) := by
  cases d with
  | list xs => exact rvA_seq (Sq.l xs)
  | tuple xs => exact rvA_seq (Sq.t xs)
  | int i => simp [F_is_row_value, mkA, den_is_row_value, F_is_list, den_is_list, tyN, isRowB, seqItems]
  | none => simp [F_is_row_value, mkA, den_is_row_value, F_is_list, den_is_list, tyN, isRowB, seqItems]
  | bool b => simp [F_is_row_value, mkA, den_is_row_value, F_is_list, den_is_list, tyN, isRowB, seqItems]
  | str b => simp [F_is_row_value, mkA, den_is_row_value, F_is_list, den_is_list, tyN, isRowB, seqItems]
  | dict b => simp [F_is_row_value, mkA, den_is_row_value, F_is_list, den_is_list, tyN, isRowB, seqItems]
--? def F_law_share .{0,60}mkA 2 2
theorem v_law_share (a b : Nat) : F_law_share [.int (a : Int), .int (b : Int)] = some (.fz (.int (Nat.gcd a b : Nat))) := by
  obtain ⟨ρ', e, x, rfl⟩ := sWhile_inv (t := wt0_law_share) (g := lp0_law_share) (ρ := [.v (.int (a : Int)), .v (.int (b : Int))])
    (fun ρ => ∃ x y : Nat, Nat.gcd x y = Nat.gcd a b ∧ ρ = [.v (.int (x : Int)), .v (.int (y : Int))])
    (fun ρ => ∃ c, ρ = [.v (.int (Nat.gcd a b : Nat)), c])
    (fun ρ => match ρ[(1 : Nat)]? with
      | some (.v (.int z)) => z.toNat
      | _ => 0)
    (fun ρ ⟨x, y, hg, e⟩ => by
      subst e
      by_cases h : 0 < y
      · have h' : (0 : Int) < (y : Int) := by omega
        have hm := x_oMod (i := (x : Int)) (j := (y : Int)) h'
        have em : (x : Int) % (y : Int) = ((x % y : Nat) : Int) := (Int.natCast_emod x y).symm
        rw [em] at hm
        refine .inr ⟨[.v (.int (x : Int)), .v (.int (y : Int))], [.v (.int (y : Int)), .v (.int ((x % y : Nat) : Int))], by simp [wt0_law_share, h', h], .inl ?_, ⟨y, x % y, ?_, rfl⟩, ?_⟩
        · generalize ((x % y : Nat) : Int) = w at *
          simp [lp0_law_share, hm]
        · rw [← hg, Nat.gcd_comm y (x % y), ← Nat.gcd_rec, Nat.gcd_comm]
        · show (((x % y : Nat) : Int)).toNat < ((y : Nat) : Int).toNat
          have := Nat.mod_lt x h
          omega
      · have h0 : y = 0 := by omega
        subst h0
        rw [Nat.gcd_zero_right] at hg
        refine .inl ⟨[.v (.int (x : Int)), .v (.int ((0 : Nat) : Int))], ?_, _, by rw [hg]⟩
        simp [wt0_law_share])
    ⟨a, b, rfl, rfl⟩
  generalize Nat.gcd a b = g at *
  simp [F_law_share, mkA, den_law_share, e]
theorem lpW (n0 : D) : ∀ (k : Nat) (f : List Nat) (l o : Nat), 0 < l → 2 ≤ o → o + k ≤ 1000000 → l ≤ 1000000 → 2 * l ≤ o + k → f.length + k ≤ 1000000 →
    ∃ n f' l' o', wN wt0_law_primes lp0_law_primes n [.v n0, .v (.list (f.map natD)), .v (.int (l : Int)), .v (.int (o : Int))] = some (.nx [.v n0, .v (.list (f'.map natD)), .v (.int (l' : Nat)), .v (.int (o' : Nat))]) ∧ NT.lpGo k f l o = f' ++ (if 1 < l' then [l'] else []) ∧ f'.length ≤ f.length + k := by
  intro k
  induction k with
  | zero =>
    intro f l o h1 h2 h3 h4 h5 h6
    have hlt : l < o * o := by have := Nat.mul_le_mul_right o h2; omega
    refine ⟨1, f, l, o, ?_, rfl, by omega⟩
    have m1 := x_oMul (i := (o : Int)) (j := (o : Int)) (by omega)
    rw [show (o : Int) * (o : Int) = ((o * o : Nat) : Int) from rfl] at m1
    have h' : ¬ ((o * o : Nat) : Int) ≤ (l : Int) := by omega
    generalize ((o * o : Nat) : Int) = oo at *
    generalize f.map natD = fs at *
    rw [wN, show wt0_law_primes [.v n0, .v (.list fs), .v (.int (l : Int)), .v (.int (o : Int))] = some (false, [.v n0, .v (.list fs), .v (.int (l : Int)), .v (.int (o : Int))]) from by simp [wt0_law_primes, m1, h']]
  | succ k ih =>
    intro f l o h1 h2 h3 h4 h5 h6
    have m1 := x_oMul (i := (o : Int)) (j := (o : Int)) (by omega)
    rw [show (o : Int) * (o : Int) = ((o * o : Nat) : Int) from rfl] at m1
    by_cases hlt : o * o ≤ l
    · have h' : ((o * o : Nat) : Int) ≤ (l : Int) := by omega
      have ht : wt0_law_primes [.v n0, .v (.list (f.map natD)), .v (.int (l : Int)), .v (.int (o : Int))] = some (true, [.v n0, .v (.list (f.map natD)), .v (.int (l : Int)), .v (.int (o : Int))]) := by
        generalize ((o * o : Nat) : Int) = oo at *
        generalize f.map natD = fs at *
        simp [wt0_law_primes, m1, h']
      have m2 := x_oMod (i := (l : Int)) (j := (o : Int)) (by omega)
      have m3 := x_oFdiv (i := (l : Int)) (j := (o : Int)) (by omega)
      by_cases hd : l % o = 0
      · have hd' : (l : Int) % (o : Int) = 0 := by omega
        have hol : o ≤ l := Nat.le_trans (Nat.le_mul_of_pos_right o (by omega)) hlt
        have hq0 : 0 < l / o := Nat.div_pos hol (by omega)
        have hq1 : 2 * (l / o) ≤ l := by
          have a1 := Nat.mul_div_le l o
          have a2 := Nat.mul_le_mul_right (l / o) h2
          omega
        have h4o : 4 ≤ l := by have := Nat.mul_le_mul h2 h2; omega
        obtain ⟨n, f', l', o', e, g, gl⟩ := ih (f ++ [o]) (l / o) o hq0 h2 (by omega) (by omega) (by omega) (by simp; omega)
        have hs : lp0_law_primes [.v n0, .v (.list (f.map natD)), .v (.int (l : Int)), .v (.int (o : Int))] = .nx [.v n0, .v (.list ((f ++ [o]).map natD)), .v (.int ((l / o : Nat) : Int)), .v (.int (o : Int))] := by
          have hc := x_oCat (xs := f.map natD) (ys := [.int (o : Int)]) (by simp; omega)
          have hx : ((f ++ [o]).map natD) = f.map natD ++ [.int (o : Int)] := by rw [List.map_append]; rfl
          rw [hx, Int.natCast_ediv]
          generalize f.map natD = fs at *
          simp [lp0_law_primes, m2, m3, hd', hc]
        obtain ⟨n', e'⟩ := sWhile_go ht hs ⟨n, e⟩
        refine ⟨n', f', l', o', e', ?_, by simp at gl; omega⟩
        rw [NT.lpGo, if_pos hlt, if_pos hd]
        exact g
      · have hd' : ¬ (l : Int) % (o : Int) = 0 := by omega
        obtain ⟨n, f', l', o', e, g, gl⟩ := ih f l (o + 1) h1 (by omega) (by omega) h4 (by omega) (by omega)
        have hs : lp0_law_primes [.v n0, .v (.list (f.map natD)), .v (.int (l : Int)), .v (.int (o : Int))] = .nx [.v n0, .v (.list (f.map natD)), .v (.int (l : Int)), .v (.int ((o + 1 : Nat) : Int))] := by
          rw [Int.natCast_add]
          generalize f.map natD = fs at *
          simp [lp0_law_primes, m2, hd']
        obtain ⟨n', e'⟩ := sWhile_go ht hs ⟨n, e⟩
        refine ⟨n', f', l', o', e', ?_, by omega⟩
        rw [NT.lpGo, if_pos hlt, if_neg hd]
        exact g
    · refine ⟨1, f, l, o, ?_, by rw [NT.lpGo, if_neg hlt], by omega⟩
      have h' : ¬ ((o * o : Nat) : Int) ≤ (l : Int) := by omega
      generalize ((o * o : Nat) : Int) = oo at *
      generalize f.map natD = fs at *
      rw [wN, show wt0_law_primes [.v n0, .v (.list fs), .v (.int (l : Int)), .v (.int (o : Int))] = some (false, [.v n0, .v (.list fs), .v (.int (l : Int)), .v (.int (o : Int))]) from by simp [wt0_law_primes, m1, h']]
theorem v_law_primes (n : Nat) (hn : 1 ≤ n ∧ n ≤ 100000) : F_law_primes [.int (n : Int)] = some (.fr ((NT.lpr n).map natD)) := by
  obtain ⟨k, f', l', o', e, g, gl⟩ := lpW (.int (n : Int)) (2 * n) [] n 2 (by omega) (by omega) (by omega) (by omega) (by omega) (by simp; omega)
  have e : sWhile wt0_law_primes lp0_law_primes [.v (.int (n : Int)), .v (.list []), .v (.int (n : Int)), .v (.int 2)] = _ := sWhile_eq e
  have hg : NT.lpr n = f' ++ (if 1 < l' then [l'] else []) := g
  have hc := x_oCat (xs := f'.map natD) (ys := [.int (l' : Int)]) (by simp at gl ⊢; omega)
  have hc0 := x_oCat (xs := f'.map natD) (ys := []) (by simp at gl ⊢; omega)
  rw [hg, List.map_append]
  generalize f'.map natD = fs at *
  by_cases h : 1 < l'
  · have h' : (1 : Int) < (l' : Int) := by omega
    simp [F_law_primes, mkA, den_law_primes, frs1, e, h, h', hc, natD]
  · have h' : ¬ (1 : Int) < (l' : Int) := by omega
    simp [F_law_primes, mkA, den_law_primes, frs1, e, h, h', hc0]
theorem v_law_power (p k : Nat) (hp : p ≤ 1000000) (hk : k ≤ 1000) : F_law_power [.int (p : Int), .int (k : Int)] = some (.fz (natD (p ^ k))) := by
  obtain ⟨ρ', e, c, hc, rfl⟩ := fN_range (t := .nm 3) (g := lp0_law_power) (enc := fun i : Nat => PyData.int (0 + (i : Int) * 1)) (n := k) (ρ := [.v (.int (p : Int)), .v (.int (k : Int)), .v (.int 1), .un])
    (fun j ρ => ∃ c, nl c = true ∧ ρ = [.v (.int (p : Int)), .v (.int (k : Int)), .v (.int ((p ^ j : Nat) : Int)), c])
    ⟨.un, rfl, by simp⟩
    (fun j hj ρ ⟨c, hc, e⟩ => by
      subst e
      have m := x_oMul (i := ((p ^ j : Nat) : Int)) (j := (p : Int)) (by omega)
      rw [show ((p ^ j : Nat) : Int) * (p : Int) = ((p ^ (j + 1) : Nat) : Int) from by rw [Nat.pow_succ, Int.natCast_mul]] at m
      refine ⟨[.v (.int (p : Int)), .v (.int (k : Int)), .v (.int ((p ^ (j + 1) : Nat) : Int)), .v (.int (0 + (j : Int) * 1))], .inl ?_, _, rfl, rfl⟩
      have hcp := nl_par hc
      generalize ((p ^ j : Nat) : Int) = q at *
      generalize ((p ^ (j + 1) : Nat) : Int) = r at *
      simp [fT, lp0_law_power, m, hcp]
      )
  have hr := x_rng1 (j := (k : Int)) (by omega)
  rw [Int.toNat_natCast] at hr
  rw [show rngD 0 1 k = (List.range k).map (fun i : Nat => PyData.int (0 + (i : Int) * 1)) from rfl] at hr
  unfold natD
  generalize (List.range k).map (fun i : Nat => PyData.int (0 + (i : Int) * 1)) = xs at *
  generalize ((p ^ k : Nat) : Int) = r at *
  simp [F_law_power, mkA, den_law_power, hr, e]
theorem v_law_parts (n : Nat) (hn : 1 ≤ n ∧ n ≤ 60) : F_law_parts [.int (n : Int)] = some (.fr ((NT.prt n).map natD)) := by
  have e0 := v_law_primes n (by omega)
  have hi := intsOf_natD (NT.lpr n)
  have hlen := NT.lpr_len hn
  have hr := sset_nat (of_decide_eq_true (NT.small_all (P := fun n => decide ((NT.dedN (NT.lpr n)).Pairwise (· < ·))) NT.ded_rises hn))
  have hll : ((NT.lpr n).length < 64) = True := eq_true (by omega)
  have hb : ∀ p ∈ NT.dedN (NT.lpr n), p ≤ 60 := fun p hp => by
    have hm : ∀ xs : List Nat, p ∈ NT.dedN xs → p ∈ xs := by
      intro xs
      induction xs with
      | nil => exact id
      | cons a r ih =>
        unfold NT.dedN
        split
        · exact fun h => List.mem_cons_of_mem _ (ih h)
        · intro h
          rcases List.mem_cons.mp h with z | z
          · rw [z]; exact List.mem_cons_self
          · exact List.mem_cons_of_mem _ (ih z)
    have := (NT.mem_prs.mp (NT.prime_place (Nat.le_refl 60) hn (hm _ hp))).1
    omega
  obtain ⟨e, _⟩ := fN_foldI (t := .nm 3) (g := lp0_law_parts) (enc := natD) (fun b : List Nat × Cell => [.v (.int (n : Int)), .v (.list ((NT.lpr n).map natD)), .own (b.1.map natD), b.2]) (fun b p => (b.1 ++ [p ^ (NT.lpr n).count p], .v (natD p))) (fun rest b => b.1.length + rest.length ≤ 100 ∧ nl b.2 = true ∧ ∀ p ∈ rest, p ≤ 60) (xs := NT.dedN (NT.lpr n)) (b := ([], .un))
    (fun p rest b ⟨h1, h2, h3⟩ => by
      rw [List.length_cons] at h1
      refine ⟨.inl ?_, by simp; omega, rfl, fun q hq => h3 q (List.mem_cons_of_mem _ hq)⟩
      have hp := h3 p List.mem_cons_self
      have hk : (NT.lpr n).count p ≤ 5 := Nat.le_trans List.count_le_length hlen
      have e1 := v_law_power p ((NT.lpr n).count p) (by omega) (by omega)
      have hcn := count_nat p (NT.lpr n)
      have hcp := nl_par h2
      have hsm : ((b.1.map natD).length ≤ LIM) = True := eq_true (lim_of (by rw [List.length_map]; omega))
      show fT _ _ [.v (.int (n : Int)), .v (.list ((NT.lpr n).map natD)), .own (b.1.map natD), b.2] (natD p) = .nx [.v (.int (n : Int)), .v (.list ((NT.lpr n).map natD)), .own ((b.1 ++ [p ^ (NT.lpr n).count p]).map natD), .v (natD p)]
      rw [List.map_append, List.map_cons, List.map_nil]
      have hpd : natD p = .int (p : Int) := rfl
      rw [hpd]
      generalize natD (p ^ (NT.lpr n).count p) = z at *
      generalize (NT.lpr n).map (fun p : Nat => (p : Int)) = is at *
      rw [← hcn] at e1
      generalize (NT.lpr n).map natD = fs at *
      generalize b.1.map natD = gs at *
      generalize b.2 = c at *
      simp [fT, lp0_law_parts, hi, e1, hcp, mAppend, hsm])
    ⟨by have := NT.dedN_len (NT.lpr n); simp; omega, rfl, hb⟩
  have hf : ∀ (xs : List Nat) (b : List Nat × Cell), (xs.foldl (fun (b : List Nat × Cell) p => (b.1 ++ [p ^ (NT.lpr n).count p], Cell.v (natD p))) b).1 = b.1 ++ xs.map fun p => p ^ (NT.lpr n).count p := by
    intro xs
    induction xs with
    | nil => intro b; simp
    | cons p r ih => intro b; rw [List.foldl_cons, ih]; simp
  have hf := hf (NT.dedN (NT.lpr n)) ([], .un)
  rw [List.nil_append] at hf
  generalize ((NT.dedN (NT.lpr n)).foldl (fun (b : List Nat × Cell) p => (b.1 ++ [p ^ (NT.lpr n).count p], Cell.v (natD p))) ([], .un)) = B at *
  rw [hf] at e
  unfold NT.prt
  have hsl : (((NT.lpr n).map natD).length < 64) = True := by rw [List.length_map]; exact hll
  have e : fN (.nm 3) lp0_law_parts ((NT.dedN (NT.lpr n)).map natD) [.v (.int (n : Int)), .v (.list ((NT.lpr n).map natD)), .own [], .un] = _ := e
  have hlI : (((NT.lpr n).map fun p : Nat => (p : Int)).length < 64) = True := by rw [List.length_map]; exact hll
  generalize (NT.dedN (NT.lpr n)).map natD = ds at *
  generalize (NT.dedN (NT.lpr n)).map (fun p => p ^ (NT.lpr n).count p) = ps at *
  generalize ps.map natD = pd at *
  generalize (NT.lpr n).map (fun p : Nat => (p : Int)) = is at *
  generalize (NT.lpr n).map natD = fs at *
  simp [F_law_parts, mkA, den_law_parts, e0, frs1, hi, hlI, hr, e]
theorem v_law_places (m : Nat) (hm : m ≤ 60) : F_law_places [.int (m : Int)] = some (.fr ((NT.plc m).map natD)) := by
  have hr := rng2N m (by omega)
  have e := lcL_pure (t := .nm 1) (tt := ct0_law_places) (f := ce0_law_places) (vs := [1]) (ρ := [.v (.int (m : Int)), .un]) (enc := natD) (fun q => decide ((NT.prt q).length = 1)) natD (xs := (List.range (m - 1)).map fun i => i + 2) (acc := [])
    (fun q hq => by
      obtain ⟨i, hi, rfl⟩ := List.mem_map.mp hq
      have := List.mem_range.mp hi
      have e1 := v_law_parts (i + 2) (by omega)
      have hlen : oLen [.list ((NT.prt (i + 2)).map natD)] = some (.at (.int ((NT.prt (i + 2)).length : Nat))) := by rw [x_oLenL, List.length_map]
      unfold natD at *
      generalize (((i + 2 : Nat) : Int)) = qq at *
      generalize (NT.prt (i + 2)).map (fun p : Nat => PyData.int (p : Int)) = zs at *
      by_cases h : (NT.prt (i + 2)).length = 1
      · have h' : (((NT.prt (i + 2)).length : Nat) : Int) = 1 := by omega
        simp [lcT, ct0_law_places, ce0_law_places, e1, hlen, h, -x_oLenL]
      · have h' : ¬ (((NT.prt (i + 2)).length : Nat) : Int) = 1 := by omega
        simp [lcT, ct0_law_places, ce0_law_places, e1, hlen, h, h', -x_oLenL]) (lim_of (by simp; omega))
  rw [List.nil_append] at e
  rw [show ((List.range (m - 1)).map fun i => i + 2).filter (fun q => decide ((NT.prt q).length = 1)) = NT.plc m from rfl] at e
  generalize ((List.range (m - 1)).map fun i => i + 2).map natD = xs at *
  generalize (NT.plc m).map natD = ys at *
  simp [F_law_places, mkA, den_law_places, hr, e]
theorem v_places_of (m : Nat) (hm : m ≤ 60) : F_places_of [.int (m : Int)] = some (.fr ((NT.plc m).map natD)) := by
  have hr := rng2N m (by omega)
  have e := lcL_pure (t := .nm 1) (tt := ct0_places_of) (f := ce0_places_of) (vs := [1]) (ρ := [.v (.int (m : Int)), .un]) (enc := natD) (fun q => decide ((NT.prt q).length = 1)) natD (xs := (List.range (m - 1)).map fun i => i + 2) (acc := [])
    (fun q hq => by
      obtain ⟨i, hi, rfl⟩ := List.mem_map.mp hq
      have := List.mem_range.mp hi
      have e1 := v_powers_of (i + 2) (by omega)
      have hlen : oLen [.list ((NT.pw (i + 2)).map ppD)] = some (.at (.int ((NT.prt (i + 2)).length : Nat))) := by rw [x_oLenL, List.length_map, NT.prt_one (by omega)]
      unfold natD
      generalize (((i + 2 : Nat) : Int)) = qq at *
      generalize (NT.pw (i + 2)).map ppD = zs at *
      by_cases h : (NT.prt (i + 2)).length = 1
      · have h' : (((NT.prt (i + 2)).length : Nat) : Int) = 1 := by omega
        simp [lcT, ct0_places_of, ce0_places_of, e1, hlen, h, -x_oLenL]
      · have h' : ¬ (((NT.prt (i + 2)).length : Nat) : Int) = 1 := by omega
        simp [lcT, ct0_places_of, ce0_places_of, e1, hlen, h, h', -x_oLenL]) (lim_of (by simp; omega))
  rw [List.nil_append] at e
  rw [show ((List.range (m - 1)).map fun i => i + 2).filter (fun q => decide ((NT.prt q).length = 1)) = NT.plc m from rfl] at e
  generalize ((List.range (m - 1)).map fun i => i + 2).map natD = xs at *
  generalize (NT.plc m).map natD = ys at *
  simp [F_places_of, mkA, den_places_of, hr, e]
theorem v_law_built (m : Nat) (w : Nat → Int) (ps : List Nat) (hm : m ≤ 60) (hw : ∀ q, (w q).natAbs ≤ 1000000000000000) (hp : ∀ n, 1 ≤ n → n ≤ m → ∀ q ∈ NT.prt n, q ∈ ps) : F_law_built [.int (m : Int), .list (ps.map (wpD w))] = some (.fr (rowD m fun i => NT.prodW w (NT.prt (i + 1)))) := by
  have hd := pairsOf_wp w ps
  have inner : ∀ (n : Nat) (fs : List D) (c d : Cell), 1 ≤ n → n ≤ m → nl d = true → ∃ d', nl d' = true ∧ fN (.nm 6) lp0_law_built ((NT.prt n).map natD) [.v (.int (m : Int)), .v (.list (ps.map (wpD w))), .v (.dict (dkvs (dmerge (ps.map (wkv w))))), .own fs, .v (natD n), .v (.int 1), d] = .nx [.v (.int (m : Int)), .v (.list (ps.map (wpD w))), .v (.dict (dkvs (dmerge (ps.map (wkv w))))), .own fs, .v (natD n), .v (.int (NT.prodW w (NT.prt n))), d'] := by
    intro n fs c d h1 h2 hdn
    have hall := hp n h1 h2
    obtain ⟨e, hi⟩ := fN_foldI (t := .nm 6) (g := lp0_law_built) (enc := natD) (fun b : Int × Cell => [.v (.int (m : Int)), .v (.list (ps.map (wpD w))), .v (.dict (dkvs (dmerge (ps.map (wkv w))))), .own fs, .v (natD n), .v (.int b.1), b.2]) (fun b q => (b.1 * w q, .v (natD q))) (fun rest b => nl b.2 = true ∧ ∀ q ∈ rest, q ∈ ps) (xs := NT.prt n) (b := (1, d))
      (fun q rest b ⟨h1, h3⟩ => by
        refine ⟨.inl ?_, rfl, fun q hq => h3 q (List.mem_cons_of_mem _ hq)⟩
        have hcp := nl_par h1
        have hv := dval_wp w (h3 q List.mem_cons_self)
        have hml := x_oMul (i := b.1) (j := w q) (by have := hw q; omega)
        have hqd : natD q = .int (q : Int) := rfl
        rw [hqd]
        generalize dmerge (ps.map (wkv w)) = kvs at *
        generalize b.1 * w q = r at *
        generalize ps.map (wpD w) = pd at *
        generalize b.2 = c at *
        simp [fT, lp0_law_built, hv, hml, hcp])
      ⟨hdn, hall⟩
    have hf : ∀ (xs : List Nat) (b : Int × Cell), (xs.foldl (fun (b : Int × Cell) q => (b.1 * w q, Cell.v (natD q))) b).1 = xs.foldl (fun a q => a * w q) b.1 := by
      intro xs
      induction xs with
      | nil => intro b; rfl
      | cons p r ih => intro b; rw [List.foldl_cons, List.foldl_cons, ih]
    have hf := hf (NT.prt n) (1, d)
    generalize (NT.prt n).foldl (fun (b : Int × Cell) q => (b.1 * w q, Cell.v (natD q))) (1, d) = B at *
    rw [hf] at e
    exact ⟨_, hi.1, e⟩
  have hr := rngN m (by omega)
  obtain ⟨ρ', e, c4, c5, c6, h4, h5, h6, rfl⟩ := fN_range (t := .nm 4) (g := lp1_law_built) (enc := fun i : Nat => PyData.int (1 + (i : Int) * 1)) (n := m) (ρ := [.v (.int (m : Int)), .v (.list (ps.map (wpD w))), .v (.dict (dkvs (dmerge (ps.map (wkv w))))), .own [], .un, .un, .un])
    (fun k ρ => ∃ c4 c5 c6, nl c4 = true ∧ nl c5 = true ∧ nl c6 = true ∧ ρ = [.v (.int (m : Int)), .v (.list (ps.map (wpD w))), .v (.dict (dkvs (dmerge (ps.map (wkv w))))), .own (rowD k fun i => NT.prodW w (NT.prt (i + 1))), c4, c5, c6])
    ⟨.un, .un, .un, rfl, rfl, rfl, rfl⟩
    (fun k hk ρ ⟨c4, c5, c6, h4, h5, h6, e⟩ => by
      subst e
      obtain ⟨d', hd', e2⟩ := inner (k + 1) (rowD k fun i => NT.prodW w (NT.prt (i + 1))) c5 c6 (by omega) (by omega) h6
      refine ⟨[.v (.int (m : Int)), .v (.list (ps.map (wpD w))), .v (.dict (dkvs (dmerge (ps.map (wkv w))))), .own (rowD (k + 1) fun i => NT.prodW w (NT.prt (i + 1))), .v (natD (k + 1)), .v (.int (NT.prodW w (NT.prt (k + 1)))), d'], .inl ?_, _, _, _, rfl, rfl, hd', rfl⟩
      have e1 := v_law_parts (k + 1) (by omega)
      have hsm : ((rowD k fun i => NT.prodW w (NT.prt (i + 1))).length ≤ LIM) = True := eq_true (lim_of (by rw [rowD_len]; omega))
      have c4p := nl_par h4
      have c5p := nl_par h5
      rw [rowD_succ, show (1 : Int) + (k : Int) * 1 = ((k + 1 : Nat) : Int) from by omega]
      have hkd : natD (k + 1) = .int ((k + 1 : Nat) : Int) := rfl
      rw [hkd] at e2 ⊢
      generalize rowD k (fun i => NT.prodW w (NT.prt (i + 1))) = fs at *
      generalize (NT.prt (k + 1)).map natD = qs at *
      generalize NT.prodW w (NT.prt (k + 1)) = r at *
      generalize dmerge (ps.map (wkv w)) = kvs at *
      generalize ps.map (wpD w) = pd at *
      generalize ((k + 1 : Nat) : Int) = kk at *
      simp [fT, lp1_law_built, c4p, c5p, e1, e2, mAppend, hsm])
  generalize (List.range m).map (fun i : Nat => PyData.int (1 + (i : Int) * 1)) = xs at *
  generalize rowD m (fun i => NT.prodW w (NT.prt (i + 1))) = fs at *
  generalize ps.map (wkv w) = kvs at *
  generalize ps.map (wpD w) = pd at *
  simp [F_law_built, mkA, den_law_built, hd, frs1, hr, e]
theorem v_law_wholly (m : Nat) (w : Nat → Int) (ps : List Nat) (hm : m ≤ 60) (hw : ∀ q, (w q).natAbs ≤ 1000000000000000) (hp : ∀ n, 1 ≤ n → n ≤ m → ∀ q ∈ NT.lpr n, q ∈ ps) : F_law_wholly [.int (m : Int), .list (ps.map (wpD w))] = some (.fr (rowD m fun i => NT.prodW w (NT.lpr (i + 1)))) := by
  have hd := pairsOf_wp w ps
  have inner : ∀ (n : Nat) (fs : List D) (c d : Cell), 1 ≤ n → n ≤ m → nl d = true → ∃ d', nl d' = true ∧ fN (.nm 6) lp0_law_wholly ((NT.lpr n).map natD) [.v (.int (m : Int)), .v (.list (ps.map (wpD w))), .v (.dict (dkvs (dmerge (ps.map (wkv w))))), .own fs, .v (natD n), .v (.int 1), d] = .nx [.v (.int (m : Int)), .v (.list (ps.map (wpD w))), .v (.dict (dkvs (dmerge (ps.map (wkv w))))), .own fs, .v (natD n), .v (.int (NT.prodW w (NT.lpr n))), d'] := by
    intro n fs c d h1 h2 hdn
    have hall := hp n h1 h2
    obtain ⟨e, hi⟩ := fN_foldI (t := .nm 6) (g := lp0_law_wholly) (enc := natD) (fun b : Int × Cell => [.v (.int (m : Int)), .v (.list (ps.map (wpD w))), .v (.dict (dkvs (dmerge (ps.map (wkv w))))), .own fs, .v (natD n), .v (.int b.1), b.2]) (fun b q => (b.1 * w q, .v (natD q))) (fun rest b => nl b.2 = true ∧ ∀ q ∈ rest, q ∈ ps) (xs := NT.lpr n) (b := (1, d))
      (fun q rest b ⟨h1, h3⟩ => by
        refine ⟨.inl ?_, rfl, fun q hq => h3 q (List.mem_cons_of_mem _ hq)⟩
        have hcp := nl_par h1
        have hv := dval_wp w (h3 q List.mem_cons_self)
        have hml := x_oMul (i := b.1) (j := w q) (by have := hw q; omega)
        have hqd : natD q = .int (q : Int) := rfl
        rw [hqd]
        generalize dmerge (ps.map (wkv w)) = kvs at *
        generalize b.1 * w q = r at *
        generalize ps.map (wpD w) = pd at *
        generalize b.2 = c at *
        simp [fT, lp0_law_wholly, hv, hml, hcp])
      ⟨hdn, hall⟩
    have hf : ∀ (xs : List Nat) (b : Int × Cell), (xs.foldl (fun (b : Int × Cell) q => (b.1 * w q, Cell.v (natD q))) b).1 = xs.foldl (fun a q => a * w q) b.1 := by
      intro xs
      induction xs with
      | nil => intro b; rfl
      | cons p r ih => intro b; rw [List.foldl_cons, List.foldl_cons, ih]
    have hf := hf (NT.lpr n) (1, d)
    generalize (NT.lpr n).foldl (fun (b : Int × Cell) q => (b.1 * w q, Cell.v (natD q))) (1, d) = B at *
    rw [hf] at e
    exact ⟨_, hi.1, e⟩
  have hr := rngN m (by omega)
  obtain ⟨ρ', e, c4, c5, c6, h4, h5, h6, rfl⟩ := fN_range (t := .nm 4) (g := lp1_law_wholly) (enc := fun i : Nat => PyData.int (1 + (i : Int) * 1)) (n := m) (ρ := [.v (.int (m : Int)), .v (.list (ps.map (wpD w))), .v (.dict (dkvs (dmerge (ps.map (wkv w))))), .own [], .un, .un, .un])
    (fun k ρ => ∃ c4 c5 c6, nl c4 = true ∧ nl c5 = true ∧ nl c6 = true ∧ ρ = [.v (.int (m : Int)), .v (.list (ps.map (wpD w))), .v (.dict (dkvs (dmerge (ps.map (wkv w))))), .own (rowD k fun i => NT.prodW w (NT.lpr (i + 1))), c4, c5, c6])
    ⟨.un, .un, .un, rfl, rfl, rfl, rfl⟩
    (fun k hk ρ ⟨c4, c5, c6, h4, h5, h6, e⟩ => by
      subst e
      obtain ⟨d', hd', e2⟩ := inner (k + 1) (rowD k fun i => NT.prodW w (NT.lpr (i + 1))) c5 c6 (by omega) (by omega) h6
      refine ⟨[.v (.int (m : Int)), .v (.list (ps.map (wpD w))), .v (.dict (dkvs (dmerge (ps.map (wkv w))))), .own (rowD (k + 1) fun i => NT.prodW w (NT.lpr (i + 1))), .v (natD (k + 1)), .v (.int (NT.prodW w (NT.lpr (k + 1)))), d'], .inl ?_, _, _, _, rfl, rfl, hd', rfl⟩
      have e1 := v_law_primes (k + 1) (by omega)
      have hsm : ((rowD k fun i => NT.prodW w (NT.lpr (i + 1))).length ≤ LIM) = True := eq_true (lim_of (by rw [rowD_len]; omega))
      have c4p := nl_par h4
      have c5p := nl_par h5
      rw [rowD_succ, show (1 : Int) + (k : Int) * 1 = ((k + 1 : Nat) : Int) from by omega]
      have hkd : natD (k + 1) = .int ((k + 1 : Nat) : Int) := rfl
      rw [hkd] at e2 ⊢
      generalize rowD k (fun i => NT.prodW w (NT.lpr (i + 1))) = fs at *
      generalize (NT.lpr (k + 1)).map natD = qs at *
      generalize NT.prodW w (NT.lpr (k + 1)) = r at *
      generalize dmerge (ps.map (wkv w)) = kvs at *
      generalize ps.map (wpD w) = pd at *
      generalize ((k + 1 : Nat) : Int) = kk at *
      simp [fT, lp1_law_wholly, c4p, c5p, e1, e2, mAppend, hsm])
  generalize (List.range m).map (fun i : Nat => PyData.int (1 + (i : Int) * 1)) = xs at *
  generalize rowD m (fun i => NT.prodW w (NT.lpr (i + 1))) = fs at *
  generalize ps.map (wkv w) = kvs at *
  generalize ps.map (wpD w) = pd at *
  simp [F_law_wholly, mkA, den_law_wholly, hd, frs1, hr, e]
theorem Sq.at {d : D} {m : Nat} {f : Nat → Int} (h : Sq d (rowD m f)) {k : Nat} (hk : 1 ≤ k ∧ k ≤ m) : oIx d (.int ((k : Int) - 1)) = some (.at (.int (f (k - 1)))) := by
  rw [h.ix, show (k : Int) - 1 = ((k - 1 : Nat) : Int) from by omega, rowD_at f (show k - 1 < m by omega)]
  rfl
theorem Sq.at2 {d : D} {m : Nat} {f : Nat → Int} (h : Sq d (rowD m f)) {a b : Nat} (ha : 1 ≤ a) (hb : 1 ≤ b) (hk : a * b ≤ m) : oIx d (.int ((a : Int) * (b : Int) - 1)) = some (.at (.int (f (a * b - 1)))) := by
  have := h.at (k := a * b) ⟨Nat.mul_pos ha hb, hk⟩
  rwa [Int.natCast_mul] at this
theorem Sq.at0 {d : D} {m : Nat} {f : Nat → Int} (h : Sq d (rowD m f)) (hm : 1 ≤ m) : oIx d (.int 0) = some (.at (.int (f 0))) := by
  have := h.at (k := 1) ⟨Nat.le_refl _, hm⟩
  exact this
theorem mulB {x y : Int} (h : x.natAbs < 10 ^ 30) (h2 : y.natAbs < 10 ^ 30) : oMul (.int x) (.int y) = some (.at (.int (x * y))) := x_oMulB (by omega)
theorem cps_le {a b m : Nat} (ha : 2 ≤ a) (hb : 2 ≤ b) (h : a * b ≤ m) : a ≤ m ∧ b ≤ m := ⟨Nat.le_trans (Nat.le_mul_of_pos_right a (by omega)) h, Nat.le_trans (Nat.le_mul_of_pos_left b (by omega)) h⟩
theorem v_couples_to (m : Nat) (hm : m ≤ 60) : F_couples_to [.int (m : Int)] = some (.fr ((NT.cps m).map ppD)) := by
  have hr := rng2N m (by omega)
  obtain ⟨cs, ⟨c, hc, rfl⟩, e⟩ := fN_grow (t := .nm 2) (g := lp0_couples_to) (enc := natD) (fun fs cs => [.v (.int (m : Int)), .own fs] ++ cs ++ [.un]) (fun a => (NT.cpsA a m).map ppD) (fun cs => ∃ c, nl c = true ∧ cs = [c]) 60 4000 (xs := (List.range (m - 1)).map fun i => i + 2) (fs := []) (cs := [.un])
    (fun a ha => by
      obtain ⟨i, hi, rfl⟩ := List.mem_map.mp ha
      unfold NT.cpsA
      rw [List.length_map, List.length_map, List.length_range]
      have := Nat.div_le_self m (i + 2)
      omega)
    (fun a ha fs cs ⟨c, hc, e⟩ hl => by
      subst e
      obtain ⟨i, hi, rfl⟩ := List.mem_map.mp ha
      have := List.mem_range.mp hi
      refine ⟨[.v (natD (i + 2))], ⟨_, rfl, rfl⟩, .inl ?_⟩
      have hcp := nl_par hc
      have hf := x_oFdiv (i := (m : Int)) (j := ((i + 2 : Nat) : Int)) (by omega)
      have h2 := rngAm (i + 2) m (by omega) (by omega)
      have hk : (NT.cpsA (i + 2) m).length ≤ 61 := by
        unfold NT.cpsA
        rw [List.length_map, List.length_range]
        have := Nat.div_le_self m (i + 2)
        omega
      have hsm : (fs.length + ((NT.cpsA (i + 2) m).map ppD).length ≤ LIM) = True := eq_true (lim_of (by rw [List.length_map]; omega))
      have el := lcL_map (t := .nm 3) (tt := yesD) (f := ce0_couples_to) (vs := [3]) (ρ := [.v (.int (m : Int)), .own fs, .v (natD (i + 2)), .un]) (enc := natD) (fun b => ppD (i + 2, b)) (xs := (List.range (m / (i + 2) + 1 - (i + 2))).map fun t => i + 2 + t) (fun b hb => by
        unfold natD ppD
        generalize ((i + 2 : Nat) : Int) = x
        generalize (b : Int) = y
        simp [lcT, ce0_couples_to]) (lim_of (by have := Nat.div_le_self m (i + 2); simp; omega))
      have hz : ((List.range (m / (i + 2) + 1 - (i + 2))).map fun t => i + 2 + t).map (fun b => ppD (i + 2, b)) = (NT.cpsA (i + 2) m).map ppD := by
        unfold NT.cpsA
        rw [List.map_map, List.map_map]
        rfl
      rw [hz] at el
      generalize ((List.range (m / (i + 2) + 1 - (i + 2))).map fun t => i + 2 + t).map natD = xs at *
      generalize (NT.cpsA (i + 2) m).map ppD = zs at *
      unfold natD at *
      generalize ((i + 2 : Nat) : Int) = x at *
      simp [fT, lp0_couples_to, hcp, hf, h2, el, hsm])
    (by simp; omega) ⟨.un, rfl, rfl⟩
  have hz : ((List.range (m - 1)).map fun i => i + 2).flatMap (fun a => (NT.cpsA a m).map ppD) = (NT.cps m).map ppD := by
    unfold NT.cps
    rw [List.map_flatMap, List.flatMap_map]
  rw [hz, List.nil_append] at e
  have e : fN (.nm 2) lp0_couples_to (((List.range (m - 1)).map fun i => i + 2).map natD) [.v (.int (m : Int)), .own [], .un, .un] = .nx [.v (.int (m : Int)), .own ((NT.cps m).map ppD), c, .un] := e
  generalize ((List.range (m - 1)).map fun i => i + 2).map natD = xs at *
  generalize (NT.cps m).map ppD = zs at *
  simp [F_couples_to, mkA, den_couples_to, hr, e]
theorem v_fails_at {d : D} {m a b : Nat} {f : Nat → Int} (hd : Sq d (rowD m f)) (hf : ∀ k, k < m → (f k).natAbs < 10 ^ 30) (hm : m ≤ 60) (ha : 2 ≤ a) (hb : 2 ≤ b) (hab : a * b ≤ m) : F_fails_at [d, ppD (a, b)] = some (.fz (.bool (NT.G f (a, b)))) := by
  obtain ⟨la, lb⟩ := cps_le ha hb hab
  have m1 := x_oMul (i := (a : Int)) (j := (b : Int)) (by omega)
  have i1 := hd.at2 (by omega) (by omega) hab
  have i2 := hd.at (k := a) (by omega)
  have i3 := hd.at (k := b) (by omega)
  have m2 := mulB (hf (a - 1) (by omega)) (hf (b - 1) (by omega))
  show F_fails_at [d, .tuple [.int (a : Int), .int (b : Int)]] = some (.fz (.bool (!decide (f (a * b - 1) = f (a - 1) * f (b - 1)))))
  generalize f (a * b - 1) = x at *
  generalize f (a - 1) = y at *
  generalize f (b - 1) = z at *
  simp [F_fails_at, mkA, den_fails_at, m1, i1, i2, i3, m2]
theorem v_whole_breaks_of {d : D} {m : Nat} {f : Nat → Int} (hd : Sq d (rowD m f)) (hf : ∀ k, k < m → (f k).natAbs < 10 ^ 30) (hm : 1 ≤ m ∧ m ≤ 60) : F_whole_breaks_of [d] = some (.fr ((NT.wbk f m).map ppD)) := by
  have e0 := v_couples_to m hm.2
  have hlen := hd.len
  rw [rowD_len] at hlen
  have e := lcL_pure (t := .nm 1) (tt := ct0_whole_breaks_of) (f := ce0_whole_breaks_of) (vs := [1]) (ρ := [.v d, .un]) (enc := ppD) (NT.G f) ppD (xs := NT.cps m) (acc := [])
    (fun c hc => by
      obtain ⟨h1, h2, h3⟩ := NT.mem_cps.mp hc
      have e1 := v_fails_at hd hf hm.2 h1 (by omega) h3
      have e1 : F_fails_at [d, ppD c] = _ := e1
      generalize ppD c = z at *
      show lcT _ _ _ _ _ _ = some (if NT.G f (c.1, c.2) = true then some z else none, _)
      generalize NT.G f (c.1, c.2) = g at *
      cases g <;> simp [lcT, ct0_whole_breaks_of, ce0_whole_breaks_of, e1]) (lim_of (by
      have := NT.small_all (P := fun n => decide ((NT.cps n).length ≤ 80) && decide (((NT.cps n).filter NT.cop).length < 64)) NT.cps_few hm
      rw [Bool.and_eq_true, decide_eq_true_eq] at this
      simp; omega))
  rw [List.nil_append, show (NT.cps m).filter (NT.G f) = NT.wbk f m from rfl] at e
  generalize (NT.cps m).map ppD = xs at *
  generalize (NT.wbk f m).map ppD = ys at *
  simp [F_whole_breaks_of, mkA, den_whole_breaks_of, hlen, e0, e]
theorem v_breaks_of {d : D} {m : Nat} {f : Nat → Int} (hd : Sq d (rowD m f)) (hf : ∀ k, k < m → (f k).natAbs < 10 ^ 30) (hm : 1 ≤ m ∧ m ≤ 60) : F_breaks_of [d] = some (.fr ((NT.brk f m).map ppD)) := by
  have e0 := v_whole_breaks_of hd hf hm
  have e := lcL_pure (t := .nm 1) (tt := ct0_breaks_of) (f := ce0_breaks_of) (vs := [1]) (ρ := [.v d, .un]) (enc := ppD) NT.cop ppD (xs := NT.wbk f m) (acc := [])
    (fun c hc => by
      have e1 := v_share_of c.1 c.2
      show lcT _ _ _ _ _ (.tuple [.int (c.1 : Int), .int (c.2 : Int)]) = some (if NT.cop c = true then some (.tuple [.int (c.1 : Int), .int (c.2 : Int)]) else none, _)
      unfold NT.cop
      generalize (c.1 : Int) = x at *
      generalize (c.2 : Int) = y at *
      by_cases h : Nat.gcd c.1 c.2 = 1
      · rw [h] at e1
        simp [lcT, ct0_breaks_of, ce0_breaks_of, e1, h, atI, ixN]
      · have h' : ¬ ((Nat.gcd c.1 c.2 : Nat) : Int) = 1 := by omega
        simp [lcT, ct0_breaks_of, ce0_breaks_of, e1, h, h', atI, ixN]) (lim_of (by have := NT.wbk_len f hm; simp; omega))
  rw [List.nil_append, show (NT.wbk f m).filter NT.cop = NT.brk f m from rfl] at e
  generalize (NT.wbk f m).map ppD = xs at *
  generalize (NT.brk f m).map ppD = ys at *
  simp [F_breaks_of, mkA, den_breaks_of, e0, e]
/-- is a row productive, wholly so -/
def prodB (f : Nat → Int) (m : Nat) : Bool := decide (f 0 = 1) && decide (NT.brk f m = [])
def whlB (f : Nat → Int) (m : Nat) : Bool := decide (f 0 = 1) && decide (NT.wbk f m = [])
theorem v_is_productive_row {d : D} {m : Nat} {f : Nat → Int} (hd : Sq d (rowD m f)) (hf : ∀ k, k < m → (f k).natAbs < 10 ^ 30) (hm : 1 ≤ m ∧ m ≤ 60) : F_is_productive_row [d] = some (.fz (.bool (prodB f m))) := by
  have e0 := v_breaks_of hd hf hm
  have i0 := hd.at0 hm.1
  have q := pps_oEq0 (NT.brk f m)
  unfold prodB
  generalize (NT.brk f m).map ppD = xs at *
  generalize f 0 = x at *
  by_cases h : x = 1
  · simp [F_is_productive_row, mkA, den_is_productive_row, e0, i0, q, h]
  · simp [F_is_productive_row, mkA, den_is_productive_row, e0, i0, q, h]
theorem v_is_productive {d : D} {m : Nat} {f : Nat → Int} (hd : Sq d (rowD m f)) (hf : ∀ k, k < m → (f k).natAbs < 10 ^ 30) (hm : 1 ≤ m ∧ m ≤ 60) : F_is_productive [d] = some (.fz (.bool (prodB f m))) := by
  have e0 := v_want_row hd hm hf
  have e1 := v_is_productive_row hd hf hm
  generalize prodB f m = b at *
  simp [F_is_productive, mkA, den_is_productive, e0, e1]
theorem v_all_breaks {d : D} {m : Nat} {f : Nat → Int} (hd : Sq d (rowD m f)) (hf : ∀ k, k < m → (f k).natAbs < 10 ^ 30) (hm : 1 ≤ m ∧ m ≤ 60) : F_all_breaks [d] = some (.fr ((NT.brk f m).map ppD)) := by
  have e0 := v_want_row hd hm hf
  have e1 := v_breaks_of hd hf hm
  generalize (NT.brk f m).map ppD = xs at *
  simp [F_all_breaks, mkA, den_all_breaks, e0, e1]
theorem v_law_breaks {d : D} {m : Nat} {f : Nat → Int} (hd : Sq d (rowD m f)) (hf : ∀ k, k < m → (f k).natAbs < 10 ^ 30) (hm : 1 ≤ m ∧ m ≤ 60) : F_law_breaks [d] = some (.fr ((NT.brk f m).map ppD)) := by
  have hr := rng2N m (by omega)
  have hlen := hd.len
  rw [rowD_len] at hlen
  obtain ⟨cs, ⟨c1, c2, h1, h2, rfl⟩, e⟩ := fN_grow (t := .nm 2) (g := lp1_law_breaks) (enc := natD) (fun fs cs => [.v d, .own fs] ++ cs) (fun a => ((NT.cpsB a m).filter (fun c => NT.cop c && NT.G f c)).map ppD) (fun cs => ∃ c1 c2, nl c1 = true ∧ nl c2 = true ∧ cs = [c1, c2]) 60 4000 (xs := (List.range (m - 1)).map fun i => i + 2) (fs := []) (cs := [.un, .un])
    (fun a ha => by
      obtain ⟨i, hi, rfl⟩ := List.mem_map.mp ha
      rw [List.length_map]
      refine Nat.le_trans (List.length_filter_le _ _) ?_
      unfold NT.cpsB
      rw [List.length_map, List.length_range]
      have := Nat.div_le_self m (i + 2)
      omega)
    (fun a ha fs cs ⟨c1, c2, h1, h2, e⟩ hl => by
      subst e
      obtain ⟨i, hi, rfl⟩ := List.mem_map.mp ha
      have := List.mem_range.mp hi
      have hfd := x_oFdiv (i := (m : Int)) (j := ((i + 2 : Nat) : Int)) (by omega)
      have h4 := rngAm1 (i + 2) m (by omega) (by omega)
      have hdv := Nat.div_le_self m (i + 2)
      obtain ⟨cs', ⟨c', hc', rfl⟩, e⟩ := fN_grow (t := .nm 3) (g := lp0_law_breaks) (enc := natD) (fun fs cs => [.v d, .own fs, .v (natD (i + 2))] ++ cs) (fun b => if (NT.cop (i + 2, b) && NT.G f (i + 2, b)) = true then [ppD (i + 2, b)] else []) (fun cs => ∃ c, nl c = true ∧ cs = [c]) 1 5000 (xs := (List.range (m / (i + 2) + 1 - (i + 2 + 1))).map fun t => i + 2 + 1 + t) (fs := fs) (cs := [c2])
        (fun b _ => by split <;> simp)
        (fun b hb fs cs ⟨c, hc, e⟩ hl => by
          subst e
          obtain ⟨t, ht, rfl⟩ := List.mem_map.mp hb
          have hm2 := (NT.mem_cpsA (a := i + 2) (m := m) (by omega) (c := (i + 2, i + 2 + (t + 1)))).mp (by unfold NT.cpsA; exact List.mem_map.mpr ⟨t + 1, List.mem_range.mpr (by have := List.mem_range.mp ht; omega), rfl⟩)
          have hab : (i + 2) * (i + 2 + 1 + t) ≤ m := by have := hm2.2.2; rwa [show (i + 2, i + 2 + (t + 1)).2 = i + 2 + 1 + t from by show i + 2 + (t + 1) = _; omega] at this
          refine ⟨[.v (natD (i + 2 + 1 + t))], ⟨_, rfl, rfl⟩, .inl ?_⟩
          generalize hb : i + 2 + 1 + t = b at *
          have hb2 : 2 ≤ b := by omega
          clear hb
          generalize ha : i + 2 = a at *
          have ha2 : 2 ≤ a := by omega
          obtain ⟨la, lb⟩ := cps_le ha2 hb2 hab
          have m1 := x_oMul (i := (a : Int)) (j := (b : Int)) (by omega)
          have i1 := hd.at2 (by omega) (by omega) hab
          have i2 := hd.at (k := a) (by omega)
          have i3 := hd.at (k := b) (by omega)
          have m2 := mulB (hf (a - 1) (by omega)) (hf (b - 1) (by omega))
          have hcp := nl_par hc
          have hsm : (fs.length ≤ LIM) = True := eq_true (lim_of (by omega))
          show fT _ _ [.v d, .own fs, .v (.int (a : Int)), c] (.int (b : Int)) = .nx [.v d, .own (fs ++ if ((Nat.gcd a b == 1) && !decide (f (a * b - 1) = f (a - 1) * f (b - 1))) = true then [.tuple [.int (a : Int), .int (b : Int)]] else []), .v (.int (a : Int)), .v (.int (b : Int))]
          generalize f (a * b - 1) = x at *
          generalize f (a - 1) = y at *
          generalize f (b - 1) = z at *
          have e1 := v_law_share a b
          by_cases hg : Nat.gcd a b = 1
          · rw [hg] at e1 ⊢
            by_cases h : x = y * z
            · simp [fT, lp0_law_breaks, hcp, e1, m1, i1, i2, i3, m2, h]
            · simp [fT, lp0_law_breaks, hcp, e1, m1, i1, i2, i3, m2, h, mAppend, hsm]
          · have hg' : ¬ ((Nat.gcd a b : Nat) : Int) = 1 := by omega
            simp [fT, lp0_law_breaks, hcp, e1, hg, hg'])
        (by simp; omega) ⟨c2, h2, rfl⟩
      refine ⟨[.v (natD (i + 2)), c'], ⟨_, _, rfl, hc', rfl⟩, .inl ?_⟩
      have hz : ((List.range (m / (i + 2) + 1 - (i + 2 + 1))).map fun t => i + 2 + 1 + t).flatMap (fun b => if (NT.cop (i + 2, b) && NT.G f (i + 2, b)) = true then [ppD (i + 2, b)] else []) = ((NT.cpsB (i + 2) m).filter (fun c => NT.cop c && NT.G f c)).map ppD := by
        unfold NT.cpsB
        rw [flat_if, List.filter_map, List.filter_map, List.map_map, List.map_map]
        rfl
      rw [hz] at e
      have e : fN (.nm 3) lp0_law_breaks (((List.range (m / (i + 2) + 1 - (i + 2 + 1))).map fun t => i + 2 + 1 + t).map natD) [.v d, .own fs, .v (natD (i + 2)), c2] = .nx [.v d, .own (fs ++ ((NT.cpsB (i + 2) m).filter (fun c => NT.cop c && NT.G f c)).map ppD), .v (natD (i + 2)), c'] := e
      show fT _ _ [.v d, .own fs, c1, c2] (natD (i + 2)) = .nx [.v d, .own (fs ++ ((NT.cpsB (i + 2) m).filter (fun c => NT.cop c && NT.G f c)).map ppD), .v (natD (i + 2)), c']
      have hcp := nl_par h1
      generalize ((NT.cpsB (i + 2) m).filter (fun c => NT.cop c && NT.G f c)).map ppD = zs at *
      generalize ((List.range (m / (i + 2) + 1 - (i + 2 + 1))).map fun t => i + 2 + 1 + t).map natD = xs at *
      unfold natD at *
      generalize ((i + 2 : Nat) : Int) = x at *
      simp [fT, lp1_law_breaks, hcp, hlen, hfd, h4, e])
    (by simp; omega) ⟨.un, .un, rfl, rfl, rfl⟩
  have hz : ((List.range (m - 1)).map fun i => i + 2).flatMap (fun a => ((NT.cpsB a m).filter (fun c => NT.cop c && NT.G f c)).map ppD) = (NT.brk f m).map ppD := by
    rw [NT.brk_flat, List.map_flatMap, List.flatMap_map]
  rw [hz, List.nil_append] at e
  have e : fN (.nm 2) lp1_law_breaks (((List.range (m - 1)).map fun i => i + 2).map natD) [.v d, .own [], .un, .un] = .nx [.v d, .own ((NT.brk f m).map ppD), c1, c2] := e
  generalize ((List.range (m - 1)).map fun i => i + 2).map natD = xs at *
  generalize (NT.brk f m).map ppD = zs at *
  simp [F_law_breaks, mkA, den_law_breaks, hlen, hr, e]
def triD (c : Nat × Nat) : D := .tuple [.int ((c.1 : Int) * (c.2 : Int)), .int (c.1 : Int), .int (c.2 : Int)]
/-- the least break, as data -/
def leastD (bs : List (Nat × Nat)) : D := match sortT 64 (bs.map triD) with
  | .tuple [_, a, b] :: _ => .tuple [a, b]
  | _ => .none
theorem triD_ok {c : Nat × Nat} (h1 : 1 ≤ c.1) (h2 : 1 ≤ c.2) (h : c.1 * c.2 < 64) : tupOk 3 64 (triD c) = true := by
  have l1 : c.1 ≤ c.1 * c.2 := Nat.le_mul_of_pos_right _ (by omega)
  have l2 : c.2 ≤ c.1 * c.2 := Nat.le_mul_of_pos_left _ (by omega)
  have q : (c.1 : Int) * (c.2 : Int) = ((c.1 * c.2 : Nat) : Int) := (Int.natCast_mul _ _).symm
  have e : tupI (triD c) = some [(c.1 : Int) * (c.2 : Int), (c.1 : Int), (c.2 : Int)] := map_intsOf [(c.1 : Int) * (c.2 : Int), (c.1 : Int), (c.2 : Int)]
  unfold tupOk
  rw [e, q]
  simp
  omega
theorem least_cases (bs : List (Nat × Nat)) : (bs = [] ∧ sortT 64 (bs.map triD) = []) ∨ ∃ c ∈ bs, ∃ rest, sortT 64 (bs.map triD) = triD c :: rest ∧ leastD bs = ppD c := by
  cases hs : sortT 64 (bs.map triD) with
  | nil =>
    left
    have := (sortT_perm 64 (bs.map triD)).length_eq
    rw [hs, List.length_map] at this
    exact ⟨List.length_eq_zero_iff.mp this.symm, rfl⟩
  | cons x rest =>
    right
    have hx : x ∈ bs.map triD := (sortT_perm 64 (bs.map triD)).mem_iff.mp (by rw [hs]; exact List.mem_cons_self)
    obtain ⟨c, hc, rfl⟩ := List.mem_map.mp hx
    refine ⟨c, hc, rest, rfl, ?_⟩
    unfold leastD
    rw [hs]
    rfl
theorem leastD_nil : leastD [] = .none := by
  unfold leastD
  have := (sortT_perm 64 (([] : List (Nat × Nat)).map triD)).length_eq
  rw [List.length_eq_zero_iff.mp (this.trans rfl)]
theorem tri_sort {bs : List (Nat × Nat)} (hl : bs.length < 64) (h : ∀ c ∈ bs, 1 ≤ c.1 ∧ 1 ≤ c.2 ∧ c.1 * c.2 < 64) : oSortT 3 64 [.list (bs.map triD)] = some (.nl (sortT 64 (bs.map triD))) := by
  show (if (bs.map triD).length < 64 ∧ (bs.map triD).all (tupOk 3 64) = true then some (OR.nl (sortT 64 (bs.map triD))) else none) = _
  rw [if_pos]
  refine ⟨by rw [List.length_map]; exact hl, List.all_eq_true.mpr fun x hx => ?_⟩
  obtain ⟨c, hc, rfl⟩ := List.mem_map.mp hx
  obtain ⟨h1, h2, h3⟩ := h c hc
  exact triD_ok h1 h2 h3
theorem brk_ok {f : Nat → Int} {m : Nat} (hm : m ≤ 60) : ∀ c ∈ NT.brk f m, 1 ≤ c.1 ∧ 1 ≤ c.2 ∧ c.1 * c.2 < 64 := fun c hc => by
  obtain ⟨⟨⟨h1, h2, h3⟩, _⟩, _⟩ := NT.mem_brk.mp hc
  exact ⟨by omega, by omega, by omega⟩
theorem tri_elem {f : DEx} (ds : D) (c : Nat × Nat) (h : c.1 * c.2 < 64) (h1 : 1 ≤ c.1) (h2 : 1 ≤ c.2) : oMul (.int (c.1 : Int)) (.int (c.2 : Int)) = some (.at (.int ((c.1 : Int) * (c.2 : Int)))) := by
  have l1 : c.1 ≤ c.1 * c.2 := Nat.le_mul_of_pos_right _ (by omega)
  exact x_oMul (by omega)
theorem cut1 (x y z : D) : cutD [x, y, z] (some 1) none = [y, z] := cutD_from [x, y, z] 1
theorem oNe_l0 (x : D) (xs : List D) (h : (PyData.list (x :: xs)).plain = true) : oNe (.list (x :: xs)) (.list []) = some (.at (.bool true)) := by
  rw [x_oNe _ _ (.inr (by simp)) h]
  simp [PyData.eqv, PyData.eqvAll]
theorem oNe_00 : oNe (.list []) (.list []) = some (.at (.bool false)) := by
  rw [x_oNe _ _ (.inr (by simp))]
  simp [PyData.eqv, PyData.eqvAll]
theorem plainAll_mem {xs : List D} (h : ∀ x ∈ xs, x.plain = true) : PyData.plainAll xs = true := plainAll_of h
theorem tri_plain {bs : List (Nat × Nat)} {c : Nat × Nat} {rest : List D} (e : sortT 64 (bs.map triD) = triD c :: rest) : (PyData.list (triD c :: rest)).plain = true := by
  rw [x_pl_list, ← e]
  refine plainAll_of fun x hx => ?_
  obtain ⟨b, _, rfl⟩ := List.mem_map.mp ((sortT_perm 64 (bs.map triD)).mem_iff.mp hx)
  unfold triD
  simp
theorem v_least_of {bs : List (Nat × Nat)} (hl : bs.length < 64) (h : ∀ c ∈ bs, 1 ≤ c.1 ∧ 1 ≤ c.2 ∧ c.1 * c.2 < 64) : F_least_of [.list (bs.map ppD)] = some (.fz (leastD bs)) := by
  have e := lcL_map (t := .tp [(.nm 2), (.nm 3)]) (tt := yesD) (f := ce0_least_of) (vs := [2, 3]) (ρ := [.v (.list (bs.map ppD)), .un, .un, .un]) (enc := ppD) triD (xs := bs) (fun c hc => by
    obtain ⟨h1, h2, h3⟩ := h c hc
    have hm := tri_elem (f := yesD0) .none c h3 h1 h2
    unfold triD ppD
    generalize (c.1 : Int) * (c.2 : Int) = z at *
    generalize (c.1 : Int) = x at *
    generalize (c.2 : Int) = y at *
    generalize (bs.map fun x : Nat × Nat => PyData.tuple [.int (x.1 : Int), .int (x.2 : Int)]) = w at *
    simp [lcT, ce0_least_of, hm]) (lim_of (by omega))
  have hs := tri_sort hl h
  rcases least_cases bs with ⟨rfl, e0⟩ | ⟨c, hc, rest, e0, e1⟩
  · rw [leastD_nil]
    rw [e0] at hs
    rw [List.map_nil] at *
    simp [F_least_of, mkA, den_least_of, e, hs, oNe_00]
  · rw [e1]
    have hp := tri_plain e0
    have hne := oNe_l0 _ _ hp
    rw [e0] at hs
    generalize bs.map triD = ts at *
    generalize bs.map ppD = ps at *
    unfold triD at *
    unfold ppD
    have hc1 := cut1 (.int ((c.1 : Int) * (c.2 : Int))) (.int (c.1 : Int)) (.int (c.2 : Int))
    generalize (c.1 : Int) * (c.2 : Int) = z at *
    generalize (c.1 : Int) = x at *
    generalize (c.2 : Int) = y at *
    simp [F_least_of, mkA, den_least_of, e, hs, hne, hc1, atI, ixN]
theorem v_first_break {d : D} {m : Nat} {f : Nat → Int} (hd : Sq d (rowD m f)) (hf : ∀ k, k < m → (f k).natAbs < 10 ^ 30) (hm : 1 ≤ m ∧ m ≤ 60) : F_first_break [d] = some (.fz (leastD (NT.brk f m))) := by
  have e0 := v_want_row hd hm hf
  have e1 := v_breaks_of hd hf hm
  have e2 := v_least_of (NT.brk_len f hm) (brk_ok hm.2)
  generalize leastD (NT.brk f m) = z at *
  generalize (NT.brk f m).map ppD = xs at *
  simp [F_first_break, mkA, den_first_break, e0, e1, e2]
theorem v_worths_of {d : D} {m : Nat} {f : Nat → Int} (hd : Sq d (rowD m f)) (hm : 1 ≤ m ∧ m ≤ 60) : F_worths_of [d] = some (.fr ((NT.plc m).map (wpD fun p => f (p - 1)))) := by
  have e0 := v_places_of m hm.2
  have hlen := hd.len
  rw [rowD_len] at hlen
  have e := lcL_map (t := .nm 1) (tt := yesD) (f := ce0_worths_of) (vs := [1]) (ρ := [.v d, .un]) (enc := natD) (wpD fun p => f (p - 1)) (xs := NT.plc m) (fun p hp => by
    have h := (NT.mem_plc.mp hp).1
    have i1 := hd.at (k := p) (by omega)
    show lcT _ _ _ _ _ (.int (p : Int)) = some (some (.tuple [.int (p : Int), .int (f (p - 1))]), _)
    generalize f (p - 1) = x at *
    generalize (p : Int) = y at *
    simp [lcT, ce0_worths_of, i1]) (lim_of (by have := NT.plc_len m; omega))
  generalize (NT.plc m).map natD = xs at *
  generalize (NT.plc m).map (wpD fun p => f (p - 1)) = ys at *
  simp [F_worths_of, mkA, den_worths_of, hlen, e0, e]
theorem v_prime_worths {d : D} {m : Nat} {f : Nat → Int} (hd : Sq d (rowD m f)) (hf : ∀ k, k < m → (f k).natAbs < 10 ^ 30) (hm : 1 ≤ m ∧ m ≤ 60) : F_prime_worths [d] = some (.fr ((NT.plc m).map (wpD fun p => f (p - 1)))) := by
  have e0 := v_want_row hd hm hf
  have e1 := v_worths_of hd hm
  generalize (NT.plc m).map (wpD fun p => f (p - 1)) = ys at *
  simp [F_prime_worths, mkA, den_prime_worths, e0, e1]
/-- how far a row is productive -/
def ptI (f : Nat → Int) (m : Nat) : Int := minI ((m : Int) :: (NT.brk f m).map fun c => (c.1 : Int) * (c.2 : Int) - 1)
theorem v_productive_to {d : D} {m : Nat} {f : Nat → Int} (hd : Sq d (rowD m f)) (hf : ∀ k, k < m → (f k).natAbs < 10 ^ 30) (hm : 1 ≤ m ∧ m ≤ 60) : F_productive_to [d] = some (.fz (.int (if f 0 = 1 then ptI f m else 0))) := by
  have e0 := v_want_row hd hm hf
  have e1 := v_breaks_of hd hf hm
  have i0 := hd.at0 hm.1
  have hlen := hd.len
  rw [rowD_len] at hlen
  have e := lcL_map (t := .tp [(.nm 1), (.nm 2)]) (tt := yesD) (f := ce0_productive_to) (vs := [1, 2]) (ρ := [.v d, .un, .un]) (enc := ppD) (fun c : Nat × Nat => .int ((c.1 : Int) * (c.2 : Int) - 1)) (xs := NT.brk f m) (fun c hc => by
    obtain ⟨h1, h2, h3⟩ := brk_ok hm.2 c hc
    have hm := tri_elem (f := yesD0) .none c h3 h1 h2
    unfold ppD
    generalize (c.1 : Int) * (c.2 : Int) = z at *
    generalize (c.1 : Int) = x at *
    generalize (c.2 : Int) = y at *
    simp [lcT, ce0_productive_to, hm]) (lim_of (by have := NT.brk_len f hm; omega))
  have hc := x_oCat (xs := [.int (m : Int)]) (ys := (NT.brk f m).map fun c : Nat × Nat => PyData.int ((c.1 : Int) * (c.2 : Int) - 1)) (by have := NT.brk_len f hm; simp; omega)
  have hmin : oMin [.list ([.int (m : Int)] ++ (NT.brk f m).map fun c : Nat × Nat => PyData.int ((c.1 : Int) * (c.2 : Int) - 1))] = some (.at (.int (ptI f m))) := by
    have hz : ([.int (m : Int)] ++ (NT.brk f m).map fun c : Nat × Nat => PyData.int ((c.1 : Int) * (c.2 : Int) - 1)) = ((m : Int) :: (NT.brk f m).map fun c => (c.1 : Int) * (c.2 : Int) - 1).map PyData.int := by
      rw [List.map_cons, List.map_map]; rfl
    rw [hz]
    show (match intsOf (((m : Int) :: (NT.brk f m).map fun c => (c.1 : Int) * (c.2 : Int) - 1).map PyData.int) with | some (i :: is) => some (OR.at (.int (minI (i :: is)))) | _ => none) = _
    rw [map_intsOf]
    rfl
  generalize ptI f m = r at *
  generalize f 0 = x at *
  generalize (NT.brk f m).map (fun c : Nat × Nat => PyData.int ((c.1 : Int) * (c.2 : Int) - 1)) = ts at *
  generalize (NT.brk f m).map ppD = ps at *
  have hmin : oMin [.list (.int (m : Int) :: ts)] = some (.at (.int r)) := hmin
  by_cases h : x = 1
  · simp [F_productive_to, mkA, den_productive_to, e0, e1, i0, hlen, e, hc, hmin, h]
  · simp [F_productive_to, mkA, den_productive_to, e0, e1, i0, hlen, e, hc, hmin, h]
theorem v_drawn_worth {ps : List D} (hp : PotOk ps) : ∃ (i : Int) (qs : List D), F_law_drawn_worth ps [] = some (.fz (.int i), qs) ∧ i.natAbs ≤ 9 ∧ PotOk qs := by
  obtain ⟨x, qs, e1, h0, h1, hq⟩ := v_draw 19 hp (by omega)
  obtain ⟨d, rs, e2, hd, hr⟩ := v_pick (xs := [.int 0, .int 1, .int (-1), .int 2, .int 3, .int (x - 9)]) hq (by simp)
  obtain ⟨i, rfl, hi⟩ : ∃ i : Int, d = .int i ∧ i.natAbs ≤ 9 := by
    simp at hd
    rcases hd with rfl | rfl | rfl | rfl | rfl | rfl
    · exact ⟨_, rfl, by omega⟩
    · exact ⟨_, rfl, by omega⟩
    · exact ⟨_, rfl, by omega⟩
    · exact ⟨_, rfl, by omega⟩
    · exact ⟨_, rfl, by omega⟩
    · exact ⟨_, rfl, by omega⟩
  refine ⟨i, rs, ?_, hi, hr⟩
  simp [F_law_drawn_worth, mkB, den_law_drawn_worth, e1, e2]
--? den_law_row :.{0,300}F_law_draw \[\(eV 0\), \(eC \(\.int 4\)\)\]
noncomputable def tail_law_row : DSt :=
    (sSeq (sIf (eT (eBin oEq (eCallB F_law_draw [(eV 0), (eC (.int 2))]) (eC (.int 0)))) (sSeq (sSet 3 (eFz (eCallB F_law_draw [(eV 0), (eV 1)])))
    (sSet 4 (eFz (eBin oAdd (eBin oAdd (eSl (eV 4) none (some (eV 3))) (eLst [(eFz (eBin oAdd (eBin oIx (eV 4) (eV 3)) (eCallB F_law_pick [(eV 0), (eFz (eLst [(eC (.int 1)), (eNeg (eC (.int 1))), (eC (.int 2))]))])))])) (eSl (eV 4) (some (eBin oAdd (eV 3) (eC (.int 1)))) none))))) sNext)
    (sRet (eV 4)))
theorem eq_law_row : den_law_row = (sSeq (sSet 2 (eFz (eCallB F_law_draw [(eV 0), (eC (.int 4))]))) (sSeq (sIf (eT (eBin oEq (eV 2) (eC (.int 0)))) (sRet (eBin oAdd (eLst [(eFz (eCallB F_law_pick [(eV 0), (eFz (eLst [(eC (.int 1)), (eC (.int 1)), (eC (.int 1)), (eC (.int 2)), (eC (.int 0)), (eNeg (eC (.int 1)))]))]))]) (eLc (iRange [(eBin oSub (eV 1) (eC (.int 1)))]) (.nm 3) yesD ce0_law_row [3]))) sNext) (sSeq (sIf (eT (eBin oEq (eV 2) (eC (.int 1)))) (sSet 4 (eFz (eCallA F_law_wholly [] [(eV 1), (eFz (eLc (iRange [(eC (.int 2)), (eBin oAdd (eV 1) (eC (.int 1)))]) (.nm 5) ct0_law_row ce1_law_row [5]))]))) (sSet 4 (eFz (eCallA F_law_built [] [(eV 1), (eFz (eLc (iSeq (eFz (eCallA F_law_places [] [(eV 1)]))) (.nm 6) yesD ce2_law_row [6]))])))) tail_law_row))) := rfl
theorem row_tail {ps : List D} {m : Nat} {f : Nat → Int} (c : Cell) (hc : nl c = true) (hp : PotOk ps) (hm : 1 ≤ m ∧ m ≤ 60) (hf : ∀ k, (f k).natAbs ≤ 1000000) : ∃ (g : Nat → Int) (qs : List D) (ρ : DL.Env), tail_law_row [.par ps, .v (.int (m : Int)), c, .un, .v (.list (rowD m f)), .un, .un] = .rt (.fz (.list (rowD m g))) ρ ∧ ρ[(0 : Nat)]? = some (.par qs) ∧ PotOk qs ∧ ∀ k, (g k).natAbs ≤ 1000002 := by
  obtain ⟨x, qs, e1, h0, h1, hq⟩ := v_draw 2 hp (by omega)
  by_cases h : x = 0
  · subst h
    obtain ⟨a, rs, e2, a0, a1, hr⟩ := v_draw (m : Int) hq (by omega)
    obtain ⟨a, rfl⟩ : ∃ n : Nat, a = (n : Int) := ⟨a.toNat, by omega⟩
    obtain ⟨d, ts, e3, hd, ht⟩ := v_pick (xs := [.int 1, .int (-1), .int 2]) hr (by simp)
    obtain ⟨v, rfl, hv⟩ : ∃ i : Int, d = .int i ∧ i.natAbs ≤ 2 := by
      simp at hd
      rcases hd with rfl | rfl | rfl
      · exact ⟨_, rfl, by omega⟩
      · exact ⟨_, rfl, by omega⟩
      · exact ⟨_, rfl, by omega⟩
    have ha : a < m := by omega
    refine ⟨fun j => if j = a then f a + v else f j, ts, [.par ts, .v (.int (m : Int)), c, .v (.int (a : Int)), .v (.list (rowD m fun j => if j = a then f a + v else f j)), .un, .un], ?_, rfl, ht, fun k => by
      have := hf k
      have := hf a
      show (if k = a then f a + v else f k).natAbs ≤ _
      split <;> omega⟩
    have i1 := rowD_at f ha
    have c1 : cutD (rowD m f) none (some (a : Int)) = (rowD m f).take a := cutD_take _ _
    have c2 : cutD (rowD m f) (some ((a : Int) + 1)) none = (rowD m f).drop (a + 1) := cutD_from _ (a + 1)
    have hs : (rowD m f).take a ++ [.int (f a + v)] ++ (rowD m f).drop (a + 1) = rowD m fun j => if j = a then f a + v else f j := by
      rw [← rowD_set, List.set_eq_take_append_cons_drop, if_pos (by rw [rowD_len]; exact ha), List.append_assoc]
      rfl
    have k1 := x_oCat (xs := (rowD m f).take a) (ys := [.int (f a + v)]) (by simp [rowD_len]; omega)
    have k2 := x_oCat (xs := (rowD m f).take a ++ [.int (f a + v)]) (ys := (rowD m f).drop (a + 1)) (by simp [rowD_len]; omega)
    rw [hs] at k2
    have hcp := nl_par hc
    generalize (rowD m fun j => if j = a then f a + v else f j) = out at *
    generalize (rowD m f).take a = xs at *
    generalize (rowD m f).drop (a + 1) = ys at *
    generalize rowD m f = zs at *
    generalize (a : Int) = aa at *
    generalize (m : Int) = mm at *
    generalize f a = fa at *
    simp [tail_law_row, e1, e2, e3, i1, c1, c2, k1, k2]
  · refine ⟨f, qs, [.par qs, .v (.int (m : Int)), c, .un, .v (.list (rowD m f)), .un, .un], ?_, rfl, hq, fun k => by have := hf k; omega⟩
    generalize rowD m f = zs at *
    simp [tail_law_row, e1, h]
theorem v_rowM {ps : List D} (m : Nat) (hp : PotOk ps) (hm : 1 ≤ m ∧ m ≤ 60) : ∃ (f : Nat → Int) (qs : List D) (r : RV), F_law_row ps [.int (m : Int)] = some (r, qs) ∧ (r = .fr (rowD m f) ∨ r = .fz (.list (rowD m f))) ∧ (∀ k, (f k).natAbs ≤ 1000002) ∧ PotOk qs := by
  obtain ⟨x, qs, e, h0, h1, hq⟩ := v_draw 4 hp (by omega)
  by_cases hx0 : x = 0
  · subst hx0
    obtain ⟨d, rs, e1, hd, hr⟩ := v_pick (xs := [.int 1, .int 1, .int 1, .int 2, .int 0, .int (-1)]) hq (by simp)
    obtain ⟨v, rfl, hv⟩ : ∃ i : Int, d = .int i ∧ i.natAbs ≤ 9 := by
      simp at hd
      rcases hd with rfl | rfl | rfl | rfl
      · exact ⟨_, rfl, by omega⟩
      · exact ⟨_, rfl, by omega⟩
      · exact ⟨_, rfl, by omega⟩
      · exact ⟨_, rfl, by omega⟩
    obtain ⟨ys, ρ', e2, hl, hy, ts, ht, rfl⟩ := lcL_inv (t := .nm 3) (tt := yesD) (f := ce0_law_row) (vs := [3]) (fun ρ => ∃ rs, PotOk rs ∧ ρ = [.par rs, .v (.int (m : Int)), .v (.int 0), .un, .un, .un, .un]) (fun d => ∃ i : Int, d = .int i ∧ i.natAbs ≤ 9) (ds := rngD 0 1 (m - 1)) (ρ := [.par rs, .v (.int (m : Int)), .v (.int 0), .un, .un, .un, .un]) (acc := [])
      (fun d _ ρ ⟨rs, hr, e⟩ => by
        subst e
        obtain ⟨i, ts, e3, h0, ht⟩ := v_drawn_worth hr
        refine ⟨.int i, [.par ts, .v (.int (m : Int)), .v (.int 0), .un, .un, .un, .un], ?_, ⟨_, rfl, h0⟩, ts, ht, rfl⟩
        simp [lcT, ce0_law_row, e3])
      ⟨rs, hr, rfl⟩ (lim_of (by unfold rngD; simp; omega))
    obtain ⟨xs, rfl, hxs⟩ := ints_of hy
    rw [List.nil_append] at e2
    have hlen : xs.length = m - 1 := by unfold rngD at hl; simpa using hl
    have hr1 := x_rng1 (j := (m : Int) - 1) (by omega)
    rw [show ((m : Int) - 1).toNat = m - 1 from by omega] at hr1
    have er : [PyData.int v] ++ xs.map PyData.int = rowD m fun a => (v :: xs).getD a 0 := by
      have := rowD_of (v :: xs)
      rw [List.map_cons, List.length_cons, hlen, show m - 1 + 1 = m from by omega] at this
      exact this
    have k1 := x_oCat (xs := [.int v]) (ys := xs.map PyData.int) (by simp; omega)
    rw [er] at k1
    refine ⟨fun a => (v :: xs).getD a 0, ts, .fr (rowD m fun a => (v :: xs).getD a 0), ?_, .inl rfl, fun k => ?_, ht⟩
    · generalize (rowD m fun a => (v :: xs).getD a 0) = out at *
      generalize xs.map PyData.int = zs at *
      generalize rngD 0 1 (m - 1) = ws at *
      simp [F_law_row, mkB, eq_law_row, e, e1, hr1, e2, k1]
    · by_cases hk : k < (v :: xs).length
      · have := getD_all (P := fun i => i.natAbs ≤ 9) (xs := v :: xs) (fun y hy => by
          rcases List.mem_cons.mp hy with z | z
          · rw [z]; exact hv
          · exact hxs y z) hk
        show ((v :: xs).getD k 0).natAbs ≤ _
        omega
      · show ((v :: xs).getD k 0).natAbs ≤ _
        rw [List.getD_eq_getElem?_getD, List.getElem?_eq_none (by omega)]; decide
  · by_cases hx1 : x = 1
    · subst hx1
      have hr := rng2N m (by omega)
      obtain ⟨ys, ρ', e2, hy, ts, ht, rfl⟩ := lcL_two (t := .nm 5) (tt := ct0_law_row) (f := ce1_law_row) (vs := [5]) (enc := natD) (fun ρ => ∃ rs, PotOk rs ∧ ρ = [.par rs, .v (.int (m : Int)), .v (.int 1), .un, .un, .un, .un]) (fun q => decide (NT.lpr q = [q])) (fun p d => ∃ i : Int, d = .tuple [natD p, .int i] ∧ i.natAbs ≤ 9) (as := (List.range (m - 1)).map fun i => i + 2) (ρ := [.par qs, .v (.int (m : Int)), .v (.int 1), .un, .un, .un, .un]) (acc := [])
        (fun q hq ρ ⟨rs, hr, e⟩ => by
          subst e
          obtain ⟨i, hi, rfl⟩ := List.mem_map.mp hq
          have := List.mem_range.mp hi
          have e1 := v_law_primes (i + 2) (by omega)
          have q1 := natL_oEq (NT.lpr (i + 2)) [i + 2]
          obtain ⟨v, ts, e3, h0, ht⟩ := v_drawn_worth hr
          by_cases h : NT.lpr (i + 2) = [i + 2]
          · refine ⟨some (.tuple [natD (i + 2), .int v]), [.par ts, .v (.int (m : Int)), .v (.int 1), .un, .un, .un, .un], ?_, ⟨ts, ht, rfl⟩, .inl ⟨decide_eq_true h, _, rfl, v, rfl, h0⟩⟩
            rw [h] at e1 q1
            rw [List.map_cons, List.map_nil] at e1 q1
            have hz : PyData.int ((i + 2 : Nat) : Int) = natD (i + 2) := rfl
            rw [hz] at e1
            rw [decide_eq_true rfl] at q1
            generalize natD (i + 2) = z at *
            simp [lcT, ct0_law_row, ce1_law_row, e1, q1, e3]
          · refine ⟨none, [.par rs, .v (.int (m : Int)), .v (.int 1), .un, .un, .un, .un], ?_, ⟨rs, hr, rfl⟩, .inr ⟨decide_eq_false h, rfl⟩⟩
            rw [List.map_cons, List.map_nil] at q1
            have hz : PyData.int ((i + 2 : Nat) : Int) = natD (i + 2) := rfl
            rw [hz] at e1
            rw [decide_eq_false h] at q1
            generalize natD (i + 2) = z at *
            generalize (NT.lpr (i + 2)).map natD = zs at *
            simp [lcT, ct0_law_row, ce1_law_row, e1, q1])
        ⟨qs, hq, rfl⟩ (lim_of (by simp; omega))
      have hp2 : ((List.range (m - 1)).map fun i => i + 2).filter (fun q => decide (NT.lpr q = [q])) = NT.prs m := rfl
      rw [hp2] at hy
      obtain ⟨w, rfl, hw⟩ := wp_of (NT.prs_nodup m) hy
      have e3 := v_law_wholly m w (NT.prs m) hm.2 (fun q => by have := hw q; omega) (fun n h1 h2 q hq => NT.prime_place hm.2 ⟨h1, h2⟩ hq)
      have hlen : ((NT.prs m).map (wpD w)).length ≤ LIM := lim_of (by rw [List.length_map]; have := NT.prs_len m; omega)
      obtain ⟨g, rs, ρ, e4, e5, hrs, hg⟩ := row_tail (f := fun i => if i < m then NT.prodW w (NT.lpr (i + 1)) else 0) (.v (.int 1)) rfl ht hm (fun k => by
        show (if k < m then NT.prodW w (NT.lpr (k + 1)) else 0).natAbs ≤ _
        split
        · exact Nat.le_trans (NT.prodW_le w (B := 9) (L := 5) (by omega) hw (NT.lpr_len (by omega))) (by decide)
        · decide)
      rw [show rowD m (fun i => if i < m then NT.prodW w (NT.lpr (i + 1)) else 0) = rowD m fun i => NT.prodW w (NT.lpr (i + 1)) from rowD_congr fun i hi => if_pos hi] at e4
      refine ⟨g, rs, _, ?_, .inr rfl, hg, hrs⟩
      rw [List.nil_append] at e2
      generalize (NT.prs m).map (wpD w) = wd at *
      generalize (rowD m fun i => NT.prodW w (NT.lpr (i + 1))) = zs at *
      generalize ((List.range (m - 1)).map fun i => i + 2).map natD = xs at *
      generalize rowD m g = out at *
      simp [F_law_row, mkB, eq_law_row, e, hr, e2, e3, e4, e5]
    · have hx2 : ¬ x = 1 := hx1
      have e1 := v_law_places m hm.2
      obtain ⟨ys, ρ', e2, hy, ts, ht, rfl⟩ := lcL_two (t := .nm 6) (tt := yesD) (f := ce2_law_row) (vs := [6]) (enc := natD) (fun ρ => ∃ rs, PotOk rs ∧ ρ = [.par rs, .v (.int (m : Int)), .v (.int x), .un, .un, .un, .un]) (fun q => true) (fun p d => ∃ i : Int, d = .tuple [natD p, .int i] ∧ i.natAbs ≤ 9) (as := NT.plc m) (ρ := [.par qs, .v (.int (m : Int)), .v (.int x), .un, .un, .un, .un]) (acc := [])
        (fun q hq ρ ⟨rs, hr, e⟩ => by
          subst e
          obtain ⟨v, ts, e3, h0, ht⟩ := v_drawn_worth hr
          refine ⟨some (.tuple [natD q, .int v]), [.par ts, .v (.int (m : Int)), .v (.int x), .un, .un, .un, .un], ?_, ⟨ts, ht, rfl⟩, .inl ⟨rfl, _, rfl, v, rfl, h0⟩⟩
          generalize natD q = z at *
          simp [lcT, ce2_law_row, e3])
        ⟨qs, hq, rfl⟩ (lim_of (by have := NT.plc_len m; simp; omega))
      have hp2 : (NT.plc m).filter (fun q => true) = NT.plc m := List.filter_eq_self.mpr fun _ _ => rfl
      rw [hp2] at hy
      obtain ⟨w, rfl, hw⟩ := wp_of (NT.plc_nodup m) hy
      have e3 := v_law_built m w (NT.plc m) hm.2 (fun q => by have := hw q; omega) (fun n h1 h2 q hq => NT.part_place hm.2 ⟨h1, h2⟩ hq)
      have hlen : ((NT.plc m).map (wpD w)).length ≤ LIM := lim_of (by rw [List.length_map]; have := NT.plc_len m; omega)
      obtain ⟨g, rs, ρ, e4, e5, hrs, hg⟩ := row_tail (f := fun i => if i < m then NT.prodW w (NT.prt (i + 1)) else 0) (.v (.int x)) rfl ht hm (fun k => by
        show (if k < m then NT.prodW w (NT.prt (k + 1)) else 0).natAbs ≤ _
        split
        · exact Nat.le_trans (NT.prodW_le w (B := 9) (L := 5) (by omega) hw (NT.prt_len (by omega))) (by decide)
        · decide)
      rw [show rowD m (fun i => if i < m then NT.prodW w (NT.prt (i + 1)) else 0) = rowD m fun i => NT.prodW w (NT.prt (i + 1)) from rowD_congr fun i hi => if_pos hi] at e4
      refine ⟨g, rs, _, ?_, .inr rfl, hg, hrs⟩
      rw [List.nil_append] at e2
      generalize (NT.plc m).map (wpD w) = wd at *
      generalize (rowD m fun i => NT.prodW w (NT.prt (i + 1))) = zs at *
      generalize (NT.plc m).map natD = xs at *
      generalize rowD m g = out at *
      simp [F_law_row, mkB, eq_law_row, e, hx0, hx2, e1, e2, e3, e4, e5]
theorem v_power_ofI (b : Int) (k : Nat) (hb : b.natAbs ≤ 2 ^ 60) (hk : k ≤ 1000000) : F_power_of [.int b, .int (k : Int)] = some (.fz (.int (b ^ k))) := by
  have hr := x_rng1 (j := (k : Int)) (by omega)
  rw [Int.toNat_natCast, rngD_map] at hr
  obtain ⟨ρ', e, c, hc, rfl⟩ := fN_range (t := .nm 3) (g := lp0_power_of) (enc := fun i : Nat => PyData.int (0 + (i : Int) * 1)) (n := k) (ρ := [.v (.int b), .v (.int (k : Int)), .v (.int 1), .un])
    (fun j ρ => ∃ c, nl c = true ∧ ρ = [.v (.int b), .v (.int (k : Int)), .v (.int (b ^ j)), c])
    ⟨.un, rfl, by rw [Int.pow_zero]⟩
    (fun j hj ρ ⟨c, hc, e⟩ => by
      subst e
      have m := x_oMul (i := b ^ j) (j := b) (by omega)
      rw [← Int.pow_succ] at m
      refine ⟨[.v (.int b), .v (.int (k : Int)), .v (.int (b ^ (j + 1))), .v (.int (0 + (j : Int) * 1))], .inl ?_, _, rfl, rfl⟩
      have hcp := nl_par hc
      generalize b ^ j = q at *
      generalize b ^ (j + 1) = r at *
      simp [fT, lp0_power_of, m, hcp])
  generalize (List.range k).map (fun i : Nat => PyData.int (0 + (i : Int) * 1)) = xs at *
  generalize b ^ k = r at *
  simp [F_power_of, mkA, den_power_of, hr, e]
theorem pw_small60 {n : Nat} (hn : 1 ≤ n ∧ n ≤ 60) {x : Nat × Nat} (h : x ∈ NT.pw n) : x.1 ≤ 60 ∧ x.2 ≤ 60 := by
  have := NT.pw_small (by omega) h
  omega
theorem pw_len60 {n : Nat} (hn : 1 ≤ n ∧ n ≤ 60) : (NT.pw n).length ≤ 5 := by
  rw [← NT.prt_one hn]; exact NT.prt_len hn
theorem v_worth_by (n : Nat) (w : Nat → Int) (ps : List Nat) (hn : 1 ≤ n ∧ n ≤ 60) (hw : ∀ q, (w q).natAbs ≤ 10 ^ 30) (hp : ∀ q ∈ NT.prt n, q ∈ ps) : F_worth_by [.dict (dkvs (dmerge (ps.map (wkv w)))), .int (n : Int)] = some (.fz (.int (NT.prodW w (NT.prt n)))) := by
  have e0 := v_powers_of n (by omega)
  obtain ⟨e, hi⟩ := fN_foldI (t := .tp [.nm 3, .nm 4]) (g := lp0_worth_by) (enc := ppD) (fun b : Int × Cell × Cell => [.v (.dict (dkvs (dmerge (ps.map (wkv w))))), .v (.int (n : Int)), .v (.int b.1), b.2.1, b.2.2]) (fun b x => (b.1 * w (x.1 ^ x.2), .v (natD x.1), .v (natD x.2))) (fun rest b => nl b.2.1 = true ∧ nl b.2.2 = true ∧ (∀ x ∈ rest, x ∈ NT.pw n) ∧ ∃ k, k + rest.length ≤ 60 ∧ b.1.natAbs ≤ (10 ^ 30) ^ k) (xs := NT.pw n) (b := (1, .un, .un))
    (fun x rest b ⟨h1, h2, h3, k, h4, h5⟩ => by
      have hx := h3 x List.mem_cons_self
      obtain ⟨s1, s2⟩ := pw_small60 hn hx
      have hq : x.1 ^ x.2 ∈ NT.prt n := by rw [← NT.pw_prt hn]; exact List.mem_map.mpr ⟨x, hx, rfl⟩
      have hv := dval_wp w (hp _ hq)
      have hwx := hw (x.1 ^ x.2)
      have p5 := Nat.mul_le_mul h5 hwx
      rw [← Nat.pow_succ] at p5
      rw [List.length_cons] at h4
      refine ⟨.inl ?_, rfl, rfl, fun y hy => h3 y (List.mem_cons_of_mem _ hy), k + 1, by omega, by
        show (b.1 * w (x.1 ^ x.2)).natAbs ≤ _
        rw [Int.natAbs_mul]; exact p5⟩
      have e1 := v_power_of x.1 x.2 (by omega) (by omega)
      have hbig : (10 ^ 30) ^ k < 2 ^ 8000 := Nat.lt_of_le_of_lt (Nat.pow_le_pow_right (by decide) (show k ≤ 60 by omega)) (by decide +kernel)
      have hbig2 : 10 ^ 30 < 2 ^ 8000 := by decide +kernel
      have hml := x_oMulK (i := b.1) (j := w (x.1 ^ x.2)) (K := 8000) (by omega) ⟨Nat.lt_of_le_of_lt h5 hbig, Nat.lt_of_le_of_lt hwx hbig2⟩
      have c1 := nl_par h1
      have c2 := nl_par h2
      show fT _ _ [_, _, _, b.2.1, b.2.2] (.tuple [.int (x.1 : Int), .int (x.2 : Int)]) = .nx [_, _, _, .v (.int (x.1 : Int)), .v (.int (x.2 : Int))]
      clear h5 p5 hbig hbig2 hwx
      generalize hz : x.1 ^ x.2 = z at *
      generalize b.1 * w z = r at *
      generalize dmerge (ps.map (wkv w)) = kvs at *
      generalize b.1 = b1 at *
      generalize b.2.1 = b21 at *
      generalize b.2.2 = b22 at *
      simp [fT, lp0_worth_by, e1, hv, hml, c1, c2])
    ⟨rfl, rfl, fun _ h => h, 0, by
      have := pw_len60 hn
      omega, by simp⟩
  have hf : ∀ (xs : List (Nat × Nat)) (b : Int × Cell × Cell), (xs.foldl (fun (b : Int × Cell × Cell) x => (b.1 * w (x.1 ^ x.2), Cell.v (natD x.1), Cell.v (natD x.2))) b).1 = xs.foldl (fun a x => a * w (x.1 ^ x.2)) b.1 := by
    intro xs
    induction xs with
    | nil => intro b; rfl
    | cons p r ih => intro b; rw [List.foldl_cons, List.foldl_cons, ih]
  have hf := hf (NT.pw n) (1, .un, .un)
  rw [NT.prod_parts w hn] at hf
  generalize (NT.pw n).foldl (fun (b : Int × Cell × Cell) x => (b.1 * w (x.1 ^ x.2), Cell.v (natD x.1), Cell.v (natD x.2))) (1, .un, .un) = B at *
  rw [hf] at e
  generalize dkvs (dmerge (ps.map (wkv w))) = kvs at *
  generalize NT.prodW w (NT.prt n) = r at *
  generalize (NT.pw n).map ppD = xs at *
  simp [F_worth_by, mkA, den_worth_by, e0, e]
theorem v_built_of {d : D} (m : Nat) (w : Nat → Int) (ps : List Nat) (hd : Sq d (ps.map (wpD w))) (hm : m ≤ 60) (hw : ∀ q, (w q).natAbs ≤ 10 ^ 30) (hp : ∀ n, 1 ≤ n → n ≤ m → ∀ q ∈ NT.prt n, q ∈ ps) : F_built_of [.int (m : Int), d] = some (.fr (rowD m (NT.bltF w))) := by
  have hr := rngN m (by omega)
  have hpo := pairsOf_wp w ps
  have e := lcL_map (t := .nm 3) (tt := yesD) (f := ce0_built_of) (vs := [3]) (ρ := [.v (.int (m : Int)), .v d, .v (.dict (dkvs (dmerge (ps.map (wkv w))))), .un]) (enc := fun i : Nat => PyData.int (1 + (i : Int) * 1)) (fun i => .int (NT.bltF w i)) (xs := List.range m) (fun i hi => by
    have := List.mem_range.mp hi
    have e1 := v_worth_by (i + 1) w ps (by omega) hw (hp (i + 1) (by omega) (by omega))
    rw [show (1 : Int) + (i : Int) * 1 = ((i + 1 : Nat) : Int) from by omega]
    show lcT _ _ _ _ _ _ = some (some (.int (NT.prodW w (NT.prt (i + 1)))), _)
    generalize NT.prodW w (NT.prt (i + 1)) = r at *
    generalize ((i + 1 : Nat) : Int) = z at *
    generalize dmerge (ps.map (wkv w)) = kvs at *
    simp [lcT, ce0_built_of, e1]) (lim_of (by simp; omega))
  have hol : oList [d] = some (.nl (ps.map (wpD w))) := by rcases hd with rfl | rfl <;> simp
  rw [show (List.range m).map (fun i => PyData.int (NT.bltF w i)) = rowD m (NT.bltF w) from rfl] at e
  generalize rowD m (NT.bltF w) = out at *
  generalize (List.range m).map (fun i : Nat => PyData.int (1 + (i : Int) * 1)) = xs at *
  generalize ps.map (wkv w) = kvs at *
  generalize ps.map (wpD w) = pd at *
  simp [F_built_of, mkA, den_built_of, hol, hpo, hr, e]
theorem aw_part (c0 c1 : Cell) (x y : Int) (c2 : D) : lcL (.nm 3) yesD ce0_are_worths [3] [.int x, .int y] [c0, c1, .v c2, .un] [] = some ([.bool true, .bool true], [c0, c1, .v c2, .un]) := by
  have e1 := v_is_integer x
  have e2 := v_is_integer y
  have l0 : ([] : List D).length ≤ LIM := lim_of (by simp)
  have l1 : ([PyData.bool true] : List D).length ≤ LIM := lim_of (by simp)
  have t : ∀ i : Int, F_is_integer [.int i] = some (.fz (.bool true)) → lcT (.nm 3) yesD ce0_are_worths [3] [c0, c1, .v c2, .un] (.int i) = some (some (.bool true), [c0, c1, .v c2, .un]) := fun i h => by simp [lcT, ce0_are_worths, h]
  rw [lcL_turn (hl := l0), t x e1]
  show lcL _ _ _ _ _ _ [PyData.bool true] = _
  rw [lcL_turn (hl := l1), t y e2]
  rfl
theorem v_are_worths {d : D} (w : Nat → Int) (qs : List Nat) (hd : Sq d (qs.map (wpD w))) (hl : qs.length ≤ 1000) (hw : ∀ q ∈ qs, (w q).natAbs < 10 ^ 30) : F_are_worths [.list (qs.map natD), d] = some (.fz (.bool true)) := by
  have e1 := lcL_map (t := .nm 2) (tt := yesD) (f := ce1_are_worths) (vs := [2]) (ρ := [.v (.list (qs.map natD)), .v d, .un, .un]) (enc := wpD w) (fun _ => .bool true) (xs := qs) (fun q _ => by
    show lcT _ _ _ _ _ (.tuple [.int (q : Int), .int (w q)]) = _
    have e := aw_part (.v (.list (qs.map natD))) (.v d) (q : Int) (w q) (.tuple [.int (q : Int), .int (w q)])
    have ha : oAll [.list [.bool true, .bool true]] = some (.at (.bool true)) := rfl
    generalize (q : Int) = x at *
    generalize w q = y at *
    generalize qs.map natD = z at *
    simp [lcT, ce1_are_worths, e, ha, tyN]) (lim_of (by omega))
  have e2 := lcL_map (t := .nm 2) (tt := yesD) (f := ce2_are_worths) (vs := [2]) (ρ := [.v (.list (qs.map natD)), .v d, .un, .un]) (enc := wpD w) natD (xs := qs) (fun q _ => by
    show lcT _ _ _ _ _ (.tuple [.int (q : Int), .int (w q)]) = some (some (.int (q : Int)), _)
    generalize (q : Int) = x at *
    generalize w q = y at *
    generalize qs.map natD = z at *
    simp [lcT, ce2_are_worths, atI, ixN]) (lim_of (by omega))
  have e3 := lcL_map (t := .nm 2) (tt := yesD) (f := ce3_are_worths) (vs := [2]) (ρ := [.v (.list (qs.map natD)), .v d, .un, .un]) (enc := wpD w) (fun _ => .bool true) (xs := qs) (fun q hq => by
    show lcT _ _ _ _ _ (.tuple [.int (q : Int), .int (w q)]) = _
    have := hw q hq
    have h1 : (-1000000000000000000000000000000 : Int) < w q := by omega
    have h2 : w q < (1000000000000000000000000000000 : Int) := by omega
    generalize (q : Int) = x at *
    generalize w q = y at *
    generalize qs.map natD = z at *
    simp [lcT, ce3_are_worths, atI, ixN, h1, h2]) (lim_of (by omega))
  have ha := all_bools (fun _ => true) qs
  rw [show qs.all (fun _ => true) = true by simp] at ha
  have hq := natL_oEq qs qs
  rw [decide_eq_true rfl] at hq
  have hl1 := hd.len
  have hit := hd.it
  have h0 : F_is_list [d] = some (.fz (.bool true)) := by
    rcases hd with rfl | rfl
    · exact v_is_listL _
    · exact v_is_listT _
  have hl2 : oLen [.list (qs.map natD)] = some (.at (.int (((qs.map (wpD w)).length : Nat) : Int))) := by rw [x_oLenL, List.length_map, List.length_map]
  clear hd
  generalize (((qs.map (wpD w)).length : Nat) : Int) = L at *
  generalize qs.map (fun _ => PyData.bool true) = bs at *
  generalize qs.map natD = zs at *
  generalize qs.map (wpD w) = ws at *
  simp [F_are_worths, mkA, den_are_worths, h0, hl1, hl2, hit, e1, e2, e3, ha, hq, -x_oLenL]
theorem v_productive_part {d : D} {m : Nat} {f : Nat → Int} (hd : Sq d (rowD m f)) (hf : ∀ k, k < m → (f k).natAbs < 10 ^ 30) (hm : 1 ≤ m ∧ m ≤ 60) : F_productive_part [d] = some (.fr (rowD m (NT.bltF fun p => f (p - 1)))) := by
  have e0 := v_want_row hd hm hf
  have e1 := v_worths_of hd hm
  have hlen := hd.len
  rw [rowD_len] at hlen
  have ew : (NT.plc m).map (wpD fun p => f (p - 1)) = (NT.plc m).map (wpD fun p => if p - 1 < m then f (p - 1) else 0) := List.map_congr_left fun q hq => by
    have := (NT.mem_plc.mp hq).1
    unfold wpD
    show PyData.tuple [natD q, .int (f (q - 1))] = .tuple [natD q, .int (if q - 1 < m then f (q - 1) else 0)]
    rw [if_pos (by omega)]
  have er : rowD m (NT.bltF fun p => f (p - 1)) = rowD m (NT.bltF fun p => if p - 1 < m then f (p - 1) else 0) := rowD_congr fun i hi => NT.prodW_congr fun q hq => by
    have := (NT.mem_plc.mp (NT.part_place hm.2 (n := i + 1) (by omega) hq)).1
    show f (q - 1) = if q - 1 < m then f (q - 1) else 0
    rw [if_pos (by omega)]
  have e2 := v_built_of m (fun p => if p - 1 < m then f (p - 1) else 0) (NT.plc m) (Sq.l _) hm.2 (fun q => by
    show (if q - 1 < m then f (q - 1) else 0).natAbs ≤ _
    split
    · exact Nat.le_of_lt (hf _ (by assumption))
    · exact Nat.zero_le _) (fun n h1 h2 q hq => NT.part_place hm.2 ⟨h1, h2⟩ hq)
  rw [ew] at e1
  rw [er]
  generalize rowD m (NT.bltF fun p => if p - 1 < m then f (p - 1) else 0) = out at *
  generalize (NT.plc m).map (wpD fun p => if p - 1 < m then f (p - 1) else 0) = ws at *
  simp [F_productive_part, mkA, den_productive_part, e0, hlen, e1, e2]
theorem part_selfV {f : Nat → Int} {m : Nat} (hm : 1 ≤ m ∧ m ≤ 60) : ((List.range m).all fun i => decide (NT.bltF (fun p => f (p - 1)) i = f i)) = prodB f m := by
  cases hp : prodB f m with
  | true =>
    unfold prodB at hp
    rw [Bool.and_eq_true, decide_eq_true_eq, decide_eq_true_eq] at hp
    refine List.all_eq_true.mpr fun i hi => decide_eq_true ?_
    have := List.mem_range.mp hi
    have h := NT.brk_built hm.2 hp.1 hp.2 (i + 1) (i + 1) (Nat.le_refl _) (by omega) (by omega)
    exact h.symm
  | false =>
    refine Bool.eq_false_iff.mpr fun hall => ?_
    have hall : ∀ i, i < m → NT.bltF (fun p => f (p - 1)) i = f i := fun i hi => of_decide_eq_true (List.all_eq_true.mp hall i (List.mem_range.mpr hi))
    have h0 : f 0 = 1 := by rw [← hall 0 (by omega), NT.bltF_zero]
    have hb : NT.brk f m = NT.brk (NT.bltF fun p => f (p - 1)) m := by
      unfold NT.brk NT.wbk
      congr 1
      refine List.filter_congr fun c hc => ?_
      obtain ⟨h1, h2, h3⟩ := NT.mem_cps.mp hc
      have hc1 := cps_le h1 (show 2 ≤ c.2 by omega) h3
      have hpos : 1 ≤ c.1 * c.2 := Nat.mul_pos (by omega) (by omega)
      unfold NT.G
      rw [hall (c.1 * c.2 - 1) (by omega), hall (c.1 - 1) (by omega), hall (c.2 - 1) (by omega)]
    unfold prodB at hp
    rw [decide_eq_true h0, hb, NT.blt_brk _ hm.2] at hp
    cases hp
theorem v_is_worded (s : PySem.Str) (x : D) : F_is_worded [.tuple [.str s, x]] = some (.fz (.bool true)) := by
  simp [F_is_worded, mkA, den_is_worded, tyN, atI, ixN]
theorem v_is_first {d : D} {m : Nat} {f : Nat → Int} (hd : Sq d (rowD m f)) (hm : 1 ≤ m) : F_is_first [d, .int (f 0)] = some (.fz (.bool (!decide (f 0 = 1)))) := by
  have i0 := hd.at0 hm
  have e := v_is_integer (f 0)
  generalize f 0 = x at *
  by_cases h : x = 1
  · subst h; simp [F_is_first, mkA, den_is_first, e, i0]
  · simp [F_is_first, mkA, den_is_first, e, i0, h]
theorem cpl_part (c0 : Cell) (a b : Nat) (ha : 2 ≤ a) (hb : 2 ≤ b) (c : D) : lcL (.nm 2) yesD ce0_is_couple [2] [.int (a : Int), .int (b : Int)] [c0, .v c, .un] [] = some ([.bool true, .bool true], [c0, .v c, .un]) := by
  have l0 : ([] : List D).length ≤ LIM := lim_of (by simp)
  have l1 : ([PyData.bool true] : List D).length ≤ LIM := lim_of (by simp)
  have t : ∀ i : Nat, 2 ≤ i → lcT (.nm 2) yesD ce0_is_couple [2] [c0, .v c, .un] (.int (i : Int)) = some (some (.bool true), [c0, .v c, .un]) := fun i h => by
    have e := v_is_count (i : Int)
    rw [decide_eq_true (show (0 : Int) ≤ (i : Int) by omega)] at e
    have h' : (1 : Int) < (i : Int) := by omega
    simp [lcT, ce0_is_couple, e, h']
  rw [lcL_turn (hl := l0), t a ha]
  show lcL _ _ _ _ _ _ [PyData.bool true] = _
  rw [lcL_turn (hl := l1), t b hb]
  rfl
theorem v_is_couple {d : D} {m a b : Nat} {f : Nat → Int} (hd : Sq d (rowD m f)) (hm : m ≤ 60) (ha : 2 ≤ a) (hb : 2 ≤ b) (hab : a * b ≤ m) : F_is_couple [d, .tuple [.int (a : Int), .int (b : Int)]] = some (.fz (.bool true)) := by
  obtain ⟨la, lb⟩ := cps_le ha hb hab
  have e := cpl_part (.v d) a b ha hb (.tuple [.int (a : Int), .int (b : Int)])
  have m1 := x_oMul (i := (a : Int)) (j := (b : Int)) (by omega)
  have hl := hd.len
  rw [rowD_len] at hl
  have q : (a : Int) * (b : Int) ≤ (m : Int) := by rw [← Int.natCast_mul]; omega
  have hall : oAll [.list [.bool true, .bool true]] = some (.at (.bool true)) := rfl
  generalize (a : Int) * (b : Int) = p at *
  generalize (a : Int) = x at *
  generalize (b : Int) = y at *
  simp [F_is_couple, mkA, den_is_couple, tyN, e, hall, m1, hl, q, atI, ixN]
theorem v_is_broken_at {d : D} {m : Nat} {f : Nat → Int} {c : Nat × Nat} (hd : Sq d (rowD m f)) (hf : ∀ k, k < m → (f k).natAbs < 10 ^ 30) (hm : 1 ≤ m ∧ m ≤ 60) (hc : c ∈ NT.wbk f m) : F_is_broken_at [d, ppD c] = some (.fz (.bool (decide (f 0 = 1)))) := by
  obtain ⟨⟨h1, h2, h3⟩, hG⟩ := NT.mem_wbk.mp hc
  have i0 := hd.at0 hm.1
  have e1 := v_is_couple hd hm.2 h1 (show 2 ≤ c.2 by omega) h3
  have e2 := v_fails_at hd hf hm.2 h1 (show 2 ≤ c.2 by omega) h3
  have e1 : F_is_couple [d, ppD c] = _ := e1
  have e2 : F_fails_at [d, ppD c] = some (.fz (.bool (NT.G f c))) := e2
  rw [hG] at e2
  generalize ppD c = z at *
  generalize f 0 = x at *
  by_cases h : x = 1 <;> simp [F_is_broken_at, mkA, den_is_broken_at, i0, e1, e2, h]
/-- the paper of a row -/
def firstP (f : Nat → Int) : D := .tuple [.str "first", .int (f 0)]
def worthsP (f : Nat → Int) (m : Nat) : D := .tuple [.str "worths", .tuple ((NT.plc m).map (wpD fun p => f (p - 1)))]
def breakP (x : D) : D := .tuple [.str "break", x]
def paperD (f : Nat → Int) (m : Nat) : D := if f 0 = 1 then (if NT.brk f m = [] then worthsP f m else breakP (leastD (NT.brk f m))) else firstP f
theorem s_fw : oEq (.str "first") (.str "worths") = some (.at (.bool false)) := by rw [x_oEqS]; rfl
theorem s_bw : oEq (.str "break") (.str "worths") = some (.at (.bool false)) := by rw [x_oEqS]; rfl
theorem s_bf : oEq (.str "break") (.str "first") = some (.at (.bool false)) := by rw [x_oEqS]; rfl
theorem s_ww : oEq (.str "worths") (.str "worths") = some (.at (.bool true)) := by rw [x_oEqS]; rfl
theorem s_ff : oEq (.str "first") (.str "first") = some (.at (.bool true)) := by rw [x_oEqS]; rfl
theorem s_bb : oEq (.str "break") (.str "break") = some (.at (.bool true)) := by rw [x_oEqS]; rfl
theorem s_fb : oEq (.str "first") (.str "break") = some (.at (.bool false)) := by rw [x_oEqS]; rfl
theorem s_wb : oEq (.str "worths") (.str "break") = some (.at (.bool false)) := by rw [x_oEqS]; rfl
/-- the least break's product is the least -/
theorem least_min {bs : List (Nat × Nat)} (h : ∀ c ∈ bs, 1 ≤ c.1 ∧ 1 ≤ c.2 ∧ c.1 * c.2 < 64) {c : Nat × Nat} {rest : List D} (e : sortT 64 (bs.map triD) = triD c :: rest) : ∀ b ∈ bs, c.1 * c.2 ≤ b.1 * b.2 := by
  have code : ∀ x : Nat × Nat, tupC 64 (triD x) = ((x.1 * x.2 : Nat) : Int) * 4096 + (x.1 : Int) * 64 + (x.2 : Int) := fun x => by
    have ei : tupI (triD x) = some [(x.1 : Int) * (x.2 : Int), (x.1 : Int), (x.2 : Int)] := map_intsOf [(x.1 : Int) * (x.2 : Int), (x.1 : Int), (x.2 : Int)]
    unfold tupC
    rw [ei]
    show (x.1 : Int) * (x.2 : Int) * 64 ^ 2 + ((x.1 : Int) * 64 ^ 1 + ((x.2 : Int) * 64 ^ 0 + 0)) = _
    rw [Int.natCast_mul]
    omega
  intro b hb
  have hs := sortT_sorted 64 (bs.map triD)
  rw [e] at hs
  have hin : triD b ∈ triD c :: rest := by rw [← e]; exact (sortT_perm 64 (bs.map triD)).mem_iff.mpr (List.mem_map.mpr ⟨b, hb, rfl⟩)
  have hle : tupC 64 (triD c) ≤ tupC 64 (triD b) := by
    rcases List.mem_cons.mp hin with z | z
    · rw [z]; exact Int.le_refl _
    · exact (List.pairwise_cons.mp hs).1 _ z
  rw [code, code] at hle
  have hcin : triD c ∈ bs.map triD := (sortT_perm 64 (bs.map triD)).mem_iff.mp (by rw [e]; exact List.mem_cons_self)
  obtain ⟨c', hc', ec⟩ := List.mem_map.mp hcin
  have e1 : c' = c := by
    unfold triD at ec
    injection ec with ec
    have h1 := (List.cons.inj (List.cons.inj ec).2).1
    have h2 := (List.cons.inj (List.cons.inj (List.cons.inj ec).2).2).1
    injection h1 with h1
    injection h2 with h2
    exact Prod.ext (by omega) (by omega)
  rw [e1] at hc'
  obtain ⟨b1, b2, b3⟩ := h b hb
  obtain ⟨c1, c2, c3⟩ := h c hc'
  have l1 : b.1 ≤ b.1 * b.2 := Nat.le_mul_of_pos_right _ (by omega)
  have l2 : b.2 ≤ b.1 * b.2 := Nat.le_mul_of_pos_left _ (by omega)
  omega
theorem least_full (f : Nat → Int) {m : Nat} (hm : m ≤ 60) (hne : NT.brk f m ≠ []) : ∃ c ∈ NT.brk f m, leastD (NT.brk f m) = ppD c ∧ (∀ b ∈ NT.brk f m, c.1 * c.2 ≤ b.1 * b.2) ∧ ∃ rest, sortT 64 ((NT.brk f m).map triD) = triD c :: rest := by
  rcases least_cases (NT.brk f m) with ⟨h, _⟩ | ⟨c, hc, rest, e, e1⟩
  · exact absurd h hne
  · exact ⟨c, hc, e1, least_min (brk_ok hm) e, rest, e⟩
theorem v_product_paper_of {d : D} {m : Nat} {f : Nat → Int} (hd : Sq d (rowD m f)) (hf : ∀ k, k < m → (f k).natAbs < 10 ^ 30) (hm : 1 ≤ m ∧ m ≤ 60) : F_product_paper_of [d] = some (.fz (paperD f m)) := by
  have i0 := hd.at0 hm.1
  have e1 := v_breaks_of hd hf hm
  have e2 := v_least_of (NT.brk_len f hm) (brk_ok hm.2)
  have e3 := v_worths_of hd hm
  unfold paperD firstP worthsP breakP
  by_cases h0 : f 0 = 1
  · rw [if_pos h0]
    rw [h0] at i0
    by_cases hb : NT.brk f m = []
    · rw [if_pos hb]
      rw [hb, leastD_nil] at e2
      rw [hb] at e1
      rw [List.map_nil] at e1 e2
      generalize (NT.plc m).map (wpD fun p => f (p - 1)) = ws at *
      simp [F_product_paper_of, mkA, den_product_paper_of, i0, e1, e2, e3]
    · rw [if_neg hb]
      obtain ⟨c, hc, e4, _⟩ := least_full f hm.2 hb
      rw [e4] at e2 ⊢
      generalize (NT.brk f m).map ppD = bs at *
      unfold ppD at *
      simp [F_product_paper_of, mkA, den_product_paper_of, i0, e1, e2]
  · rw [if_neg h0]
    generalize f 0 = x at *
    simp [F_product_paper_of, mkA, den_product_paper_of, i0, h0]
theorem v_product_paper {d : D} {m : Nat} {f : Nat → Int} (hd : Sq d (rowD m f)) (hf : ∀ k, k < m → (f k).natAbs < 10 ^ 30) (hm : 1 ≤ m ∧ m ≤ 60) : F_product_paper [d] = some (.fz (paperD f m)) := by
  have e0 := v_want_row hd hm hf
  have e1 := v_product_paper_of hd hf hm
  generalize paperD f m = z at *
  simp [F_product_paper, mkA, den_product_paper, e0, e1]
theorem v_pp_first {d : D} {m : Nat} {f : Nat → Int} (hd : Sq d (rowD m f)) (hf : ∀ k, k < m → (f k).natAbs < 10 ^ 30) (hm : 1 ≤ m ∧ m ≤ 60) : F_is_product_paper [d, firstP f] = some (.fz (.bool (!decide (f 0 = 1)))) := by
  have e0 := v_want_row hd hm hf
  have e1 := v_is_worded "first" (.int (f 0))
  have e2 := v_is_first hd hm.1
  have q1 := s_fw
  have q2 := s_ff
  unfold firstP
  generalize (!decide (f 0 = 1)) = b at *
  generalize f 0 = x at *
  simp [F_is_product_paper, mkA, den_is_product_paper, e0, e1, e2, q1, q2, atI, ixN, -x_oEqS]
theorem v_pp_worths {d : D} {m : Nat} {f : Nat → Int} (hd : Sq d (rowD m f)) (hf : ∀ k, k < m → (f k).natAbs < 10 ^ 30) (hm : 1 ≤ m ∧ m ≤ 60) : F_is_product_paper [d, worthsP f m] = some (.fz (.bool (prodB f m))) := by
  have e0 := v_want_row hd hm hf
  have e1 := v_is_worded "worths" (.tuple ((NT.plc m).map (wpD fun p => f (p - 1))))
  have hlen := hd.len
  rw [rowD_len] at hlen
  have e2 := v_places_of m hm.2
  have e3 := v_are_worths (d := .tuple ((NT.plc m).map (wpD fun p => f (p - 1)))) (fun p => f (p - 1)) (NT.plc m) (Sq.t _) (by have := NT.plc_len m; omega) (fun q hq => by have := (NT.mem_plc.mp hq).1; exact hf _ (by omega))
  have hol : oList [d] = some (.nl (rowD m f)) := by rcases hd with rfl | rfl <;> simp
  have ew : (NT.plc m).map (wpD fun p => f (p - 1)) = (NT.plc m).map (wpD fun p => if p - 1 < m then f (p - 1) else 0) := List.map_congr_left fun q hq => by
    have := (NT.mem_plc.mp hq).1
    unfold wpD
    show PyData.tuple [natD q, .int (f (q - 1))] = .tuple [natD q, .int (if q - 1 < m then f (q - 1) else 0)]
    rw [if_pos (by omega)]
  have er : rowD m (NT.bltF fun p => if p - 1 < m then f (p - 1) else 0) = rowD m (NT.bltF fun p => f (p - 1)) := rowD_congr fun i hi => NT.prodW_congr fun q hq => by
    have := (NT.mem_plc.mp (NT.part_place hm.2 (n := i + 1) (by omega) hq)).1
    show (if q - 1 < m then f (q - 1) else 0) = f (q - 1)
    rw [if_pos (by omega)]
  have e4 := v_built_of m (fun p => if p - 1 < m then f (p - 1) else 0) (NT.plc m) (Sq.t _) hm.2 (fun q => by
    show (if q - 1 < m then f (q - 1) else 0).natAbs ≤ _
    split
    · exact Nat.le_of_lt (hf _ (by assumption))
    · exact Nat.zero_le _) (fun n h1 h2 q hq => NT.part_place hm.2 ⟨h1, h2⟩ hq)
  rw [← ew, er] at e4
  have z := rowD_oEqG m (NT.bltF fun p => f (p - 1)) f
  rw [part_selfV hm] at z
  have q1 := s_ww
  unfold worthsP
  clear ew er hd
  generalize prodB f m = b at *
  generalize rowD m (NT.bltF fun p => f (p - 1)) = out at *
  generalize rowD m f = row at *
  generalize (NT.plc m).map (wpD fun p => f (p - 1)) = ws at *
  generalize (NT.plc m).map natD = xs at *
  simp [F_is_product_paper, mkA, den_is_product_paper, e0, e1, hlen, e2, e3, hol, e4, z, q1, atI, ixN, -x_oEqS]
theorem v_pp_break {d : D} {m : Nat} {f : Nat → Int} {c : Nat × Nat} (hd : Sq d (rowD m f)) (hf : ∀ k, k < m → (f k).natAbs < 10 ^ 30) (hm : 1 ≤ m ∧ m ≤ 60) (hc : c ∈ NT.brk f m) : F_is_product_paper [d, breakP (ppD c)] = some (.fz (.bool (decide (f 0 = 1)))) := by
  have e0 := v_want_row hd hm hf
  have e1 := v_is_worded "break" (ppD c)
  obtain ⟨h1, h2⟩ := List.mem_filter.mp hc
  have e2 := v_is_broken_at hd hf hm h1
  have e3 := v_share_of c.1 c.2
  rw [show Nat.gcd c.1 c.2 = 1 from by unfold NT.cop at h2; exact beq_iff_eq.mp h2] at e3
  have q1 := s_bw
  have q2 := s_bf
  have q3 := s_bb
  unfold breakP ppD at *
  generalize (c.1 : Int) = x at *
  generalize (c.2 : Int) = y at *
  by_cases h : f 0 = 1
  · rw [decide_eq_true h] at e2 ⊢
    simp [F_is_product_paper, mkA, den_is_product_paper, e0, e1, e2, e3, q1, q2, q3, atI, ixN, -x_oEqS]
  · rw [decide_eq_false h] at e2 ⊢
    simp [F_is_product_paper, mkA, den_is_product_paper, e0, e1, e2, e3, q1, q2, q3, atI, ixN, -x_oEqS]
--? def den_law_paper :.{0,600}F_law_breaks
theorem v_law_paper {m : Nat} {f : Nat → Int} (hf : ∀ k, k < m → (f k).natAbs < 10 ^ 30) (hm : 1 ≤ m ∧ m ≤ 60) : F_law_paper [.list (rowD m f)] = some (.fz (paperD f m)) := by
  have i0 := (Sq.l (rowD m f)).at0 hm.1
  have e1 := v_law_breaks (Sq.l (rowD m f)) hf hm
  have hlen : oLen [.list (rowD m f)] = some (.at (.int (m : Int))) := by rw [x_oLenL, rowD_len]
  have e2 := v_law_places m hm.2
  unfold paperD firstP worthsP breakP
  by_cases h0 : f 0 = 1
  · rw [if_pos h0]
    rw [h0] at i0
    have el := lcL_map (t := .tp [(.nm 2), (.nm 3)]) (tt := yesD) (f := ce0_law_paper) (vs := [2, 3]) (ρ := [.v (.list (rowD m f)), .un, .un, .un, .un]) (enc := ppD) triD (xs := NT.brk f m) (fun c hc => by
      obtain ⟨h1, h2, h3⟩ := brk_ok hm.2 c hc
      have hm := tri_elem (f := yesD0) .none c h3 h1 h2
      show lcT _ _ _ _ _ (.tuple [.int (c.1 : Int), .int (c.2 : Int)]) = some (some (.tuple [.int ((c.1 : Int) * (c.2 : Int)), .int (c.1 : Int), .int (c.2 : Int)]), _)
      generalize (c.1 : Int) * (c.2 : Int) = z at *
      generalize (c.1 : Int) = x at *
      generalize (c.2 : Int) = y at *
      generalize rowD m f = w at *
      simp [lcT, ce0_law_paper, hm]) (lim_of (by have := NT.brk_len f hm; omega))
    have hs := tri_sort (NT.brk_len f hm) (brk_ok hm.2)
    by_cases hb : NT.brk f m = []
    · rw [if_pos hb]
      have e0 : sortT 64 ((NT.brk f m).map triD) = [] := by
        rcases least_cases (NT.brk f m) with ⟨_, e⟩ | ⟨c, hc, _⟩
        · exact e
        · rw [hb] at hc; cases hc
      rw [e0] at hs
      have ew := lcL_map (t := .nm 4) (tt := yesD) (f := ce1_law_paper) (vs := [4]) (ρ := [.v (.list (rowD m f)), .v (.list []), .un, .un, .un]) (enc := natD) (wpD fun p => f (p - 1)) (xs := NT.plc m) (fun p hp => by
        have h := (NT.mem_plc.mp hp).1
        have i1 := (Sq.l (rowD m f)).at (k := p) (by omega)
        show lcT _ _ _ _ _ (.int (p : Int)) = some (some (.tuple [.int (p : Int), .int (f (p - 1))]), _)
        generalize f (p - 1) = x at *
        generalize (p : Int) = y at *
        generalize rowD m f = u at *
        simp [lcT, ce1_law_paper, i1, -x_oIxL]) (lim_of (by have := NT.plc_len m; omega))
      generalize (NT.plc m).map (wpD fun p => f (p - 1)) = ws at *
      generalize (NT.brk f m).map triD = ts at *
      generalize (NT.brk f m).map ppD = bs at *
      generalize (NT.plc m).map natD = xs at *
      generalize rowD m f = row at *
      simp [F_law_paper, mkA, den_law_paper, i0, e1, el, hs, oNe_00, hlen, e2, ew, -x_oLenL, -x_oIxL]
    · rw [if_neg hb]
      obtain ⟨c, hc, e4, _, rest, e0⟩ := least_full f hm.2 hb
      rw [e4]
      have hne := oNe_l0 _ _ (tri_plain e0)
      rw [e0] at hs
      have j0 : oIx (.list (triD c :: rest)) (.int 0) = some (.at (triD c)) := by rw [x_oIxL, atI_pos (by simp)]; rfl
      clear hc e4 e0
      generalize (NT.brk f m).map triD = ts at *
      generalize (NT.brk f m).map ppD = bs at *
      generalize rowD m f = row at *
      have hc1 := cut1 (.int ((c.1 : Int) * (c.2 : Int))) (.int (c.1 : Int)) (.int (c.2 : Int))
      unfold triD at *
      unfold ppD
      generalize (c.1 : Int) * (c.2 : Int) = z at *
      generalize (c.1 : Int) = x at *
      generalize (c.2 : Int) = y at *
      simp [F_law_paper, mkA, den_law_paper, i0, e1, el, hs, hne, hc1, j0, -x_oIxL]
  · rw [if_neg h0]
    generalize rowD m f = row at *
    generalize f 0 = x at *
    simp [F_law_paper, mkA, den_law_paper, i0, h0, -x_oIxL]
end Law
namespace Law
open PySem PySem.Spec PyProof.Rows L2 DL
abbrev Bd (f : Nat → Int) : Prop := ∀ k, (f k).natAbs ≤ 1000000000
theorem Bd.l {f : Nat → Int} (h : Bd f) {m : Nat} : ∀ k, k < m → (f k).natAbs < 10 ^ 30 := fun k _ => by have := h k; omega
theorem row_tx {m : Nat} {f : Nat → Int} (hm : m ≤ 60) (h : ∀ i, i < m → (f i).natAbs < 10 ^ 60) : Tx (.list (rowD m f)) 1 4000 := (rowD_txB h).mono (Nat.le_refl _) (by omega)
theorem brk_tx (f : Nat → Int) {m : Nat} (hm : 1 ≤ m ∧ m ≤ 60) : Tx (.list ((NT.brk f m).map ppD)) 2 5000 := (pps_tx (fun c hc => by
  obtain ⟨h1, h2, h3⟩ := brk_ok hm.2 c hc
  have l1 : c.1 ≤ c.1 * c.2 := Nat.le_mul_of_pos_right _ (by omega)
  have l2 : c.2 ≤ c.1 * c.2 := Nat.le_mul_of_pos_left _ (by omega)
  omega) (Nat.le_of_lt (NT.brk_len f hm))).mono (Nat.le_refl _) (by omega)
theorem wbk_tx (f : Nat → Int) {m : Nat} (hm : 1 ≤ m ∧ m ≤ 60) : Tx (.list ((NT.wbk f m).map ppD)) 2 5000 := (pps_tx (fun c hc => by
  obtain ⟨⟨h1, h2, h3⟩, _⟩ := NT.mem_wbk.mp hc
  have l1 : c.1 ≤ c.1 * c.2 := Nat.le_mul_of_pos_right _ (by omega)
  have l2 : c.2 ≤ c.1 * c.2 := Nat.le_mul_of_pos_left _ (by omega)
  omega) (NT.wbk_len f hm)).mono (Nat.le_refl _) (by omega)
theorem ppD_tx {c : Nat × Nat} (h : c.1 ≤ 1000000 ∧ c.2 ≤ 1000000) : Tx (ppD c) 1 49 := Tx.tuple (k := 0) (m := 21) 2 (fun z hz => by
  simp at hz
  rcases hz with rfl | rfl
  · exact Tx.int (by omega)
  · exact Tx.int (by omega)) (by simp)
theorem least_tx (f : Nat → Int) {m : Nat} (hm : 1 ≤ m ∧ m ≤ 60) : Tx (leastD (NT.brk f m)) 1 49 := by
  rcases least_cases (NT.brk f m) with ⟨hb, _⟩ | ⟨c, hc, _, _, e⟩
  · rw [hb, leastD_nil]; exact Tx.none.mono (by omega) (by omega)
  · rw [e]
    obtain ⟨h1, h2, h3⟩ := brk_ok hm.2 c hc
    have l1 : c.1 ≤ c.1 * c.2 := Nat.le_mul_of_pos_right _ (by omega)
    have l2 : c.2 ≤ c.1 * c.2 := Nat.le_mul_of_pos_left _ (by omega)
    exact ppD_tx (by omega)
theorem wps_tx {w : Nat → Int} {xs : List Nat} (hx : ∀ x ∈ xs, x ≤ 1000000) (hw : ∀ q ∈ xs, (w q).natAbs < 10 ^ 60) (hl : xs.length ≤ 60) : Tx (.list (xs.map (wpD w))) 2 8000 :=
  (Tx.list (k := 1) (m := 129) 60 (fun d hd => by
    obtain ⟨q, hq, rfl⟩ := List.mem_map.mp hd
    have := hx q hq
    exact Tx.tuple (k := 0) (m := 61) 2 (fun z hz => by
      simp at hz
      rcases hz with rfl | rfl
      · exact (Tx.int (by omega)).mono (Nat.le_refl _) (by omega)
      · exact Tx.intB (hw q hq)) (by simp)) (by rw [List.length_map]; exact hl)).mono (Nat.le_refl _) (by omega)
theorem plc_tx {m : Nat} (hm : m ≤ 60) : Tx (.list ((NT.plc m).map natD)) 1 (3 + 10000 * 23) := nats_tx (fun d hd => by have := (NT.mem_plc.mp hd).1; omega) (by have := NT.plc_len m; omega)
theorem wps_eqv (w : Nat → Int) : ∀ xs : List Nat, PyData.eqvAll (xs.map (wpD w)) (xs.map (wpD w)) = true
  | [] => by rw [List.map_nil, PyData.eqvAll]
  | x :: xs => by
    rw [List.map_cons, eqvAll_cons, wps_eqv w xs]
    unfold wpD natD
    simp
theorem wps_dep (w : Nat → Int) : ∀ xs : List Nat, PyData.depthAll (xs.map (wpD w)) ≤ 1
  | [] => by simp
  | x :: xs => by
    rw [List.map_cons, x_dep_cons]
    have := wps_dep w xs
    unfold wpD natD at *
    simp
    omega
theorem wps_pl (w : Nat → Int) (xs : List Nat) : (PyData.list (xs.map (wpD w))).plain = true := by
  rw [x_pl_list]
  refine plainAll_of fun x hx => ?_
  obtain ⟨b, _, rfl⟩ := List.mem_map.mp hx
  unfold wpD natD
  simp
theorem wps_oEq (w : Nat → Int) (xs : List Nat) : oEq (.list (xs.map (wpD w))) (.list (xs.map (wpD w))) = some (.at (.bool true)) := by
  rw [x_oEq _ _ (.inl (by rw [PyData.depth]; have := wps_dep w xs; omega)) (wps_pl w xs) (wps_pl w xs), eqv_list, wps_eqv]
theorem wps_oNe (w : Nat → Int) (xs : List Nat) : oNe (.list (xs.map (wpD w))) (.list (xs.map (wpD w))) = some (.at (.bool false)) := by
  rw [x_oNe _ _ (.inl (by rw [PyData.depth]; have := wps_dep w xs; omega)) (wps_pl w xs) (wps_pl w xs), eqv_list, wps_eqv]
  rfl
theorem prt_few : ((List.range 60).all fun i => decide ((NT.prt (i + 1)).length ≤ 3)) = true := by decide +kernel
theorem blt_b {w : Nat → Int} {B : Nat} (hB : 1 ≤ B) (hw : ∀ q, (w q).natAbs ≤ B) {m : Nat} (hm : m ≤ 60) : ∀ i, i < m → (NT.bltF w i).natAbs ≤ B ^ 3 := fun i hi =>
  NT.prodW_le w hB hw (of_decide_eq_true (NT.small_all (P := fun n => decide ((NT.prt n).length ≤ 3)) prt_few (n := i + 1) (by omega)))
theorem blt_prodB (w : Nat → Int) {m : Nat} (hm : m ≤ 60) : prodB (NT.bltF w) m = true := by
  unfold prodB
  rw [NT.bltF_zero, NT.blt_brk w hm]
  rfl
theorem blt_worths (w : Nat → Int) {m : Nat} (hm : m ≤ 60) : (NT.plc m).map (wpD fun p => NT.bltF w (p - 1)) = (NT.plc m).map (wpD w) := List.map_congr_left fun q hq => by
  unfold wpD
  show PyData.tuple [natD q, .int (NT.bltF w (q - 1))] = _
  rw [NT.blt_place w hm hq]
theorem str_tx (s : PySem.Str) (h : s.length ≤ 10) (h2 : PyData.showable (.str s) = true) (h3 : ((PyData.str s).shown).length ≤ 40) : Tx (.str s) 0 40 := ⟨h2, by rw [PyData.hasDict], by simp, h3⟩
theorem word_tx : Tx (.str "first") 0 40 ∧ Tx (.str "worths") 0 40 ∧ Tx (.str "break") 0 40 := ⟨str_tx _ (by decide) (by decide +kernel) (by decide +kernel), str_tx _ (by decide) (by decide +kernel) (by decide +kernel), str_tx _ (by decide) (by decide +kernel) (by decide +kernel)⟩
theorem wpsT_tx {w : Nat → Int} {xs : List Nat} (hx : ∀ x ∈ xs, x ≤ 1000000) (hw : ∀ q ∈ xs, (w q).natAbs < 10 ^ 60) (hl : xs.length ≤ 60) : Tx (.tuple (xs.map (wpD w))) 2 8000 :=
  (Tx.tuple (k := 1) (m := 129) 60 (fun d hd => by
    obtain ⟨q, hq, rfl⟩ := List.mem_map.mp hd
    have := hx q hq
    exact Tx.tuple (k := 0) (m := 61) 2 (fun z hz => by
      simp at hz
      rcases hz with rfl | rfl
      · exact (Tx.int (by omega)).mono (Nat.le_refl _) (by omega)
      · exact Tx.intB (hw q hq)) (by simp)) (by rw [List.length_map]; exact hl)).mono (Nat.le_refl _) (by omega)
theorem two_tx {a b : D} {k n : Nat} (ha : Tx a k n) (hb : Tx b k n) : Tx (.tuple [a, b]) (k + 1) (3 + 2 * (n + 2)) := Tx.tuple 2 (fun z hz => by
  simp at hz
  rcases hz with rfl | rfl
  · exact ha
  · exact hb) (by simp)
theorem paper_tx {f : Nat → Int} {m : Nat} (hm : 1 ≤ m ∧ m ≤ 60) (hf : Bd f) : Tx (paperD f m) 3 20000 := by
  unfold paperD
  split
  · split
    · exact (two_tx (word_tx.2.1.mono (show 0 ≤ 2 by omega) (show 40 ≤ 8000 by omega)) (wpsT_tx (w := fun p => f (p - 1)) (xs := NT.plc m) (fun q hq => by have := (NT.mem_plc.mp hq).1; omega) (fun q _ => by have := hf (q - 1); omega) (by have := NT.plc_len m; omega))).mono (by omega) (by omega)
    · exact (two_tx (word_tx.2.2.mono (show 0 ≤ 1 by omega) (show 40 ≤ 49 by omega)) (least_tx f hm)).mono (by omega) (by omega)
  · exact (two_tx word_tx.1 ((Tx.int (i := f 0) (by have := hf 0; omega)).mono (Nat.le_refl _) (show 21 ≤ 40 by omega))).mono (by omega) (by omega)
/-- the three kinds -/
theorem paper_cases (f : Nat → Int) {m : Nat} (hm : m ≤ 60) : (f 0 ≠ 1 ∧ prodB f m = false ∧ paperD f m = firstP f) ∨ (f 0 = 1 ∧ NT.brk f m = [] ∧ prodB f m = true ∧ paperD f m = worthsP f m) ∨
    (f 0 = 1 ∧ prodB f m = false ∧ ∃ c ∈ NT.brk f m, leastD (NT.brk f m) = ppD c ∧ (∀ b ∈ NT.brk f m, c.1 * c.2 ≤ b.1 * b.2) ∧ paperD f m = breakP (ppD c)) := by
  by_cases h0 : f 0 = 1
  · by_cases hb : NT.brk f m = []
    · refine .inr (.inl ⟨h0, hb, ?_, ?_⟩)
      · unfold prodB; rw [decide_eq_true h0, decide_eq_true hb]; rfl
      · unfold paperD; rw [if_pos h0, if_pos hb]
    · obtain ⟨c, hc, e, hmin, _⟩ := least_full f hm hb
      refine .inr (.inr ⟨h0, ?_, c, hc, e, hmin, ?_⟩)
      · unfold prodB; rw [decide_eq_false hb, Bool.and_false]
      · unfold paperD; rw [if_pos h0, if_neg hb, e]
  · refine .inl ⟨h0, ?_, ?_⟩
    · unfold prodB; rw [decide_eq_false h0, Bool.false_and]
    · unfold paperD; rw [if_neg h0]
theorem s0 (c0 c4 c5 c6 c7 c8 c9 c10 c11 : Cell) (m : Nat) (f : Nat → Int) (hm : 1 ≤ m ∧ m ≤ 60) (hf : Bd f) : st0_law_row_right [c0, .v (.list (rowD m f)), .un, .un, c4, c5, c6, c7, c8, c9, c10, c11] = .nx [c0, .v (.list (rowD m f)), .v (paperD f m), .v (.str (PyData.shown (.list (rowD m f)))), c4, c5, c6, c7, c8, c9, c10, c11] := by
  have e1 := v_law_paper (m := m) (f := f) hf.l hm
  have hr := (row_tx (m := m) (f := f) hm.2 (fun i hi => by have := hf i; omega)).repr (by omega) (by omega)
  generalize PyData.shown (.list (rowD m f)) = w at *
  generalize paperD f m = p at *
  generalize rowD m f = z at *
  simp [st0_law_row_right, e1, hr]
theorem s1 (c0 c3 c4 c5 c6 c7 c8 c9 c10 c11 : Cell) (m : Nat) (f : Nat → Int) (hm : 1 ≤ m ∧ m ≤ 60) (hf : Bd f) : st1_law_row_right [c0, .v (.list (rowD m f)), .v (paperD f m), c3, c4, c5, c6, c7, c8, c9, c10, c11] = .nx [c0, .v (.list (rowD m f)), .v (paperD f m), c3, c4, c5, c6, c7, c8, c9, c10, c11] := by
  have e1 := v_product_paper (Sq.l (rowD m f)) hf.l hm
  have e2 := v_product_paper (Sq.t (rowD m f)) hf.l hm
  have hr := rep2 _ 3 20000 (paper_tx hm hf) (by omega) (by omega)
  have e3 := v_is_productive (Sq.l (rowD m f)) hf.l hm
  have q1 := s_fw
  have q2 := s_ww
  have q3 := s_bw
  have b1 := oNe_bool false false
  have b2 := oNe_bool true true
  rw [beq_self_eq_true] at b1 b2
  rcases paper_cases f hm.2 with ⟨h0, hp, e⟩ | ⟨h0, hb, hp, e⟩ | ⟨h0, hp, c, hc, hl, hmin, e⟩
  · have e4 := v_pp_first (Sq.l (rowD m f)) hf.l hm
    rw [decide_eq_false h0] at e4
    rw [e] at e1 e2 hr ⊢
    clear e
    rw [hp] at e3
    generalize PyData.shown (.list [firstP f, firstP f]) = w at *
    unfold firstP at *
    generalize rowD m f = z at *
    simp [st1_law_row_right, e1, e2, hr, e3, e4, q1, b1, permL, atI, ixN, -x_oEqS]
  · have e4 := v_pp_worths (Sq.l (rowD m f)) hf.l hm
    rw [hp] at e3 e4
    rw [e] at e1 e2 hr ⊢
    clear e
    generalize PyData.shown (.list [worthsP f m, worthsP f m]) = w at *
    unfold worthsP at *
    generalize (NT.plc m).map (wpD fun p => f (p - 1)) = ws at *
    generalize rowD m f = z at *
    simp [st1_law_row_right, e1, e2, hr, e3, e4, q2, b2, permL, atI, ixN, -x_oEqS]
  · have e4 := v_pp_break (Sq.l (rowD m f)) hf.l hm hc
    rw [decide_eq_true h0] at e4
    rw [e] at e1 e2 hr ⊢
    clear e
    rw [hp] at e3
    generalize PyData.shown (.list [breakP (ppD c), breakP (ppD c)]) = w at *
    unfold breakP at *
    generalize ppD c = cc at *
    generalize rowD m f = z at *
    simp [st1_law_row_right, e1, e2, hr, e3, e4, q3, b1, permL, atI, ixN, -x_oEqS]
/-- the row's own papers -/
def ownD (f : Nat → Int) (m : Nat) (c : Nat × Nat) : D := if c = (0, 0) then firstP f else if c = (0, 1) then worthsP f m else breakP (ppD c)
def ownL (f : Nat → Int) (m : Nat) : List (Nat × Nat) := (0, 0) :: (0, 1) :: NT.brk f m
theorem ownL_map (f : Nat → Int) {m : Nat} : (ownL f m).map (ownD f m) = firstP f :: worthsP f m :: (NT.brk f m).map (fun c => breakP (ppD c)) := by
  unfold ownL
  rw [List.map_cons, List.map_cons]
  congr 1
  congr 1
  refine List.map_congr_left fun c hc => ?_
  obtain ⟨⟨⟨h1, h2, h3⟩, _⟩, _⟩ := NT.mem_brk.mp hc
  unfold ownD
  rw [if_neg (fun e => by rw [e] at h1; simp at h1), if_neg (fun e => by rw [e] at h1; simp at h1)]
theorem s2 (c0 c2 c3 c5 c6 c7 c8 c9 c10 : Cell) (m : Nat) (f : Nat → Int) (hm : 1 ≤ m ∧ m ≤ 60) (hf : Bd f) : st2_law_row_right [c0, .v (.list (rowD m f)), c2, c3, .un, c5, c6, c7, c8, c9, c10, .un] = .nx [c0, .v (.list (rowD m f)), c2, c3, .v (.list ((ownL f m).map (ownD f m))), c5, c6, c7, c8, c9, c10, .un] := by
  have i0 := (Sq.l (rowD m f)).at0 hm.1
  have e1 := v_prime_worths (Sq.l (rowD m f)) hf.l hm
  have e2 := v_all_breaks (Sq.l (rowD m f)) hf.l hm
  have el := lcL_map (t := .nm 11) (tt := yesD) (f := ce0_law_row_right) (vs := [11]) (ρ := [c0, .v (.list (rowD m f)), c2, c3, .un, c5, c6, c7, c8, c9, c10, .un]) (enc := ppD) (fun c => breakP (ppD c)) (xs := NT.brk f m) (fun c _ => by
    unfold breakP
    generalize ppD c = z
    generalize rowD m f = y
    simp [lcT, ce0_law_row_right]) (lim_of (by have := NT.brk_len f hm; omega))
  have hc := x_oCat (xs := [firstP f, worthsP f m]) (ys := (NT.brk f m).map fun c => breakP (ppD c)) (by have := NT.brk_len f hm; simp; omega)
  rw [ownL_map]
  unfold firstP worthsP at *
  generalize (NT.brk f m).map (fun c => breakP (ppD c)) = bs at *
  generalize (NT.brk f m).map ppD = ps at *
  generalize (NT.plc m).map (wpD fun p => f (p - 1)) = ws at *
  generalize rowD m f = z at *
  generalize f 0 = x at *
  simp [st2_law_row_right, i0, e1, e2, el, hc, -x_oIxL]
/-- is the own paper a paper, is it of another kind -/
def ownB (f : Nat → Int) (m : Nat) (c : Nat × Nat) : Bool := if c = (0, 0) then !decide (f 0 = 1) else if c = (0, 1) then prodB f m else decide (f 0 = 1)
theorem own_pp (f : Nat → Int) {m : Nat} (hm : 1 ≤ m ∧ m ≤ 60) (hf : Bd f) {c : Nat × Nat} (hc : c ∈ ownL f m) : F_is_product_paper [.list (rowD m f), ownD f m c] = some (.fz (.bool (ownB f m c))) := by
  unfold ownL at hc
  unfold ownD ownB
  by_cases h1 : c = (0, 0)
  · rw [if_pos h1, if_pos h1]; exact v_pp_first (Sq.l _) hf.l hm
  · rw [if_neg h1, if_neg h1]
    by_cases h2 : c = (0, 1)
    · rw [if_pos h2, if_pos h2]; exact v_pp_worths (Sq.l _) hf.l hm
    · rw [if_neg h2, if_neg h2]
      refine v_pp_break (Sq.l _) hf.l hm ?_
      rcases List.mem_cons.mp hc with z | z
      · exact absurd z h1
      · rcases List.mem_cons.mp z with z | z
        · exact absurd z h2
        · exact z
def kindD (c : Nat × Nat) : PySem.Str := if c = (0, 0) then "first" else if c = (0, 1) then "worths" else "break"
theorem own_kind (f : Nat → Int) (m : Nat) (c : Nat × Nat) : ∃ x, ownD f m c = .tuple [.str (kindD c), x] := by
  unfold ownD kindD firstP worthsP breakP
  split
  · exact ⟨_, rfl⟩
  · split
    · exact ⟨_, rfl⟩
    · exact ⟨_, rfl⟩
theorem paper_kind (f : Nat → Int) {m : Nat} (hm : m ≤ 60) : ∃ (k : PySem.Str) (x : D), paperD f m = .tuple [.str k, x] ∧ (∀ c ∈ ownL f m, ownB f m c = true → kindD c = k) ∧ ∃ c ∈ ownL f m, ownB f m c = true := by
  have cs : ∀ c ∈ NT.brk f m, c ≠ (0, 0) ∧ c ≠ (0, 1) := fun c hc => by
    obtain ⟨⟨⟨h1, h2, h3⟩, _⟩, _⟩ := NT.mem_brk.mp hc
    exact ⟨fun e => by rw [e] at h1; simp at h1, fun e => by rw [e] at h1; simp at h1⟩
  rcases paper_cases f hm with ⟨h0, hp, e⟩ | ⟨h0, hb, hp, e⟩ | ⟨h0, hp, c, hc, hl, hmin, e⟩
  · refine ⟨"first", .int (f 0), e, fun c hc h => ?_, (0, 0), List.mem_cons_self, by unfold ownB; rw [if_pos rfl, decide_eq_false h0]; rfl⟩
    unfold ownB at h
    unfold kindD
    by_cases h1 : c = (0, 0)
    · rw [if_pos h1]
    · rw [if_neg h1] at h
      by_cases h2 : c = (0, 1)
      · rw [if_pos h2, hp] at h; cases h
      · rw [if_neg h2, decide_eq_false h0] at h; cases h
  · refine ⟨"worths", _, e, fun c hc h => ?_, (0, 1), List.mem_cons_of_mem _ List.mem_cons_self, by unfold ownB; rw [if_neg (by decide), if_pos rfl]; exact hp⟩
    unfold ownB at h
    unfold kindD
    by_cases h1 : c = (0, 0)
    · rw [if_pos h1, decide_eq_true h0] at h; cases h
    · rw [if_neg h1]
      by_cases h2 : c = (0, 1)
      · rw [if_pos h2]
      · unfold ownL at hc
        rw [hb] at hc
        simp at hc
        rcases hc with z | z
        · exact absurd z h1
        · exact absurd z h2
  · refine ⟨"break", ppD c, e, fun c hc h => ?_, c, List.mem_cons_of_mem _ (List.mem_cons_of_mem _ hc), by unfold ownB; rw [if_neg (cs c hc).1, if_neg (cs c hc).2]; exact decide_eq_true h0⟩
    unfold ownB at h
    unfold kindD
    by_cases h1 : c = (0, 0)
    · rw [if_pos h1, decide_eq_true h0] at h; cases h
    · rw [if_neg h1]
      by_cases h2 : c = (0, 1)
      · rw [if_neg h1, if_pos h2, hp] at h; cases h
      · rw [if_neg h2]
theorem s3 (c0 c3 c5 c6 c7 c8 c9 c10 : Cell) (m : Nat) (f : Nat → Int) (hm : 1 ≤ m ∧ m ≤ 60) (hf : Bd f) : st3_law_row_right [c0, .v (.list (rowD m f)), .v (paperD f m), c3, .v (.list ((ownL f m).map (ownD f m))), c5, c6, c7, c8, c9, c10, .un] = .nx [c0, .v (.list (rowD m f)), .v (paperD f m), c3, .v (.list ((ownL f m).map (ownD f m))), c5, c6, c7, c8, c9, c10, .un] := by
  obtain ⟨k, x, ek, hk, cc, hcc, hbb⟩ := paper_kind f hm.2
  have hlen : (ownL f m).length ≤ LIM := lim_of (by unfold ownL; have := NT.brk_len f hm; simp; omega)
  have e1 := lcL_map (t := .nm 11) (tt := yesD) (f := ce1_law_row_right) (vs := [11]) (ρ := [c0, .v (.list (rowD m f)), .v (paperD f m), c3, .v (.list ((ownL f m).map (ownD f m))), c5, c6, c7, c8, c9, c10, .un]) (enc := ownD f m) (fun _ => .bool false) (xs := ownL f m) (fun c hc => by
    have e := own_pp f hm hf hc
    obtain ⟨y, ey⟩ := own_kind f m c
    have hq : ownB f m c = true → oNe (.str (kindD c)) (.str k) = some (.at (.bool false)) := fun h => by rw [hk c hc h]; exact oNe_strSelf k
    rw [ek]
    rw [ey] at e ⊢
    generalize (ownL f m).map (ownD f m) = ow at *
    generalize rowD m f = z at *
    generalize kindD c = kc at *
    cases hB : ownB f m c with
    | false => rw [hB] at e; simp [lcT, ce1_law_row_right, e]
    | true =>
      rw [hB] at e
      have hq := hq hB
      simp [lcT, ce1_law_row_right, e, hq, atI, ixN, -x_oNeS]) hlen
  have e2 := lcL_map (t := .nm 11) (tt := yesD) (f := ce2_law_row_right) (vs := [11]) (ρ := [c0, .v (.list (rowD m f)), .v (paperD f m), c3, .v (.list ((ownL f m).map (ownD f m))), c5, c6, c7, c8, c9, c10, .un]) (enc := ownD f m) (fun c => .bool (ownB f m c)) (xs := ownL f m) (fun c hc => by
    have e := own_pp f hm hf hc
    generalize ownD f m c = o at *
    generalize (ownL f m).map (ownD f m) = ow at *
    generalize rowD m f = z at *
    generalize paperD f m = p at *
    generalize ownB f m c = b at *
    simp [lcT, ce2_law_row_right, e, permL]) hlen
  have a1 := any_bools (fun _ : Nat × Nat => false) (ownL f m)
  rw [show (ownL f m).any (fun _ => false) = false by simp] at a1
  have a2 := any_bools (ownB f m) (ownL f m)
  rw [show (ownL f m).any (ownB f m) = true from List.any_eq_true.mpr ⟨cc, hcc, hbb⟩] at a2
  generalize (ownL f m).map (fun _ => PyData.bool false) = u1 at *
  generalize (ownL f m).map (fun c => PyData.bool (ownB f m c)) = u2 at *
  generalize (ownL f m).map (ownD f m) = ow at *
  generalize rowD m f = z at *
  generalize paperD f m = p at *
  simp [st3_law_row_right, e1, e2, a1, a2]
end Law
namespace Law
open PySem PySem.Spec PyProof.Rows L2 DL
theorem s4 (c0 c3 c4 c7 c8 c9 c10 c11 : Cell) (m : Nat) (f : Nat → Int) (hm : 1 ≤ m ∧ m ≤ 60) (hf : Bd f) : ∃ (d5 d6 : Cell), (nl d5 = true) ∧ (nl d6 = true) ∧ st4_law_row_right [c0, .v (.list (rowD m f)), .v (paperD f m), c3, c4, .un, .un, c7, c8, c9, c10, c11] = .nx [c0, .v (.list (rowD m f)), .v (paperD f m), c3, c4, d5, d6, c7, c8, c9, c10, c11] := by
  have q1 := s_fb
  have q2 := s_wb
  have q3 := s_bb
  rcases paper_cases f hm.2 with ⟨h0, hp, e⟩ | ⟨h0, hb, hp, e⟩ | ⟨h0, hp, c, hc, hl, hmin, e⟩
  · refine ⟨.un, .un, rfl, rfl, ?_⟩
    rw [e]
    unfold firstP
    generalize rowD m f = z at *
    simp [st4_law_row_right, q1, atI, ixN, -x_oEqS]
  · refine ⟨.un, .un, rfl, rfl, ?_⟩
    rw [e]
    unfold worthsP
    generalize (NT.plc m).map (wpD fun p => f (p - 1)) = ws at *
    generalize rowD m f = z at *
    simp [st4_law_row_right, q2, atI, ixN, -x_oEqS]
  · refine ⟨.v (natD c.1), .v (natD c.2), rfl, rfl, ?_⟩
    rw [e]
    have e1 := v_first_break (Sq.l (rowD m f)) hf.l hm
    rw [hl] at e1
    obtain ⟨⟨⟨h1, h2, h3⟩, hG⟩, hcop⟩ := NT.mem_brk.mp hc
    obtain ⟨la, lb⟩ := cps_le h1 (show 2 ≤ c.2 by omega) h3
    have hpos : 1 ≤ c.1 * c.2 := Nat.mul_pos (by omega) (by omega)
    have m1 := x_oMul (i := (c.1 : Int)) (j := (c.2 : Int)) (by omega)
    have w1 := v_worth_at (n := c.1 * c.2) (Sq.l (rowD m f)) hm hf.l hpos
    have w2 := v_worth_at (n := c.1) (Sq.l (rowD m f)) hm hf.l (by omega)
    have w3 := v_worth_at (n := c.2) (Sq.l (rowD m f)) hm hf.l (by omega)
    rw [if_pos h3, Int.natCast_mul] at w1
    rw [if_pos la] at w2
    rw [if_pos lb] at w3
    have hmm := mulB (hf.l (m := m) (c.1 - 1) (by omega)) (hf.l (m := m) (c.2 - 1) (by omega))
    have hGd : ¬ f (c.1 * c.2 - 1) = f (c.1 - 1) * f (c.2 - 1) := by
      unfold NT.G at hG
      simpa using hG
    have pt := v_productive_to (Sq.l (rowD m f)) hf.l hm
    rw [if_pos h0] at pt
    have hpt : ptI f m = (c.1 : Int) * (c.2 : Int) - 1 := by
      have hle : ∀ y ∈ ((m : Int) :: (NT.brk f m).map fun c => (c.1 : Int) * (c.2 : Int) - 1), ptI f m ≤ y := minI_le
      have hme : ptI f m ∈ ((m : Int) :: (NT.brk f m).map fun c => (c.1 : Int) * (c.2 : Int) - 1) := minI_mem (List.cons_ne_nil _ _)
      have h4 := hle _ (List.mem_cons_of_mem _ (List.mem_map.mpr ⟨c, hc, rfl⟩))
      have q : (c.1 : Int) * (c.2 : Int) = ((c.1 * c.2 : Nat) : Int) := (Int.natCast_mul _ _).symm
      rcases List.mem_cons.mp hme with z | z
      · omega
      · obtain ⟨b, hb, eb⟩ := List.mem_map.mp z
        have hm2 := hmin b hb
        have q' : (b.1 : Int) * (b.2 : Int) = ((b.1 * b.2 : Nat) : Int) := (Int.natCast_mul _ _).symm
        omega
    rw [hpt] at pt
    have qn : oNe (ppD c) (ppD c) = some (.at (.bool false)) := by
      unfold ppD
      rw [x_oNe _ _ (.inl (by simp))]
      simp [PyData.eqv, PyData.eqvAll]
    unfold breakP
    have hpd : ppD c = .tuple [natD c.1, natD c.2] := rfl
    clear hl hmin hc e
    generalize f (c.1 * c.2 - 1) = x at *
    generalize f (c.1 - 1) = y at *
    generalize f (c.2 - 1) = u at *
    generalize rowD m f = z at *
    rw [hpd] at qn e1 ⊢
    clear hpd hpt
    unfold natD at *
    generalize (c.1 : Int) * (c.2 : Int) = p at *
    generalize (c.1 : Int) = a at *
    generalize (c.2 : Int) = b at *
    simp [st4_law_row_right, q3, e1, m1, w1, w2, w3, hmm, hGd, pt, qn, atI, ixN, -x_oEqS]
theorem s5 (c0 c2 c3 c4 c5 c6 c8 c9 c10 c11 : Cell) (m : Nat) (f : Nat → Int) (hm : 1 ≤ m ∧ m ≤ 60) : st5_law_row_right [c0, .v (.list (rowD m f)), c2, c3, c4, c5, c6, .un, c8, c9, c10, c11] = .nx [c0, .v (.list (rowD m f)), c2, c3, c4, c5, c6, .v (.list (rowD m (fun i => if i = 0 then 1 else f i))), c8, c9, c10, c11] := by
  have c1 : DL.cutD (rowD m f) (some 1) none = (rowD m f).drop 1 := cutD_from _ 1
  have k1 := x_oCat (xs := [.int 1]) (ys := (rowD m f).drop 1) (by simp [rowD_len]; omega)
  have hz : [PyData.int 1] ++ (rowD m f).drop 1 = rowD m (fun i => if i = 0 then 1 else f i) := by
    rw [← rowD_set m 0 f 1, List.set_eq_take_append_cons_drop, if_pos (by rw [rowD_len]; omega)]
    rfl
  rw [hz] at k1
  generalize rowD m (fun i => if i = 0 then 1 else f i) = out at *
  generalize (rowD m f).drop 1 = dr at *
  generalize rowD m f = z at *
  simp [st5_law_row_right, c1, k1]
theorem prt_some : ((List.range 60).all fun i => decide (i + 1 = 1) || decide (1 ≤ (NT.prt (i + 1)).length)) = true := by decide +kernel
theorem prt_ne {n : Nat} (hn : 2 ≤ n ∧ n ≤ 60) : 1 ≤ (NT.prt n).length := by
  have := NT.small_all (P := fun n => decide (n = 1) || decide (1 ≤ (NT.prt n).length)) prt_some (n := n) (by omega)
  rw [decide_eq_false (by omega), Bool.false_or, decide_eq_true_eq] at this
  exact this
/-- a row mended so far -/
structure Mend (f g : Nat → Int) (m s : Nat) : Prop where
  one : g 0 = 1
  plc : ∀ q ∈ NT.plc m, g (q - 1) = f (q - 1)
  brk : NT.brk g s = []
  le : s ≤ m
  bd : ∀ k, k < m → (g k).natAbs ≤ 1000002 ^ 3
theorem Mend.worth {f g : Nat → Int} {m s : Nat} (h : Mend f g m s) (hm : m ≤ 60) {n : Nat} (h1 : 1 ≤ n) (h2 : n ≤ s) : g (n - 1) = NT.prodW (fun p => f (p - 1)) (NT.prt n) := by
  have hs := h.le
  rw [NT.brk_built (by omega) h.one h.brk n n (Nat.le_refl _) h1 h2]
  exact NT.prodW_congr fun q hq => h.plc q (NT.part_place hm ⟨h1, by omega⟩ hq)
theorem Mend.done {f g : Nat → Int} {m s : Nat} (h : Mend f g m s) (hb : NT.brk g m = []) : Mend f g m m := ⟨h.one, h.plc, hb, Nat.le_refl _, h.bd⟩
theorem Mend.row {f g : Nat → Int} {m : Nat} (h : Mend f g m m) (hm : m ≤ 60) : rowD m g = rowD m (NT.bltF fun p => f (p - 1)) := rowD_congr fun i hi => h.worth hm (n := i + 1) (by omega) (by omega)
theorem Mend.next {f g : Nat → Int} {m s : Nat} (h : Mend f g m s) (hm : 1 ≤ m ∧ m ≤ 60) (hf : ∀ k, (f k).natAbs ≤ 1000002) {c : Nat × Nat} (hc : c ∈ NT.brk g m) (hmin : ∀ b ∈ NT.brk g m, c.1 * c.2 ≤ b.1 * b.2) :
    s + 1 ≤ c.1 * c.2 ∧ Mend f (fun j => if j = c.1 * c.2 - 1 then g (c.1 - 1) * g (c.2 - 1) else g j) m (c.1 * c.2) := by
  obtain ⟨⟨⟨h1, h2, h3⟩, hG⟩, hcop⟩ := NT.mem_brk.mp hc
  obtain ⟨la, lb⟩ := cps_le h1 (show 2 ≤ c.2 by omega) h3
  have hn : 4 ≤ c.1 * c.2 := Nat.mul_le_mul h1 (show 2 ≤ c.2 by omega)
  have hs : s + 1 ≤ c.1 * c.2 := by
    false_or_by_contra
    have : c ∈ NT.brk g s := NT.mem_brk.mpr ⟨⟨⟨h1, h2, by omega⟩, hG⟩, hcop⟩
    rw [h.brk] at this
    cases this
  have hlt1 : c.1 < c.1 * c.2 := by have := Nat.mul_le_mul_left c.1 (show 2 ≤ c.2 by omega); omega
  have hlt2 : c.2 < c.1 * c.2 := by have := Nat.mul_le_mul_right c.2 h1; omega
  -- below the least break the row is built
  have h' : Mend f g m (c.1 * c.2 - 1) := ⟨h.one, h.plc, List.eq_nil_iff_forall_not_mem.mpr fun b hb => by
    obtain ⟨⟨⟨a1, a2, a3⟩, a4⟩, a5⟩ := NT.mem_brk.mp hb
    have := hmin b (NT.mem_brk.mpr ⟨⟨⟨a1, a2, by omega⟩, a4⟩, a5⟩)
    omega, by omega, h.bd⟩
  have hprod : g (c.1 - 1) * g (c.2 - 1) = NT.prodW (fun p => f (p - 1)) (NT.prt (c.1 * c.2)) := by
    have hp := List.all_eq_true.mp NT.cop_prt c (NT.cps_sixty hm.2 (NT.mem_cps.mpr ⟨h1, h2, h3⟩))
    rw [hcop, Bool.not_true, Bool.false_or, List.isPerm_iff] at hp
    rw [NT.prodW_perm _ hp, NT.prodW_append, h'.worth hm.2 (n := c.1) (by omega) (by omega), h'.worth hm.2 (n := c.2) (by omega) (by omega)]
  refine ⟨hs, ⟨?_, fun q hq => ?_, ?_, h3, fun k hk => ?_⟩⟩
  · show (if 0 = c.1 * c.2 - 1 then _ else g 0) = 1
    rw [if_neg (by omega), h.one]
  · have hq1 := (NT.mem_plc.mp hq).1
    have hne : q ≠ c.1 * c.2 := fun e => by
      have e1 := NT.plc_self hm.2 hq
      have hp := List.all_eq_true.mp NT.cop_prt c (NT.cps_sixty hm.2 (NT.mem_cps.mpr ⟨h1, h2, h3⟩))
      rw [hcop, Bool.not_true, Bool.false_or, List.isPerm_iff] at hp
      have hl := hp.length_eq
      rw [← e, e1, List.length_append] at hl
      have n1 := prt_ne (n := c.1) (by omega)
      have n2 := prt_ne (n := c.2) (by omega)
      simp at hl
      omega
    show (if q - 1 = c.1 * c.2 - 1 then _ else g (q - 1)) = _
    rw [if_neg (by omega)]
    exact h.plc q hq
  · refine List.eq_nil_iff_forall_not_mem.mpr fun b hb => ?_
    obtain ⟨⟨⟨a1, a2, a3⟩, a4⟩, a5⟩ := NT.mem_brk.mp hb
    have l1 : b.1 < b.1 * b.2 := by have := Nat.mul_le_mul_left b.1 (show 2 ≤ b.2 by omega); omega
    have l2 : b.2 < b.1 * b.2 := by have := Nat.mul_le_mul_right b.2 a1; omega
    have hb4 : 4 ≤ b.1 * b.2 := Nat.mul_le_mul a1 (show 2 ≤ b.2 by omega)
    have hGb : ¬ (if b.1 * b.2 - 1 = c.1 * c.2 - 1 then g (c.1 - 1) * g (c.2 - 1) else g (b.1 * b.2 - 1)) = (if b.1 - 1 = c.1 * c.2 - 1 then g (c.1 - 1) * g (c.2 - 1) else g (b.1 - 1)) * (if b.2 - 1 = c.1 * c.2 - 1 then g (c.1 - 1) * g (c.2 - 1) else g (b.2 - 1)) := by
      unfold NT.G at a4
      simpa using a4
    rw [if_neg (show ¬ b.1 - 1 = c.1 * c.2 - 1 by omega), if_neg (show ¬ b.2 - 1 = c.1 * c.2 - 1 by omega)] at hGb
    refine hGb ?_
    have hp := List.all_eq_true.mp NT.cop_prt b (NT.cps_sixty hm.2 (NT.mem_cps.mpr ⟨a1, a2, by omega⟩))
    rw [a5, Bool.not_true, Bool.false_or, List.isPerm_iff] at hp
    rw [h'.worth hm.2 (n := b.1) (by omega) (by omega), h'.worth hm.2 (n := b.2) (by omega) (by omega), ← NT.prodW_append, ← NT.prodW_perm _ hp]
    by_cases e : b.1 * b.2 = c.1 * c.2
    · rw [if_pos (by omega), hprod, e]
    · rw [if_neg (by omega)]
      exact h'.worth hm.2 (n := b.1 * b.2) (by omega) (by omega)
  · show (if k = c.1 * c.2 - 1 then g (c.1 - 1) * g (c.2 - 1) else g k).natAbs ≤ _
    split
    · rw [hprod]
      have := blt_b (w := fun p => f (p - 1)) (B := 1000002) (by decide) (fun q => hf (q - 1)) (m := m) hm.2 (c.1 * c.2 - 1) (by omega)
      unfold NT.bltF at this
      rwa [show c.1 * c.2 - 1 + 1 = c.1 * c.2 from by omega] at this
    · exact h.bd k hk
end Law
namespace Law
open PySem PySem.Spec PyProof.Rows L2 DL
theorem mend_turn {f g : Nat → Int} {m s : Nat} (h : Mend f g m s) (hm : 1 ≤ m ∧ m ≤ 60) (hf : ∀ k, (f k).natAbs ≤ 1000002) (c0 c1 c2 c3 c4 c5 c6 c8 c9 c10 c11 : Cell) (h8 : nl c8 = true) (h9 : nl c9 = true) (h10 : nl c10 = true) (t : Int) :
    (∃ d9, nl d9 = true ∧ Mend f g m m ∧ fT (.nm 8) lp0_law_row_right [c0, c1, c2, c3, c4, c5, c6, .v (.list (rowD m g)), c8, c9, c10, c11] (.int t) = .bk [c0, c1, c2, c3, c4, c5, c6, .v (.list (rowD m g)), .v (.int t), d9, c10, c11]) ∨
    (∃ g' s' d9 d10, s + 1 ≤ s' ∧ nl d9 = true ∧ nl d10 = true ∧ Mend f g' m s' ∧ fT (.nm 8) lp0_law_row_right [c0, c1, c2, c3, c4, c5, c6, .v (.list (rowD m g)), c8, c9, c10, c11] (.int t) = .nx [c0, c1, c2, c3, c4, c5, c6, .v (.list (rowD m g')), .v (.int t), d9, d10, c11]) := by
  have h3 : (1000002 : Nat) ^ 3 < 10 ^ 30 := by decide
  have hg30 : ∀ k, k < m → (g k).natAbs < 10 ^ 30 := fun k hk => Nat.lt_of_le_of_lt (h.bd k hk) h3
  have e1 := v_first_break (Sq.l (rowD m g)) hg30 hm
  have p8 := nl_par h8
  have p9 := nl_par h9
  have p10 := nl_par h10
  by_cases hb : NT.brk g m = []
  · refine .inl ⟨.v .none, rfl, h.done hb, ?_⟩
    rw [hb, leastD_nil] at e1
    generalize rowD m g = z at *
    simp [fT, lp0_law_row_right, e1, p8, p9]
  · obtain ⟨c, hc, el, hmin, _⟩ := least_full g hm.2 hb
    obtain ⟨hs, h'⟩ := h.next hm hf hc hmin
    obtain ⟨⟨⟨a1, a2, a3⟩, _⟩, _⟩ := NT.mem_brk.mp hc
    obtain ⟨la, lb⟩ := cps_le a1 (show 2 ≤ c.2 by omega) a3
    have hn : 4 ≤ c.1 * c.2 := Nat.mul_le_mul a1 (show 2 ≤ c.2 by omega)
    refine .inr ⟨_, _, .v (ppD c), .v (.int ((c.1 * c.2 : Nat) : Int)), hs, rfl, rfl, h', ?_⟩
    rw [el] at e1
    have m1 := x_oMul (i := (c.1 : Int)) (j := (c.2 : Int)) (by omega)
    rw [← Int.natCast_mul] at m1
    have i1 := (Sq.l (rowD m g)).at (k := c.1) (by omega)
    have i2 := (Sq.l (rowD m g)).at (k := c.2) (by omega)
    have mm := mulB (hg30 (c.1 - 1) (by omega)) (hg30 (c.2 - 1) (by omega))
    have t1 : DL.cutD (rowD m g) none (some ((((c.1 * c.2 : Nat) : Int)) - 1)) = (rowD m g).take (c.1 * c.2 - 1) := by
      rw [show (((c.1 * c.2 : Nat) : Int)) - 1 = ((c.1 * c.2 - 1 : Nat) : Int) from by omega]; exact cutD_take _ _
    have t2 : DL.cutD (rowD m g) (some ((c.1 * c.2 : Nat) : Int)) none = (rowD m g).drop (c.1 * c.2) := cutD_from _ _
    have k1 := x_oCat (xs := (rowD m g).take (c.1 * c.2 - 1)) (ys := [.int (g (c.1 - 1) * g (c.2 - 1))]) (by simp [rowD_len]; omega)
    have k2 := x_oCat (xs := (rowD m g).take (c.1 * c.2 - 1) ++ [.int (g (c.1 - 1) * g (c.2 - 1))]) (ys := (rowD m g).drop (c.1 * c.2)) (by simp [rowD_len]; omega)
    have hz : (rowD m g).take (c.1 * c.2 - 1) ++ [.int (g (c.1 - 1) * g (c.2 - 1))] ++ (rowD m g).drop (c.1 * c.2) = rowD m (fun j => if j = c.1 * c.2 - 1 then g (c.1 - 1) * g (c.2 - 1) else g j) := by
      rw [← rowD_set, List.set_eq_take_append_cons_drop, if_pos (by rw [rowD_len]; omega), List.append_assoc, show c.1 * c.2 - 1 + 1 = c.1 * c.2 from by omega]
      rfl
    rw [hz] at k2
    have hpd : ppD c = .tuple [.int (c.1 : Int), .int (c.2 : Int)] := rfl
    clear el hmin hc h' hz
    generalize rowD m (fun j => if j = c.1 * c.2 - 1 then g (c.1 - 1) * g (c.2 - 1) else g j) = out at *
    generalize (rowD m g).take (c.1 * c.2 - 1) = x1 at *
    generalize (rowD m g).drop (c.1 * c.2) = x2 at *
    generalize rowD m g = z at *
    generalize g (c.1 - 1) * g (c.2 - 1) = pr at *
    generalize g (c.1 - 1) = g1 at *
    generalize g (c.2 - 1) = g2 at *
    rw [hpd] at e1 ⊢
    clear hpd
    generalize ((c.1 * c.2 : Nat) : Int) = n at *
    generalize (c.1 : Int) = a at *
    generalize (c.2 : Int) = b at *
    simp [fT, lp0_law_row_right, e1, p8, p9, p10, m1, i1, i2, mm, t1, t2, k1, k2, atI, ixN, -x_oIxL]
theorem mend_loop {f : Nat → Int} {m : Nat} (hm : 1 ≤ m ∧ m ≤ 60) (hf : ∀ k, (f k).natAbs ≤ 1000002) (c0 c1 c2 c3 c4 c5 c6 c11 : Cell) : ∀ (ts : List Int) (g : Nat → Int) (s : Nat) (c8 c9 c10 : Cell), Mend f g m s → m ≤ s + ts.length → nl c8 = true → nl c9 = true → nl c10 = true →
    ∃ g' d8 d9 d10, nl d8 = true ∧ nl d9 = true ∧ nl d10 = true ∧ Mend f g' m m ∧ fN (.nm 8) lp0_law_row_right (ts.map PyData.int) [c0, c1, c2, c3, c4, c5, c6, .v (.list (rowD m g)), c8, c9, c10, c11] = .nx [c0, c1, c2, c3, c4, c5, c6, .v (.list (rowD m g')), d8, d9, d10, c11]
  | [], g, s, c8, c9, c10, h, hl, h8, h9, h10 => by
    have := h.le
    simp at hl
    have e : s = m := by omega
    subst e
    exact ⟨g, c8, c9, c10, h8, h9, h10, h, rfl⟩
  | t :: ts, g, s, c8, c9, c10, h, hl, h8, h9, h10 => by
    rw [List.length_cons] at hl
    rw [List.map_cons, fN_turn]
    rcases mend_turn h hm hf c0 c1 c2 c3 c4 c5 c6 c8 c9 c10 c11 h8 h9 h10 t with ⟨d9, k9, hM, e⟩ | ⟨g', s', d9, d10, hs, k9, k10, hM, e⟩
    · rw [e]
      exact ⟨g, .v (.int t), d9, c10, rfl, k9, h10, hM, rfl⟩
    · rw [e]
      exact mend_loop hm hf c0 c1 c2 c3 c4 c5 c6 c11 ts g' s' (.v (.int t)) d9 d10 hM (by omega) rfl k9 k10
theorem s6 (c0 c2 c3 c4 c5 c6 c11 : Cell) (m : Nat) (f : Nat → Int) (hm : 1 ≤ m ∧ m ≤ 60) (hf : ∀ k, (f k).natAbs ≤ 1000002) : ∃ (d8 d9 d10 : Cell), (nl d8 = true) ∧ (nl d9 = true) ∧ (nl d10 = true) ∧ st6_law_row_right [c0, .v (.list (rowD m f)), c2, c3, c4, c5, c6, .v (.list (rowD m (fun i => if i = 0 then 1 else f i))), .un, .un, .un, c11] = .nx [c0, .v (.list (rowD m f)), c2, c3, c4, c5, c6, .v (.list (rowD m (NT.bltF fun p => f (p - 1)))), d8, d9, d10, c11] := by
  have h1 : Mend f (fun i => if i = 0 then 1 else f i) m 1 := ⟨rfl, fun q hq => by
    have := (NT.mem_plc.mp hq).1
    show (if q - 1 = 0 then 1 else f (q - 1)) = _
    rw [if_neg (by omega)], List.eq_nil_iff_forall_not_mem.mpr fun b hb => by
    obtain ⟨⟨⟨a1, a2, a3⟩, _⟩, _⟩ := NT.mem_brk.mp hb
    have := Nat.mul_le_mul a1 (show 2 ≤ b.2 by omega)
    omega, hm.1, fun k _ => by
    have := hf k
    show (if k = 0 then 1 else f k).natAbs ≤ 1000002 ^ 3
    have h3 : 1000002 ≤ (1000002 : Nat) ^ 3 := by decide
    split
    · exact Nat.le_trans (by decide) h3
    · omega⟩
  obtain ⟨g', d8, d9, d10, k8, k9, k10, hM, e⟩ := mend_loop hm hf c0 (.v (.list (rowD m f))) c2 c3 c4 c5 c6 c11 ((List.range m).map fun i : Nat => (0 : Int) + (i : Int) * 1) _ 1 .un .un .un h1 (by rw [List.length_map, List.length_range]; omega) rfl rfl rfl
  rw [hM.row hm.2] at e
  refine ⟨d8, d9, d10, k8, k9, k10, ?_⟩
  have hlen : oLen [.list (rowD m f)] = some (.at (.int (m : Int))) := by rw [x_oLenL, rowD_len]
  have hr := x_rng1 (j := (m : Int)) (by omega)
  rw [Int.toNat_natCast, show rngD 0 1 m = ((List.range m).map fun i : Nat => (0 : Int) + (i : Int) * 1).map PyData.int from by rw [List.map_map]; rfl] at hr
  generalize ((List.range m).map fun i : Nat => (0 : Int) + (i : Int) * 1).map PyData.int = xs at *
  generalize rowD m (NT.bltF fun p => f (p - 1)) = out at *
  generalize rowD m (fun i => if i = 0 then 1 else f i) = st at *
  generalize rowD m f = z at *
  simp [st6_law_row_right, hlen, hr, e, -x_oLenL]
theorem s_self (s : PySem.Str) : oEq (.str s) (.str s) = some (.at (.bool true)) := by
  rw [x_oEqS, beq_self_eq_true]
theorem s7 (c0 c2 c4 c5 c6 c8 c9 c10 c11 : Cell) (m : Nat) (f : Nat → Int) (hm : 1 ≤ m ∧ m ≤ 60) (hf : ∀ k, (f k).natAbs ≤ 1000002) : st7_law_row_right [c0, .v (.list (rowD m f)), c2, .v (.str (PyData.shown (.list (rowD m f)))), c4, c5, c6, .v (.list (rowD m (NT.bltF fun p => f (p - 1)))), c8, c9, c10, c11] = .rt (.fz (.bool true)) [c0, .v (.list (rowD m f)), c2, .v (.str (PyData.shown (.list (rowD m f)))), c4, c5, c6, .v (.list (rowD m (NT.bltF fun p => f (p - 1)))), c8, c9, c10, c11] := by
  have hdb : ∀ k, k < m → (NT.bltF (fun p => f (p - 1)) k).natAbs ≤ 1000002 ^ 3 := blt_b (by decide) (fun q => hf (q - 1)) hm.2
  have h3 : (1000002 : Nat) ^ 3 < 10 ^ 30 := by decide
  have hd30 : ∀ k, k < m → (NT.bltF (fun p => f (p - 1)) k).natAbs < 10 ^ 30 := fun k hk => Nat.lt_of_le_of_lt (hdb k hk) h3
  have e1 := v_is_productive (Sq.l (rowD m (NT.bltF fun p => f (p - 1)))) hd30 hm
  rw [blt_prodB _ hm.2] at e1
  have e2 := v_productive_part (Sq.l (rowD m f)) (fun k _ => by have := hf k; omega) hm
  have z1 := rowD_oEq m (NT.bltF fun p => f (p - 1))
  have e3 := v_product_paper (Sq.l (rowD m (NT.bltF fun p => f (p - 1)))) hd30 hm
  have ep : paperD (NT.bltF fun p => f (p - 1)) m = worthsP (NT.bltF fun p => f (p - 1)) m := by
    unfold paperD
    rw [if_pos (NT.bltF_zero _), if_pos (NT.blt_brk _ hm.2)]
  rw [ep] at e3
  have hr := (row_tx (m := m) (f := f) hm.2 (fun i hi => by have := hf i; omega)).repr (by omega) (by omega)
  have q1 := s_ww
  have q2 := s_self (PyData.shown (.list (rowD m f)))
  unfold worthsP at *
  clear hdb h3 hd30
  generalize PyData.shown (.list (rowD m f)) = w at *
  generalize (NT.plc m).map (wpD fun p => NT.bltF (fun p => f (p - 1)) (p - 1)) = ws at *
  generalize rowD m (NT.bltF fun p => f (p - 1)) = out at *
  generalize rowD m f = z at *
  simp [st7_law_row_right, e1, e2, z1, e3, hr, q1, q2, atI, ixN, -x_oEqS]
theorem ch (c0 : Cell) (m : Nat) (f : Nat → Int) (hm : 1 ≤ m ∧ m ≤ 60) (hf : Bd f) (hf2 : ∀ k, (f k).natAbs ≤ 1000002) : ∃ (d5 d6 d8 d9 d10 : Cell), (True) ∧ den_law_row_right [c0, .v (.list (rowD m f)), .un, .un, .un, .un, .un, .un, .un, .un, .un, .un] = .rt (.fz (.bool true)) [c0, .v (.list (rowD m f)), .v (paperD f m), .v (.str (PyData.shown (.list (rowD m f)))), .v (.list ((ownL f m).map (ownD f m))), d5, d6, .v (.list (rowD m (NT.bltF fun p => f (p - 1)))), d8, d9, d10, .un] := by
  have e_0 := s0 (c0) (.un) (.un) (.un) (.un) (.un) (.un) (.un) (.un) m f hm hf
  have e_1 := s1 (c0) (.v (.str (PyData.shown (.list (rowD m f))))) (.un) (.un) (.un) (.un) (.un) (.un) (.un) (.un) m f hm hf
  have e_2 := s2 (c0) (.v (paperD f m)) (.v (.str (PyData.shown (.list (rowD m f))))) (.un) (.un) (.un) (.un) (.un) (.un) m f hm hf
  have e_3 := s3 (c0) (.v (.str (PyData.shown (.list (rowD m f))))) (.un) (.un) (.un) (.un) (.un) (.un) m f hm hf
  obtain ⟨d5, d6, k5, k6, e_4⟩ := s4 (c0) (.v (.str (PyData.shown (.list (rowD m f))))) (.v (.list ((ownL f m).map (ownD f m)))) (.un) (.un) (.un) (.un) (.un) m f hm hf
  have e_5 := s5 (c0) (.v (paperD f m)) (.v (.str (PyData.shown (.list (rowD m f))))) (.v (.list ((ownL f m).map (ownD f m)))) (d5) (d6) (.un) (.un) (.un) (.un) m f hm
  obtain ⟨d8, d9, d10, k8, k9, k10, e_6⟩ := s6 (c0) (.v (paperD f m)) (.v (.str (PyData.shown (.list (rowD m f))))) (.v (.list ((ownL f m).map (ownD f m)))) (d5) (d6) (.un) m f hm hf2
  have e_7 := s7 (c0) (.v (paperD f m)) (.v (.list ((ownL f m).map (ownD f m)))) (d5) (d6) (d8) (d9) (d10) (.un) m f hm hf2
  exact ⟨d5, d6, d8, d9, d10, trivial, ((seq_nx e_0).trans ((seq_nx e_1).trans ((seq_nx e_2).trans ((seq_nx e_3).trans ((seq_nx e_4).trans ((seq_nx e_5).trans ((seq_nx e_6).trans (e_7))))))))⟩
theorem v_law_row_right (p : D) (m : Nat) (f : Nat → Int) (hm : 1 ≤ m ∧ m ≤ 60) (hf : ∀ k, (f k).natAbs ≤ 1000002) : F_law_row_right [p, .list (rowD m f)] = some (.fz (.bool true)) := by
  obtain ⟨d5, d6, d8, d9, d10, _, e⟩ := ch (.v p) m f hm (fun k => by have := hf k; omega) hf
  generalize rowD m (NT.bltF fun p => f (p - 1)) = out at *
  generalize (ownL f m).map (ownD f m) = ow at *
  generalize paperD f m = pp at *
  generalize PyData.shown (.list (rowD m f)) = w at *
  generalize rowD m f = z at *
  simp [F_law_row_right, mkA, e]
theorem v_right {ps : List D} (hp : PotOk ps) : ∃ qs, F_law_right ps [] = some (.fz (.bool true), qs) := by
  obtain ⟨ys, ρ', e6, hl, hy, rs, hrs, rfl⟩ := lcL_inv (t := .nm 1) (tt := yesD) (f := ce0_law_right) (vs := [1]) (fun ρ => ∃ rs, PotOk rs ∧ ρ = [.par rs, .un]) (fun d => d = .bool true) (ds := [.int 60, .int 24, .int 8]) (ρ := [.par ps, .un]) (acc := [])
    (fun d hd ρ ⟨rs, hr, e⟩ => by
      subst e
      obtain ⟨b, rfl, hb⟩ : ∃ b : Int, d = .int b ∧ 0 < b ∧ b ≤ 60 := by
        simp at hd
        rcases hd with rfl | rfl | rfl
        · exact ⟨_, rfl, by omega⟩
        · exact ⟨_, rfl, by omega⟩
        · exact ⟨_, rfl, by omega⟩
      obtain ⟨x, q1, e1, a0, a1, h1⟩ := v_draw b hr (by omega)
      obtain ⟨n, hn⟩ : ∃ n : Nat, 1 + x = n := ⟨(1 + x).toNat, by omega⟩
      obtain ⟨f, q2, r, e2, hr2, hf, h2⟩ := v_rowM n h1 (by omega)
      have e3 := v_law_row_right (.list q2) n f (by omega) hf
      refine ⟨.bool true, [.par q2, .un], ?_, rfl, q2, h2, rfl⟩
      generalize rowD n f = z at *
      rcases hr2 with rfl | rfl <;> simp [lcT, ce0_law_right, e1, hn, e2, e3, flatR, flatD])
    ⟨ps, hp, rfl⟩ (lim_of (by simp))
  rw [List.nil_append] at e6
  have hys : ys = [.bool true, .bool true, .bool true] := by
    match ys, hl, hy with
    | [a, b, c], _, hy => rw [hy a (by simp), hy b (by simp), hy c (by simp)]
  subst hys
  have ha : oAll [.list [.bool true, .bool true, .bool true]] = some (.at (.bool true)) := rfl
  refine ⟨rs, ?_⟩
  simp [F_law_right, mkB, den_law_right, e6, ha]
end Law

namespace Law
open PySem PySem.Spec PyProof.Rows L2 DL
theorem law_true (ns : List Int) (_ : ns.length ≤ 63) (_ : ∀ z ∈ ns, PySem.Builtin.Int.intBits z ≤ 1048576) : F_law [.list (ns.map .int)] = some (.fz (.bool true)) := by
  obtain ⟨l, m, hm, hmin, hmax⟩ : ∃ (l : Int) (m : Nat), m ≤ 3 ∧ oMin [.int 3, .int ((ns.map PyData.int).length : Nat)] = some (.at (.int l)) ∧ oMax [.int 1, .int l] = some (.at (.int (m : Int))) := by
    rw [List.length_map]
    by_cases h : ns.length < 3
    · by_cases h0 : ns.length ≤ 1
      · refine ⟨ns.length, 1, by omega, ?_, ?_⟩
        · rw [x_oMin2, if_pos (by omega)]
        · rw [x_oMax2, if_neg (by omega)]; rfl
      · refine ⟨ns.length, ns.length, by omega, ?_, ?_⟩
        · rw [x_oMin2, if_pos (by omega)]
        · rw [x_oMax2, if_pos (by omega)]
    · refine ⟨3, 3, by omega, ?_, ?_⟩
      · rw [x_oMin2, if_neg (by omega)]
      · rw [x_oMax2, if_pos (by omega)]; rfl
  have r1 := x_rng1 (j := (m : Int)) (by omega)
  rw [Int.toNat_natCast] at r1
  have hl : lcL (.nm 1) yesD ce0_law [1] (rngD 0 1 m) [.v (.list (ns.map .int)), .un] [] = some ((List.range m).map (fun _ => .bool true), [.v (.list (ns.map .int)), .un]) := by
    rw [rngD_map, lcL_map (fun _ => .bool true) (fun k hk => ?_) (lim_of (by simp; omega))]
    have hk' : k < m := List.mem_range.mp hk
    obtain ⟨ys, e, hy⟩ := v_pot ns k (by omega)
    obtain ⟨qs, e2⟩ := v_right hy
    rw [show (0 : Int) + (k : Int) * 1 = (k : Int) from by omega]
    generalize ns.map PyData.int = zs at *
    simp [lcT, ce0_law, e, e2]
  have ha := all_bools (fun _ => true) (List.range m)
  generalize ns.map PyData.int = zs at *
  generalize (List.range m).map (fun _ => PyData.bool true) = bs at *
  simp [F_law, mkA, den_law, hl, ha, r1, hmin, hmax, -x_oMin2, -x_oMax2]
end Law
namespace Law
open PySem PySem.Spec PyProof.Rows L2 DL
abbrev R : PySem.W.OpenRow := PySem.W.OpenLaw.row PySem.Challenge.rw_divisorsums_k34_whole_told_product_paper
def exB (K : PySem.W.Frag) : Bool := true
abbrev hk : PySem.W.Hook := hkE 4 fa fn exB
def ob (s : PySem.W.SharedT) : AlE := obE 4 fa fn exB (HandSHeadRun.getT s)
theorem ob_eq (s : PySem.W.SharedT) : ob s = hk.obs s.abs := obE_eq (HandSHeadRun.getT_eq s)
def loose : List PySem.Str := (["NumberError", "InvalidNumber", "InvalidRow", "MOST_ROW", "LONGEST", "WORTHS", "FIRST", "BREAK", "is_integer", "is_count", "is_list", "share_of", "power_of", "powers_of", "is_row_value", "want_row", "worth_at", "are_worths", "places_of", "worths_of", "worth_by", "built_of", "couples_to", "fails_at", "whole_breaks_of", "breaks_of", "is_productive_row", "is_productive", "prime_worths", "productive_part"] : List PySem.Str) ++ (["productive_to", "least_of", "product_paper_of", "is_couple", "is_first", "is_worded", "is_broken_at", "product_paper", "is_product_paper", "all_breaks", "first_break", "_law_pot", "_law_draw", "_law_pick", "_law_share", "_law_primes", "_law_power", "_law_parts", "_law_places", "_law_built", "_law_wholly", "_law_breaks", "_law_drawn_worth", "_law_row", "_law_paper", "_law_row_right", "_law_right"] : List PySem.Str)
theorem run (w : World) : HandSHeadRun.RunEq R (PySem.W.view R.prog [64]) hk ob 4000 loose w := by
  intro os
  kernel_rfl
end Law
open PySem PySem.W PySem.Calls PyProof.Rows
theorem PySem.Challenge.cw_divisorsums_k34_whole_told_product_paper_holds : PySem.Challenge.rw_divisorsums_k34_whole_told_product_paper.Holds := by
  w_on; o_law
  refine HandSHeadRun.head_any (r := OpenLaw.row PySem.Challenge.rw_divisorsums_k34_whole_told_product_paper) (q := view (OpenLaw.row PySem.Challenge.rw_divisorsums_k34_whole_told_product_paper).prog [64]) (H := Law.hk) (ob := Law.ob) (M := 4000) (loose := Law.loose) (d := HandSHeadRun.topDef (OpenLaw.row PySem.Challenge.rw_divisorsums_k34_whole_told_product_paper).prog 64) (kwd := []) Law.ob_eq
    (by kernel_rfl) (fun s => by kernel_rfl) Law.run (by kernel_rfl) (by kernel_rfl) (by kernel_rfl) (by rfl) (by first | assumption | decide +kernel) (by decide +kernel) ⟨rfl, rfl, rfl, rfl, rfl, by decide +kernel⟩ ?hw ?hc
  case hw => w_witness2
  case hc =>
    refine DL.walkG (l := PySem.Challenge.rw_divisorsums_k34_whole_told_product_paper) (n := 63) (k := 8) (x := "script") rfl (by decide) (by kernel_rfl) ⟨rfl, by decide, by decide⟩ ?F
    intro w mg fa h Y G hmg0
    obtain ⟨K, KX, c, t⟩ := Y
    have hmg : mg ("law" : PySem.Str) = some (.ref fa) := by
      have e : (HandSHeadRun.topDef (OpenLaw.row PySem.Challenge.rw_divisorsums_k34_whole_told_product_paper).prog 64).name = ("law" : PySem.Str) := by kernel_rfl
      rw [← e]
      exact hmg0
    obtain ⟨fd, hb, hF⟩ := Law.facts (P := (PySem.Challenge.rw_divisorsums_k34_whole_told_product_paper).prog) (w := w) KX G hmg c
    exact ⟨K, fd, Law.F_law, KX, hb, Law.law_true, hF⟩

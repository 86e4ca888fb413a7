import PyProof.Rows.All
import Wide.All
import OpenK.AllK
import Wide.FinOn
import HandS.ForMost
import HandS.SortInts
import HandS.Conv
import HandS.Flow
import HandS.Style
import HandS.Wide
import HandS.TupLe
import HandS.TupAny
import HandS.IsInst
import HandS.Zip
import KE.SortData
import KE.LtData
import KE.DataEq
import KE.DataMinMax
import HandS.RevTup
import HandS.TupLen
import KE.GoesEnum
import HandS.SetFor
import HandS.Strs
import PyProof.SliceList
import PySem.Challenge.RW_crosswire_k89_whole_mergers
set_option Elab.async false
set_option linter.all false
set_option maxRecDepth 100000
set_option maxHeartbeats 4000000
namespace PD
open PySem PySem.Spec PyProof.Rows L2

abbrev St := L2.St
/-! ### data held by the abstract heap -/
def keyD : Key → PyData
  | .inl i => .int i
  | .inr x => .str x

mutual
/-- v stands for the data d, all of whose objects are in the ghost heap G (or in the written part) -/
inductive Rp (K : PySem.W.Frag) (G : Hp) : V → PyData → Prop
  | non : Rp K G .non .none
  | bl (b : Bool) : Rp K G (.bl b) (.bool b)
  | int (i : Int) : Rp K G (.int i) (.int i)
  | str (x : Str) : Rp K G (.str x) (.str x)
  | lst {a : Addr} {xs : List V} {ds : List PyData} : SqL K G a xs → RpAll K G xs ds → Rp K G (.ref a) (.list ds)
  | tup {a : Addr} {xs : List V} {ds : List PyData} : SqT K G a xs → RpAll K G xs ds → Rp K G (.ref a) (.tuple ds)
  | dk {a : Addr} {kvs : List (Key × V)} {ds : List (PyData × PyData)} : Rd G a (.dK kvs) → RpK K G kvs ds → Rp K G (.ref a) (.dict ds)
  | dt {a : Addr} {kvs : List (List Key × V)} {ds : List (PyData × PyData)} : Rd G a (.dT kvs) → RpT K G kvs ds → Rp K G (.ref a) (.dict ds)
inductive RpAll (K : PySem.W.Frag) (G : Hp) : List V → List PyData → Prop
  | nil : RpAll K G [] []
  | cons {v : V} {vs : List V} {d : PyData} {ds : List PyData} : Rp K G v d → RpAll K G vs ds → RpAll K G (v :: vs) (d :: ds)
inductive RpK (K : PySem.W.Frag) (G : Hp) : List (Key × V) → List (PyData × PyData) → Prop
  | nil : RpK K G [] []
  | cons {k : Key} {v : V} {kvs : List (Key × V)} {d : PyData} {ds : List (PyData × PyData)} : Rp K G v d → RpK K G kvs ds → RpK K G ((k, v) :: kvs) ((keyD k, d) :: ds)
inductive RpT (K : PySem.W.Frag) (G : Hp) : List (List Key × V) → List (PyData × PyData) → Prop
  | nil : RpT K G [] []
  | cons {k : List Key} {v : V} {kvs : List (List Key × V)} {d : PyData} {ds : List (PyData × PyData)} : Rp K G v d → RpT K G kvs ds → RpT K G ((k, v) :: kvs) ((.tuple (k.map keyD), d) :: ds)
end

/-- what can be read in G can be read in H -/
def Sub (G H : Hp) : Prop := ∀ b u, Rd G b u → Rd H b u
theorem Sub.refl (G : Hp) : Sub G G := fun _ _ h => h
theorem Sub.trans {G H J : Hp} (a : Sub G H) (b : Sub H J) : Sub G J := fun c u h => b c u (a c u h)
theorem Sub.same {G H : Hp} (h : ∀ b o, G b = some o → H b = some o) : Sub G H := fun b u r => by
  rcases r with r | ⟨o, r⟩
  · exact .inl (h _ _ r)
  · exact .inr ⟨o, h _ _ r⟩
theorem SqL.sub {K : PySem.W.Frag} {G H : Hp} {a : Addr} {xs : List V} (s : Sub G H) (h : SqL K G a xs) : SqL K H a xs := by
  rcases h with h | h
  · exact .inl (s _ _ h)
  · exact .inr h
theorem SqT.sub {K : PySem.W.Frag} {G H : Hp} {a : Addr} {xs : List V} (s : Sub G H) (h : SqT K G a xs) : SqT K H a xs := by
  rcases h with h | h
  · exact .inl (s _ _ h)
  · exact .inr h

section
variable {K : PySem.W.Frag} {G H : Hp}
mutual
theorem Rp.sub (s : Sub G H) : ∀ (d : PyData) (v : V), Rp K G v d → Rp K H v d
  | .none, _, .non => .non
  | .bool _, _, .bl b => .bl b
  | .int _, _, .int i => .int i
  | .str _, _, .str x => .str x
  | .list ds, _, .lst h r => .lst (SqL.sub s h) (RpAll.sub s ds _ r)
  | .tuple ds, _, .tup h r => .tup (SqT.sub s h) (RpAll.sub s ds _ r)
  | .dict ds, _, .dk h r => .dk (s _ _ h) (RpK.sub s ds _ r)
  | .dict ds, _, .dt h r => .dt (s _ _ h) (RpT.sub s ds _ r)
theorem RpAll.sub (s : Sub G H) : ∀ (ds : List PyData) (vs : List V), RpAll K G vs ds → RpAll K H vs ds
  | [], _, .nil => .nil
  | d :: ds, _, .cons a b => .cons (Rp.sub s d _ a) (RpAll.sub s ds _ b)
theorem RpK.sub (s : Sub G H) : ∀ (ds : List (PyData × PyData)) (vs : List (Key × V)), RpK K G vs ds → RpK K H vs ds
  | [], _, .nil => .nil
  | (_, d) :: ds, _, .cons a b => .cons (Rp.sub s d _ a) (RpK.sub s ds _ b)
theorem RpT.sub (s : Sub G H) : ∀ (ds : List (PyData × PyData)) (vs : List (List Key × V)), RpT K G vs ds → RpT K H vs ds
  | [], _, .nil => .nil
  | (_, d) :: ds, _, .cons a b => .cons (Rp.sub s d _ a) (RpT.sub s ds _ b)
end
theorem RpAll.iff : ∀ {vs : List V} {ds : List PyData}, RpAll K G vs ds ↔ vs.length = ds.length ∧ ∀ (i : Nat) (v : V) (d : PyData), vs[i]? = some v → ds[i]? = some d → Rp K G v d
  | [], [] => ⟨fun _ => ⟨rfl, fun i v d h => by simp at h⟩, fun _ => .nil⟩
  | [], d :: ds => ⟨fun h => (nomatch h), fun h => by simp at h⟩
  | v :: vs, [] => ⟨fun h => (nomatch h), fun h => by simp at h⟩
  | v :: vs, d :: ds => by
    constructor
    · intro h
      cases h with
      | cons a b =>
        obtain ⟨h1, h2⟩ := RpAll.iff.mp b
        refine ⟨by simp [h1], fun i x y e1 e2 => ?_⟩
        cases i with
        | zero => simp at e1 e2; subst e1 e2; exact a
        | succ i => exact h2 i x y (by simpa using e1) (by simpa using e2)
    · rintro ⟨h1, h2⟩
      refine .cons (h2 0 v d rfl rfl) (RpAll.iff.mpr ⟨by simpa using h1, fun i x y e1 e2 => h2 (i + 1) x y (by simpa using e1) (by simpa using e2)⟩)
theorem RpAll.length {vs : List V} {ds : List PyData} (h : RpAll K G vs ds) : vs.length = ds.length := (RpAll.iff.mp h).1
theorem RpAll.get {vs : List V} {ds : List PyData} (h : RpAll K G vs ds) {i : Nat} {d : PyData} (e : ds[i]? = some d) : ∃ v, vs[i]? = some v ∧ Rp K G v d := by
  obtain ⟨h1, h2⟩ := RpAll.iff.mp h
  have hi : i < vs.length := by
    have := (List.getElem?_eq_some_iff.mp e).1
    omega
  exact ⟨vs[i], List.getElem?_eq_getElem hi, h2 i _ _ (List.getElem?_eq_getElem hi) e⟩
theorem RpAll.append {vs ws : List V} {ds es : List PyData} (h : RpAll K G vs ds) (h' : RpAll K G ws es) : RpAll K G (vs ++ ws) (ds ++ es) := by
  induction vs generalizing ds with
  | nil => cases h; exact h'
  | cons v vs ih => cases h with | cons a b => exact .cons a (ih b)
theorem RpAll.take {vs : List V} {ds : List PyData} (n : Nat) (h : RpAll K G vs ds) : RpAll K G (vs.take n) (ds.take n) := by
  induction n generalizing vs ds with
  | zero => exact .nil
  | succ n ih => cases h with
    | nil => exact .nil
    | cons a b => exact .cons a (ih b)
theorem RpAll.drop {vs : List V} {ds : List PyData} (n : Nat) (h : RpAll K G vs ds) : RpAll K G (vs.drop n) (ds.drop n) := by
  induction n generalizing vs ds with
  | zero => exact h
  | succ n ih => cases h with
    | nil => exact .nil
    | cons a b => exact ih b
theorem RpAll.set {vs : List V} {ds : List PyData} {v : V} {d : PyData} (n : Nat) (h : RpAll K G vs ds) (hv : Rp K G v d) : RpAll K G (vs.set n v) (ds.set n d) := by
  induction n generalizing vs ds with
  | zero => cases h with
    | nil => exact .nil
    | cons a b => exact .cons hv b
  | succ n ih => cases h with
    | nil => exact .nil
    | cons a b => exact .cons a (ih b)
theorem RpAll.eraseIdx {vs : List V} {ds : List PyData} (n : Nat) (h : RpAll K G vs ds) : RpAll K G (vs.eraseIdx n) (ds.eraseIdx n) := by
  induction n generalizing vs ds with
  | zero => cases h with
    | nil => exact .nil
    | cons a b => exact b
  | succ n ih => cases h with
    | nil => exact .nil
    | cons a b => exact .cons a (ih b)
theorem RpAll.reverse {vs : List V} {ds : List PyData} (h : RpAll K G vs ds) : RpAll K G vs.reverse ds.reverse := by
  induction vs generalizing ds with
  | nil => cases h; exact .nil
  | cons v vs ih => cases h with
    | cons a b => rw [List.reverse_cons, List.reverse_cons]; exact (ih b).append (.cons a .nil)
theorem RpAll.ints : ∀ ns : List Int, RpAll K G (ns.map V.int) (ns.map PyData.int)
  | [] => .nil
  | n :: ns => .cons (.int n) (RpAll.ints ns)
end

/-! ### the names' values -/
/-- a name's value: frozen data, or a list / dict that the name alone holds -/
inductive EV where
  | fr (d : PyData)
  | ol (ds : List PyData)
  | io (ds : List PyData)
  | ok (ds : List (PyData × PyData))
  | ot (ds : List (PyData × PyData))
def EV.own : EV → Bool
  | .fr _ => false
  | _ => true
/-- the data of a name's value -/
def EV.dat : EV → PyData
  | .fr d => d
  | .ol ds => .list ds
  | .io ds => .list ds
  | .ok ds => .dict ds
  | .ot ds => .dict ds
/-- the list is a caller's, handed in to be changed -/
def EV.isIo : EV → Bool
  | .io _ => true
  | _ => false
abbrev Rho := List (Option EV)
/-- what is to be left as it is, and where the list is that is handed in to be changed -/
structure Fr where
  hp : Hp
  io : Addr
instance : CoeFun Fr (fun _ => Addr → Option HO) := ⟨Fr.hp⟩
abbrev Fr.put (F : Fr) (p : Addr) (o : HO) : Fr := ⟨upd F.hp p o, F.io⟩

def OwnAt (K : PySem.W.Frag) (G H : Hp) (a : Addr) : EV → Prop
  | .fr _ => False
  | .ol ds => ∃ xs, H a = some (.lst xs) ∧ RpAll K G xs ds
  | .io ds => ∃ xs, H a = some (.lst xs) ∧ RpAll K G xs ds
  | .ok ds => ∃ kvs, H a = some (.dK kvs) ∧ RpK K G kvs ds
  | .ot ds => ∃ kvs, H a = some (.dT kvs) ∧ RpT K G kvs ds
/-- the value v of a name -/
def HoldsE (K : PySem.W.Frag) (F : Fr) (G H : Hp) (v : V) : EV → Prop
  | .fr d => Rp K G v d
  | e => ∃ a, v = .ref a ∧ OwnAt K G H a e ∧ G a = none ∧ F a = none ∧ (e.isIo = true → a = F.io)

/-- F: what is to be left as it is; G0, G: the ghost heap at the entry, and now -/
structure Rel (K : PySem.W.Frag) (F : Fr) (G0 G H : Hp) (σ : St) (ρ : Rho) : Prop where
  keep : ∀ b o, F b = some o → H b = some o
  g0 : ∀ b o, G0 b = some o → G b = some o
  gn : ∀ b o, G b = some o → G0 b = some o ∨ F b = none
  sub : Sub G H
  len : σ.length = ρ.length
  at_ : ∀ (i : Nat) (e : EV), ρ[i]? = some (some e) → ∃ v, σ[i]? = some (some v) ∧ HoldsE K F G H v e
  inj : ∀ (i j : Nat) (e e' : EV) (a : Addr), ρ[i]? = some (some e) → ρ[j]? = some (some e') → e.own = true → e'.own = true → σ[i]? = some (some (.ref a)) → σ[j]? = some (some (.ref a)) → i = j

section
variable {K : PySem.W.Frag} {F : Fr} {G0 G H H' : Hp} {σ : St} {ρ : Rho}
theorem OwnAt.mono {a : Addr} {e : EV} {G' : Hp} (s : Sub G G') (h : H' a = H a) (o : OwnAt K G H a e) : OwnAt K G' H' a e := by
  cases e with
  | fr d => exact o
  | ol ds => obtain ⟨xs, h1, h2⟩ := o; exact ⟨xs, h.trans h1, RpAll.sub s _ _ h2⟩
  | io ds => obtain ⟨xs, h1, h2⟩ := o; exact ⟨xs, h.trans h1, RpAll.sub s _ _ h2⟩
  | ok ds => obtain ⟨xs, h1, h2⟩ := o; exact ⟨xs, h.trans h1, RpK.sub s _ _ h2⟩
  | ot ds => obtain ⟨xs, h1, h2⟩ := o; exact ⟨xs, h.trans h1, RpT.sub s _ _ h2⟩
theorem OwnAt.what {a : Addr} {e : EV} (o : OwnAt K G H a e) : ∃ u, (H a = some u ∧ (∃ xs, u = HO.lst xs)) ∨ (H a = some u ∧ (∃ xs, u = HO.dK xs)) ∨ (H a = some u ∧ (∃ xs, u = HO.dT xs)) := by
  cases e with
  | fr d => exact o.elim
  | ol ds => obtain ⟨xs, h1, h2⟩ := o; exact ⟨_, .inl ⟨h1, _, rfl⟩⟩
  | io ds => obtain ⟨xs, h1, h2⟩ := o; exact ⟨_, .inl ⟨h1, _, rfl⟩⟩
  | ok ds => obtain ⟨xs, h1, h2⟩ := o; exact ⟨_, .inr (.inl ⟨h1, _, rfl⟩)⟩
  | ot ds => obtain ⟨xs, h1, h2⟩ := o; exact ⟨_, .inr (.inr ⟨h1, _, rfl⟩)⟩
theorem OwnAt.there {a : Addr} {e : EV} (o : OwnAt K G H a e) : ∃ u, H a = some u := by
  obtain ⟨u, h | h | h⟩ := o.what <;> exact ⟨u, h.1⟩
theorem HoldsE.dat_own {F : Fr} {G H : Hp} {v : V} {e : EV} (h : HoldsE K F G H v e) (ho : e.own = true) : ∃ a, v = .ref a ∧ OwnAt K G H a e ∧ G a = none ∧ F a = none ∧ (e.isIo = true → a = F.io) := by
  cases e with
  | fr d => cases ho
  | _ => exact h
theorem holds_of_own {F : Fr} {G H : Hp} {a : Addr} {e : EV} (h : OwnAt K G H a e) (h2 : G a = none) (h3 : F a = none) (h4 : e.isIo = true → a = F.io) : HoldsE K F G H (.ref a) e := by
  cases e with
  | fr d => exact h.elim
  | _ => exact ⟨a, rfl, h, h2, h3, h4⟩
theorem Rel.gsub (R : Rel K F G0 G H σ ρ) {p : Addr} (h : H p = none) : G p = none := by
  cases e : G p with
  | none => rfl
  | some o =>
    rcases R.sub p o (.inl e) with r | ⟨o', r⟩ <;> (rw [h] at r; cases r)
theorem Rel.ffree (R : Rel K F G0 G H σ ρ) {p : Addr} (h : H p = none) : F p = none := by
  cases e : F p with
  | none => rfl
  | some o => rw [R.keep p o e] at h; cases h
theorem Sub.upd {G : Hp} {p : Addr} {o : HO} (h : G p = none) : Sub G (upd G p o) := Sub.same fun b u e => by
  rw [upd_ne (ne_of_none e h)]; exact e
/-- a new object is laid and frozen -/
theorem Rel.frozen (R : Rel K F G0 G H σ ρ) {p : Addr} {o : HO} (h : H p = none) : Rel K F G0 (upd G p o) (upd H p o) σ ρ where
  keep := fun b u e => by rw [upd_ne (ne_of_none (R.keep b u e) h)]; exact R.keep b u e
  g0 := fun b u e => by rw [upd_ne (ne_of_none (R.g0 b u e) (R.gsub h))]; exact R.g0 b u e
  gn := fun b u e => by
    by_cases hb : b = p
    · subst hb; exact .inr (R.ffree h)
    · rw [upd_ne hb] at e; exact R.gn b u e
  sub := fun b u e => by
    by_cases hb : b = p
    · subst hb
      rcases e with e | ⟨o', e⟩
      · rw [upd_same] at e; exact .inl (by rw [upd_same]; exact e)
      · rw [upd_same] at e; exact .inr ⟨o', by rw [upd_same]; exact e⟩
    · have e' : Rd G b u := by
        rcases e with e | ⟨o', e⟩
        · rw [upd_ne hb] at e; exact .inl e
        · rw [upd_ne hb] at e; exact .inr ⟨o', e⟩
      rcases R.sub b u e' with r | ⟨o', r⟩
      · exact .inl (by rw [upd_ne hb]; exact r)
      · exact .inr ⟨o', by rw [upd_ne hb]; exact r⟩
  len := R.len
  at_ := fun i e he => by
    obtain ⟨v, hv, hh⟩ := R.at_ i e he
    refine ⟨v, hv, ?_⟩
    by_cases ho : e.own = true
    · obtain ⟨a, rfl, ow, ga, fa, ia⟩ := hh.dat_own ho
      obtain ⟨u, hu⟩ := ow.there
      have hne : a ≠ p := ne_of_none hu h
      exact holds_of_own (ow.mono (Sub.upd (R.gsub h)) (upd_ne hne)) (by rw [upd_ne hne]; exact ga) fa ia
    · cases e with
      | fr d => exact Rp.sub (Sub.upd (R.gsub h)) d v hh
      | _ => exact absurd rfl ho
  inj := R.inj
/-- a new object is laid and not frozen: nobody knows it yet -/
theorem Rel.laid (R : Rel K F G0 G H σ ρ) {p : Addr} {o : HO} (h : H p = none) : Rel K F G0 G (upd H p o) σ ρ where
  keep := fun b u e => by rw [upd_ne (ne_of_none (R.keep b u e) h)]; exact R.keep b u e
  g0 := R.g0
  gn := R.gn
  sub := fun b u e => by
    have e2 := R.sub b u e
    have hb : b ≠ p := by
      rcases e2 with r | ⟨_, r⟩ <;> exact ne_of_none r h
    rcases e2 with r | ⟨o', r⟩
    · exact .inl (by rw [upd_ne hb]; exact r)
    · exact .inr ⟨o', by rw [upd_ne hb]; exact r⟩
  len := R.len
  at_ := fun i e he => by
    obtain ⟨v, hv, hh⟩ := R.at_ i e he
    refine ⟨v, hv, ?_⟩
    by_cases ho : e.own = true
    · obtain ⟨a, rfl, ow, ga, fa, ia⟩ := hh.dat_own ho
      obtain ⟨u, hu⟩ := ow.there
      have hne : a ≠ p := ne_of_none hu h
      exact holds_of_own (ow.mono (Sub.refl G) (upd_ne hne)) ga fa ia
    · cases e with
      | fr d => exact hh
      | _ => exact absurd rfl ho
  inj := R.inj
/-- an object that is neither frozen nor held by a name is changed -/
theorem Rel.other (R : Rel K F G0 G H σ ρ) {p : Addr} {o : HO} (hG : G p = none) (hF : F p = none) (hn : ∀ (i : Nat) (e : EV), ρ[i]? = some (some e) → e.own = true → σ[i]? ≠ some (some (.ref p))) : Rel K F G0 G (upd H p o) σ ρ where
  keep := fun b u e => by rw [upd_ne (ne_of_none e hF)]; exact R.keep b u e
  g0 := R.g0
  gn := R.gn
  sub := fun b u e => by
    have hb : b ≠ p := by
      rcases e with r | ⟨_, r⟩ <;> exact ne_of_none r hG
    rcases R.sub b u e with r | ⟨o', r⟩
    · exact .inl (by rw [upd_ne hb]; exact r)
    · exact .inr ⟨o', by rw [upd_ne hb]; exact r⟩
  len := R.len
  at_ := fun i e he => by
    obtain ⟨v, hv, hh⟩ := R.at_ i e he
    refine ⟨v, hv, ?_⟩
    by_cases ho : e.own = true
    · obtain ⟨a, rfl, ow, ga, fa, ia⟩ := hh.dat_own ho
      have hne : a ≠ p := fun q => hn i e he ho (by rw [hv, q])
      exact holds_of_own (ow.mono (Sub.refl G) (upd_ne hne)) ga fa ia
    · cases e with
      | fr d => exact hh
      | _ => exact absurd rfl ho
  inj := R.inj
/-- a name gets a value -/
theorem Rel.put (R : Rel K F G0 G H σ ρ) {i : Nat} {v : V} {e : EV} (hh : HoldsE K F G H v e) (hn : e.own = true → ∀ a, v = .ref a → ∀ (j : Nat) (e' : EV), ρ[j]? = some (some e') → e'.own = true → σ[j]? ≠ some (some (.ref a))) :
    Rel K F G0 G H (σ.set i (some v)) (ρ.set i (some e)) where
  keep := R.keep
  g0 := R.g0
  gn := R.gn
  sub := R.sub
  len := by simp [R.len]
  at_ := fun j e' he => by
    by_cases hj : i = j
    · subst hj
      have hl : i < ρ.length := by
        have := (List.getElem?_eq_some_iff.mp he).1
        simpa using this
      rw [List.getElem?_set_self hl] at he
      cases he
      exact ⟨v, by rw [List.getElem?_set_self (by rw [R.len]; exact hl)], hh⟩
    · rw [List.getElem?_set_ne hj] at he
      obtain ⟨w, hw, h2⟩ := R.at_ j e' he
      exact ⟨w, by rw [List.getElem?_set_ne hj]; exact hw, h2⟩
  inj := fun j k e1 e2 a h1 h2 o1 o2 s1 s2 => by
    by_cases hj : i = j <;> by_cases hk : i = k
    · exact hj.symm.trans hk
    · subst hj
      have hl : i < ρ.length := by
        have := (List.getElem?_eq_some_iff.mp h1).1
        simpa using this
      rw [List.getElem?_set_self hl] at h1
      rw [List.getElem?_set_self (by rw [R.len]; exact hl)] at s1
      rw [List.getElem?_set_ne hk] at h2 s2
      cases h1
      exact absurd s2 (hn o1 a (Option.some.inj (Option.some.inj s1)) k e2 h2 o2)
    · subst hk
      have hl : i < ρ.length := by
        have := (List.getElem?_eq_some_iff.mp h2).1
        simpa using this
      rw [List.getElem?_set_self hl] at h2
      rw [List.getElem?_set_self (by rw [R.len]; exact hl)] at s2
      rw [List.getElem?_set_ne hj] at h1 s1
      cases h2
      exact absurd s1 (hn o2 a (Option.some.inj (Option.some.inj s2)) j e1 h1 o1)
    · rw [List.getElem?_set_ne hj] at h1 s1
      rw [List.getElem?_set_ne hk] at h2 s2
      exact R.inj j k e1 e2 a h1 h2 o1 o2 s1 s2
theorem Rel.putF (R : Rel K F G0 G H σ ρ) {i : Nat} {v : V} {d : PyData} (hh : Rp K G v d) : Rel K F G0 G H (σ.set i (some v)) (ρ.set i (some (.fr d))) :=
  R.put (e := .fr d) hh fun h => by cases h
/-- names are forgotten -/
theorem Rel.drop (R : Rel K F G0 G H σ ρ) {ρ' : Rho} (hl : ρ'.length = ρ.length) (h : ∀ (i : Nat) (e : EV), ρ'[i]? = some (some e) → ρ[i]? = some (some e)) : Rel K F G0 G H σ ρ' :=
  ⟨R.keep, R.g0, R.gn, R.sub, R.len.trans hl.symm, fun i e he => R.at_ i e (h i e he), fun i j e e' a h1 h2 => R.inj i j e e' a (h i e h1) (h j e' h2)⟩
/-- an owned object is changed -/
theorem Rel.write (R : Rel K F G0 G H σ ρ) {i : Nat} {e e' : EV} {a : Addr} {o : HO} (he : ρ[i]? = some (some e)) (ho : e.own = true) (hs : σ[i]? = some (some (.ref a))) (hn : OwnAt K G (upd H a o) a e') (hio : e'.isIo = e.isIo := by rfl) :
    Rel K F G0 G (upd H a o) σ (ρ.set i (some e')) := by
  obtain ⟨v, hv, hh⟩ := R.at_ i e he
  obtain ⟨a', rfl, ow, ga, fa, ia⟩ := hh.dat_own ho
  rw [hs] at hv
  cases hv
  have he' : e'.own = true := by cases e' with
    | fr d => exact hn.elim
    | _ => rfl
  have hl : i < ρ.length := (List.getElem?_eq_some_iff.mp he).1
  have oth : ∀ (j : Nat) (e2 : EV), ρ[j]? = some (some e2) → j ≠ i → e2.own = true → σ[j]? ≠ some (some (.ref a)) := fun j e2 h2 hj o2 q => hj (R.inj j i e2 e a h2 he o2 ho q hs)
  refine ⟨fun b u q => ?_, R.g0, R.gn, fun b u q => ?_, by simp [R.len], fun j e2 h2 => ?_, fun j k e1 e2 b h1 h2 o1 o2 s1 s2 => ?_⟩
  · rw [upd_ne (ne_of_none q fa)]; exact R.keep b u q
  · have hb : b ≠ a := by rcases q with r | ⟨_, r⟩ <;> exact ne_of_none r ga
    rcases R.sub b u q with r | ⟨o', r⟩
    · exact .inl (by rw [upd_ne hb]; exact r)
    · exact .inr ⟨o', by rw [upd_ne hb]; exact r⟩
  · by_cases hj : i = j
    · subst hj
      rw [List.getElem?_set_self hl] at h2
      cases h2
      exact ⟨_, hs, holds_of_own hn ga fa (fun q => ia (by rw [← hio]; exact q))⟩
    · rw [List.getElem?_set_ne hj] at h2
      obtain ⟨w, hw, hh2⟩ := R.at_ j e2 h2
      refine ⟨w, hw, ?_⟩
      by_cases o2 : e2.own = true
      · obtain ⟨b, rfl, ow2, gb, fb, ib⟩ := hh2.dat_own o2
        have hne : b ≠ a := fun q => oth j e2 h2 (Ne.symm hj) o2 (by rw [hw, q])
        exact holds_of_own (ow2.mono (Sub.refl G) (upd_ne hne)) gb fb ib
      · cases e2 with
        | fr d => exact hh2
        | _ => exact absurd rfl o2
  · by_cases hj : i = j <;> by_cases hk : i = k
    · exact hj.symm.trans hk
    · subst hj
      rw [List.getElem?_set_ne hk] at h2
      rw [hs] at s1; cases s1
      exact absurd s2 (oth k e2 h2 (Ne.symm hk) o2)
    · subst hk
      rw [List.getElem?_set_ne hj] at h1
      rw [hs] at s2; cases s2
      exact absurd s1 (oth j e1 h1 (Ne.symm hj) o1)
    · rw [List.getElem?_set_ne hj] at h1
      rw [List.getElem?_set_ne hk] at h2
      exact R.inj j k e1 e2 b h1 h2 o1 o2 s1 s2
/-- an owned object is frozen -/
theorem Rel.freeze (R : Rel K F G0 G H σ ρ) {i : Nat} {e : EV} (he : ρ[i]? = some (some e)) : ∃ G', (∀ b o, G b = some o → G' b = some o) ∧ Rel K F G0 G' H σ (ρ.set i (some (.fr e.dat))) := by
  have hl : i < ρ.length := (List.getElem?_eq_some_iff.mp he).1
  obtain ⟨v, hv, hh⟩ := R.at_ i e he
  by_cases ho : e.own = true
  · obtain ⟨a, rfl, ow, ga, fa, ia⟩ := hh.dat_own ho
    obtain ⟨u, hu⟩ := ow.there
    have hs : Sub G (upd G a u) := Sub.upd ga
    have new : Rp K (upd G a u) (.ref a) e.dat := by
      cases e with
      | fr d => cases ho
      | ol ds => obtain ⟨xs, h1, h2⟩ := ow; rw [hu] at h1; cases h1; exact .lst (SqL.of upd_same) (RpAll.sub hs _ _ h2)
      | io ds => obtain ⟨xs, h1, h2⟩ := ow; rw [hu] at h1; cases h1; exact .lst (SqL.of upd_same) (RpAll.sub hs _ _ h2)
      | ok ds => obtain ⟨xs, h1, h2⟩ := ow; rw [hu] at h1; cases h1; exact .dk (.inl upd_same) (RpK.sub hs _ _ h2)
      | ot ds => obtain ⟨xs, h1, h2⟩ := ow; rw [hu] at h1; cases h1; exact .dt (.inl upd_same) (RpT.sub hs _ _ h2)
    have oth : ∀ (j : Nat) (e2 : EV), ρ[j]? = some (some e2) → j ≠ i → e2.own = true → σ[j]? ≠ some (some (.ref a)) := fun j e2 h2 hj o2 q => hj (R.inj j i e2 e a h2 he o2 ho q hv)
    refine ⟨upd G a u, fun b o q => by rw [upd_ne (ne_of_none q ga)]; exact q, R.keep, fun b o q => ?_, fun b o q => ?_, fun b w q => ?_, by simp [R.len], fun j e2 h2 => ?_, fun j k e1 e2 b h1 h2 o1 o2 s1 s2 => ?_⟩
    · have q' := R.g0 b o q
      rw [upd_ne (ne_of_none q' ga)]; exact q'
    · by_cases hb : b = a
      · subst hb; exact .inr fa
      · rw [upd_ne hb] at q; exact R.gn b o q
    · by_cases hb : b = a
      · subst hb
        rcases q with q | ⟨o', q⟩
        · rw [upd_same] at q; exact .inl (by rw [hu]; exact q)
        · rw [upd_same] at q; exact .inr ⟨o', by rw [hu]; exact q⟩
      · refine R.sub b w ?_
        rcases q with q | ⟨o', q⟩
        · rw [upd_ne hb] at q; exact .inl q
        · rw [upd_ne hb] at q; exact .inr ⟨o', q⟩
    · by_cases hj : i = j
      · subst hj
        rw [List.getElem?_set_self hl] at h2
        cases h2
        exact ⟨_, hv, new⟩
      · rw [List.getElem?_set_ne hj] at h2
        obtain ⟨w, hw, hh2⟩ := R.at_ j e2 h2
        refine ⟨w, hw, ?_⟩
        by_cases o2 : e2.own = true
        · obtain ⟨b, rfl, ow2, gb, fb, ib⟩ := hh2.dat_own o2
          have hne : b ≠ a := fun q => oth j e2 h2 (Ne.symm hj) o2 (by rw [hw, q])
          exact holds_of_own (ow2.mono hs rfl) (by rw [upd_ne hne]; exact gb) fb ib
        · cases e2 with
          | fr d => exact Rp.sub hs d w hh2
          | _ => exact absurd rfl o2
    · have n1 : i ≠ j := fun q => by
        subst q; rw [List.getElem?_set_self hl] at h1; cases h1; cases o1
      have n2 : i ≠ k := fun q => by
        subst q; rw [List.getElem?_set_self hl] at h2; cases h2; cases o2
      rw [List.getElem?_set_ne n1] at h1
      rw [List.getElem?_set_ne n2] at h2
      exact R.inj j k e1 e2 b h1 h2 o1 o2 s1 s2
  · cases e with
    | fr d =>
      refine ⟨G, fun _ _ q => q, ?_⟩
      have : ρ.set i (some (EV.fr (EV.fr d).dat)) = ρ := by
        apply List.ext_getElem?
        intro j
        by_cases hj : i = j
        · subst hj; rw [List.getElem?_set_self hl, he]; rfl
        · rw [List.getElem?_set_ne hj]
      rw [this]; exact R
    | _ => exact absurd rfl ho
/-- more is to be left as it is -/
theorem Rel.guard (R : Rel K F G0 G H σ ρ) {p : Addr} {o : HO} (h : H p = some o) (hG : G p = none) (hn : ∀ (i : Nat) (e : EV), ρ[i]? = some (some e) → e.own = true → σ[i]? ≠ some (some (.ref p))) : Rel K (F.put p o) G0 G H σ ρ where
  keep := fun b u e => by
    have e : upd F.hp p o b = some u := e
    by_cases hb : b = p
    · subst hb; rw [upd_same] at e; cases e; exact h
    · rw [upd_ne hb] at e; exact R.keep b u e
  g0 := R.g0
  gn := fun b u e => by
    rcases R.gn b u e with q | q
    · exact .inl q
    · exact .inr (by show upd F.hp p o b = none; rw [upd_ne (ne_of_none e hG)]; exact q)
  sub := R.sub
  len := R.len
  at_ := fun i e he => by
    obtain ⟨v, hv, hh⟩ := R.at_ i e he
    refine ⟨v, hv, ?_⟩
    by_cases ho : e.own = true
    · obtain ⟨a, rfl, ow, ga, fa, ia⟩ := hh.dat_own ho
      have hne : a ≠ p := fun q => hn i e he ho (by rw [hv, q])
      exact holds_of_own ow ga (by show upd F.hp p o a = none; rw [upd_ne hne]; exact fa) ia
    · cases e with
      | fr d => exact hh
      | _ => exact absurd rfl ho
  inj := R.inj
theorem Rel.unguard {p : Addr} {o : HO} (R : Rel K (F.put p o) G0 G H σ ρ) (hF : F p = none) : Rel K F G0 G H σ ρ where
  keep := fun b u e => R.keep b u (by show upd F.hp p o b = some u; rw [upd_ne (ne_of_none e hF)]; exact e)
  g0 := R.g0
  gn := fun b u e => by
    rcases R.gn b u e with q | q
    · exact .inl q
    · refine .inr ?_
      have q : upd F.hp p o b = none := q
      by_cases hb : b = p
      · subst hb; exact hF
      · rw [upd_ne hb] at q; exact q
  sub := R.sub
  len := R.len
  at_ := fun i e he => by
    obtain ⟨v, hv, hh⟩ := R.at_ i e he
    refine ⟨v, hv, ?_⟩
    by_cases ho : e.own = true
    · obtain ⟨a, rfl, ow, ga, fa, ia⟩ := hh.dat_own ho
      refine holds_of_own ow ga ?_ ia
      have fa : upd F.hp p o a = none := fa
      by_cases hb : a = p
      · subst hb; exact hF
      · rw [upd_ne hb] at fa; exact fa
    · cases e with
      | fr d => exact hh
      | _ => exact absurd rfl ho
  inj := R.inj
end
end PD
namespace PD
open PySem PySem.Spec PyProof.Rows L2

/-! ### consequence -/
section
variable {X : Cx}
theorem _root_.L2.PE.imp {e : Expr} {t t' : TE} (h : PE X e t) (hi : ∀ σ H Q, t' σ H Q → t σ H Q) : PE X e t' := ⟨fun pins s σ H Q I hw => h.run pins s σ H Q I (hi _ _ _ hw)⟩
theorem _root_.L2.PT.imp {e : Expr} {t t' : TT} (h : PT X e t) (hi : ∀ σ H Q, t' σ H Q → t σ H Q) : PT X e t' := ⟨fun pins s σ H Q I hw => h.run pins s σ H Q I (hi _ _ _ hw)⟩
theorem _root_.L2.PW.imp {e : Expr} {t t' : TT} (h : PW X e t) (hi : ∀ σ H Q, t' σ H Q → t σ H Q) : PW X e t' := ⟨fun wh pins s σ H Q I hw => h.run wh pins s σ H Q I (hi _ _ _ hw)⟩
theorem _root_.L2.PA.imp {es : List Expr} {t t' : TA} (h : PA X es t) (hi : ∀ σ H Q, t' σ H Q → t σ H Q) : PA X es t' := ⟨fun pos pins s σ H Q I hw => h.run pos pins s σ H Q I (hi _ _ _ hw)⟩
theorem _root_.L2.PS.imp {st : Stmt} {t t' : TS} (h : PS X st t) (hi : ∀ D σ H, t' D σ H → t D σ H) : PS X st t' := ⟨fun pins s σ H D I hw => h.run pins s σ H D I (hi _ _ _ hw)⟩
theorem _root_.L2.PSs.imp {st : List Stmt} {t t' : TS} (h : PSs X st t) (hi : ∀ D σ H, t' D σ H → t D σ H) : PSs X st t' := ⟨fun pins s σ H D I hw => h.run pins s σ H D I (hi _ _ _ hw)⟩
theorem _root_.L2.PI.imp {tg iter : Expr} {t t' : TI} (h : PI X tg iter t) (hi : ∀ σ H Q, t' σ H Q → t σ H Q) : PI X tg iter t' := ⟨fun pins s σ H R I hw => h.run pins s σ H R I (hi _ _ _ hw)⟩
theorem _root_.L2.PG.imp {tg : Expr} {t t' : TG} (h : PG X tg t) (hi : ∀ v σ H Q, t' v σ H Q → t v σ H Q) : PG X tg t' := ⟨fun pins s σ H v u Q I r hw => h.run pins s σ H v u Q I r (hi _ _ _ _ hw)⟩
end

/-! ### the judgements' readings -/
abbrev M (α : Type) := Rho → Option (α × Rho)
abbrev Opd := Rho → Option ((Rho → Option PyData) × Rho)
abbrev Ext (G G' : Hp) : Prop := ∀ b o, G b = some o → G' b = some o
theorem Ext.refl (G : Hp) : Ext G G := fun _ _ h => h
theorem Ext.trans {G G1 G2 : Hp} (a : Ext G G1) (b : Ext G1 G2) : Ext G G2 := fun c o h => b c o (a c o h)
theorem Ext.sub {G G' : Hp} (h : Ext G G') : Sub G G' := Sub.same h

/-- a value whose own object may still change; its items are frozen -/
def RpTop (K : PySem.W.Frag) (G H : Hp) (v : V) : PyData → Prop
  | .list ds => ∃ a xs, v = .ref a ∧ SqL K H a xs ∧ RpAll K G xs ds
  | .tuple ds => ∃ a xs, v = .ref a ∧ SqT K G a xs ∧ RpAll K G xs ds
  | .dict ds => ∃ a, v = .ref a ∧ ((∃ kvs, Rd H a (.dK kvs) ∧ RpK K G kvs ds) ∨ ∃ kvs, Rd H a (.dT kvs) ∧ RpT K G kvs ds)
  | d => Rp K G v d
section
variable {K : PySem.W.Frag} {F : Fr} {G0 G H : Hp} {σ : St} {ρ : Rho}
theorem Rp.top {d : PyData} {v : V} (s : Sub G H) (h : Rp K G v d) : RpTop K G H v d := by
  cases h with
  | lst a b => exact ⟨_, _, rfl, SqL.sub s a, b⟩
  | tup a b => exact ⟨_, _, rfl, a, b⟩
  | dk a b => exact ⟨_, rfl, .inl ⟨_, s _ _ a, b⟩⟩
  | dt a b => exact ⟨_, rfl, .inr ⟨_, s _ _ a, b⟩⟩
  | non => exact Rp.non
  | bl b => exact Rp.bl b
  | int i => exact Rp.int i
  | str x => exact Rp.str x
theorem RpTop.rp {d : PyData} {v : V} (s : Sub G H) (h : RpTop K G H v d) : Rp K H v d := by
  cases d with
  | list ds => obtain ⟨a, xs, rfl, h1, h2⟩ := h; exact .lst h1 (RpAll.sub s _ _ h2)
  | tuple ds => obtain ⟨a, xs, rfl, h1, h2⟩ := h; exact .tup (SqT.sub s h1) (RpAll.sub s _ _ h2)
  | dict ds =>
    obtain ⟨a, rfl, ⟨kvs, h1, h2⟩ | ⟨kvs, h1, h2⟩⟩ := h
    · exact .dk h1 (RpK.sub s _ _ h2)
    · exact .dt h1 (RpT.sub s _ _ h2)
  | none => exact Rp.sub s _ _ h
  | bool b => exact Rp.sub s _ _ h
  | int i => exact Rp.sub s _ _ h
  | str x => exact Rp.sub s _ _ h
mutual
theorem Rp.dp : ∀ (d : PyData) (v : V), Rp K G v d → d.plain = true → Dp K G v d
  | .none, _, .non, _ => .non
  | .bool _, _, .bl b, _ => .bl b
  | .int _, _, .int i, _ => .int i
  | .str _, _, .str x, _ => .str x
  | .list ds, _, .lst h r, p => .lst h (RpAll.dp ds _ r (by rw [PyData.plain] at p; exact p))
  | .tuple ds, _, .tup h r, p => .tup h (RpAll.dp ds _ r (by rw [PyData.plain] at p; exact p))
  | .dict _, _, _, p => by rw [PyData.plain] at p; cases p
theorem RpAll.dp : ∀ (ds : List PyData) (vs : List V), RpAll K G vs ds → PyData.plainAll ds = true → DpAll K G vs ds
  | [], _, .nil, _ => .nil
  | d :: ds, _, .cons a b, p => by
    rw [PyData.plainAll, Bool.and_eq_true] at p
    exact .cons (Rp.dp d _ a p.1) (RpAll.dp ds _ b p.2)
end
end

/-- the end: the value stands for d -/
abbrev Kd (K : PySem.W.Frag) (F : Fr) (G0 G : Hp) (σ : St) (ρ : Rho) (Q : VK) (d : PyData) : Prop := ∀ v G' H', Ext G G' → Rel K F G0 G' H' σ ρ → Rp K G' v d → Q v H'
def eD (K : PySem.W.Frag) (f : M PyData) : TE := fun σ H Q => ∃ F G0 G ρ d ρ', Rel K F G0 G H σ ρ ∧ f ρ = some (d, ρ') ∧ Kd K F G0 G σ ρ' Q d
def oD (K : PySem.W.Frag) (g : Opd) : TE := fun σ H Q => ∃ F G0 G ρ r ρ', Rel K F G0 G H σ ρ ∧ g ρ = some (r, ρ') ∧ ∀ v G' H', Ext G G' → Rel K F G0 G' H' σ ρ' →
  (∀ G2 H2 ρ2 d, Ext G' G2 → Rel K F G0 G2 H2 σ ρ2 → r ρ2 = some d → RpTop K G2 H2 v d) → Q v H'
/-- nobody holds the object at a -/
def Loose (F : Fr) (G : Hp) (σ : St) (ρ : Rho) (a : Addr) : Prop := G a = none ∧ F a = none ∧ ∀ (i : Nat) (e : EV), ρ[i]? = some (some e) → e.own = true → σ[i]? ≠ some (some (.ref a))
/-- a new list -/
def nD (K : PySem.W.Frag) (f : M (List PyData)) : TE := fun σ H Q => ∃ F G0 G ρ ds ρ', Rel K F G0 G H σ ρ ∧ f ρ = some (ds, ρ') ∧ ∀ a xs G' H', Ext G G' → Rel K F G0 G' H' σ ρ' → H' a = some (.lst xs) → Loose F G' σ ρ' a → RpAll K G' xs ds → Q (.ref a) H'
/-- a new dict -/
def ndK (K : PySem.W.Frag) (f : M (List (PyData × PyData))) : TE := fun σ H Q => ∃ F G0 G ρ ds ρ', Rel K F G0 G H σ ρ ∧ f ρ = some (ds, ρ') ∧ ∀ a kvs G' H', Ext G G' → Rel K F G0 G' H' σ ρ' → H' a = some (.dK kvs) → Loose F G' σ ρ' a → RpK K G' kvs ds → Q (.ref a) H'
def ndT (K : PySem.W.Frag) (f : M (List (PyData × PyData))) : TE := fun σ H Q => ∃ F G0 G ρ ds ρ', Rel K F G0 G H σ ρ ∧ f ρ = some (ds, ρ') ∧ ∀ a kvs G' H', Ext G G' → Rel K F G0 G' H' σ ρ' → H' a = some (.dT kvs) → Loose F G' σ ρ' a → RpT K G' kvs ds → Q (.ref a) H'
/-- an argument list -/
def aD (K : PySem.W.Frag) (f : M (List PyData)) : TA := fun σ H Q => ∃ F G0 G ρ ds ρ', Rel K F G0 G H σ ρ ∧ f ρ = some (ds, ρ') ∧ ∀ vs G' H', Ext G G' → Rel K F G0 G' H' σ ρ' → RpAll K G' vs ds → Q vs H'
/-- a test -/
def bD (K : PySem.W.Frag) (f : M Bool) : TT := fun σ H Q => ∃ F G0 G ρ b ρ', Rel K F G0 G H σ ρ ∧ f ρ = some (b, ρ') ∧ ∀ G' H', Ext G G' → Rel K F G0 G' H' σ ρ' → Q b H'

section
variable {K : PySem.W.Frag} {F : Fr} {G0 G H : Hp} {σ : St} {ρ : Rho}
theorem Rel.loose (R : Rel K F G0 G H σ ρ) {p : Addr} (h : H p = none) : Loose F G σ ρ p := by
  refine ⟨R.gsub h, R.ffree h, fun i e he ho q => ?_⟩
  obtain ⟨v, hv, hh⟩ := R.at_ i e he
  obtain ⟨a, rfl, ow, _, _, _⟩ := hh.dat_own ho
  rw [hv] at q; cases q
  obtain ⟨u, hu⟩ := ow.there
  rw [h] at hu; cases hu
theorem Loose.frozen {o : HO} {p : Addr} (R : Rel K F G0 G H σ ρ) (h : H p = some o) (l : Loose F G σ ρ p) : Rel K F G0 (upd G p o) H σ ρ where
  keep := R.keep
  g0 := fun b u e => by
    have e' := R.g0 b u e
    rw [upd_ne (ne_of_none e' l.1)]; exact e'
  gn := fun b u e => by
    by_cases hb : b = p
    · subst hb; exact .inr l.2.1
    · rw [upd_ne hb] at e; exact R.gn b u e
  sub := fun b u e => by
    by_cases hb : b = p
    · subst hb
      rcases e with e | ⟨o', e⟩
      · rw [upd_same] at e; exact .inl (by rw [h]; exact e)
      · rw [upd_same] at e; exact .inr ⟨o', by rw [h]; exact e⟩
    · refine R.sub b u ?_
      rcases e with e | ⟨o', e⟩
      · rw [upd_ne hb] at e; exact .inl e
      · rw [upd_ne hb] at e; exact .inr ⟨o', e⟩
  len := R.len
  at_ := fun i e he => by
    obtain ⟨v, hv, hh⟩ := R.at_ i e he
    refine ⟨v, hv, ?_⟩
    by_cases ho : e.own = true
    · obtain ⟨a, rfl, ow, ga, fa, ia⟩ := hh.dat_own ho
      have hne : a ≠ p := fun q => l.2.2 i e he ho (by rw [hv, q])
      exact holds_of_own (ow.mono (Sub.upd l.1) rfl) (by rw [upd_ne hne]; exact ga) fa ia
    · cases e with
      | fr d => exact Rp.sub (Sub.upd l.1) d v hh
      | _ => exact absurd rfl ho
  inj := R.inj
theorem Ext.upd {p : Addr} {o : HO} (h : G p = none) : Ext G (upd G p o) := fun b u e => by rw [upd_ne (ne_of_none e h)]; exact e
end

section
variable {X : Cx}
/-! ### from one form to another -/
def eN (f : M (List PyData)) : M PyData := fun ρ => (f ρ).bind fun p => some (.list p.1, p.2)
theorem de_nd {e : Expr} {f : M (List PyData)} (h : PE X e (nD X.K f)) : PE X e (eD X.K (eN f)) := h.imp fun σ H Q ⟨F, G0, G, ρ, d, ρ', R, hf, q⟩ => by
  unfold eN at hf
  cases e1 : f ρ with
  | none => rw [e1] at hf; cases hf
  | some p =>
    rw [e1] at hf; cases hf
    refine ⟨F, G0, G, ρ, p.1, p.2, R, e1, fun a xs G' H' x R' hH l r => ?_⟩
    exact q (.ref a) (upd G' a (.lst xs)) H' (x.trans (Ext.upd l.1)) (l.frozen R' hH) (.lst (SqL.of upd_same) (RpAll.sub (Sub.upd l.1) _ _ r))
def eK (f : M (List (PyData × PyData))) : M PyData := fun ρ => (f ρ).bind fun p => some (.dict p.1, p.2)
theorem de_ndk {e : Expr} {f : M (List (PyData × PyData))} (h : PE X e (ndK X.K f)) : PE X e (eD X.K (eK f)) := h.imp fun σ H Q ⟨F, G0, G, ρ, d, ρ', R, hf, q⟩ => by
  unfold eK at hf
  cases e1 : f ρ with
  | none => rw [e1] at hf; cases hf
  | some p =>
    rw [e1] at hf; cases hf
    refine ⟨F, G0, G, ρ, p.1, p.2, R, e1, fun a xs G' H' x R' hH l r => ?_⟩
    exact q (.ref a) (upd G' a (.dK xs)) H' (x.trans (Ext.upd l.1)) (l.frozen R' hH) (.dk (.inl upd_same) (RpK.sub (Sub.upd l.1) _ _ r))
theorem de_ndt {e : Expr} {f : M (List (PyData × PyData))} (h : PE X e (ndT X.K f)) : PE X e (eD X.K (eK f)) := h.imp fun σ H Q ⟨F, G0, G, ρ, d, ρ', R, hf, q⟩ => by
  unfold eK at hf
  cases e1 : f ρ with
  | none => rw [e1] at hf; cases hf
  | some p =>
    rw [e1] at hf; cases hf
    refine ⟨F, G0, G, ρ, p.1, p.2, R, e1, fun a xs G' H' x R' hH l r => ?_⟩
    exact q (.ref a) (upd G' a (.dT xs)) H' (x.trans (Ext.upd l.1)) (l.frozen R' hH) (.dt (.inl upd_same) (RpT.sub (Sub.upd l.1) _ _ r))
def oE (f : M PyData) : Opd := fun ρ => (f ρ).bind fun p => some (fun _ => some p.1, p.2)
/-- an operand that is frozen data -/
theorem do_e {e : Expr} {f : M PyData} (h : PE X e (eD X.K f)) : PE X e (oD X.K (oE f)) := h.imp fun σ H Q ⟨F, G0, G, ρ, r, ρ', R, hf, q⟩ => by
  unfold oE at hf
  cases e1 : f ρ with
  | none => rw [e1] at hf; cases hf
  | some p =>
    rw [e1] at hf; cases hf
    refine ⟨F, G0, G, ρ, p.1, p.2, R, e1, fun v G' H' x R' hv => q v G' H' x R' fun G2 H2 ρ2 d x2 R2 hd => ?_⟩
    cases hd
    exact Rp.top R2.sub (Rp.sub x2.sub _ _ hv)

/-! ### names, constants -/
def eVar (i : Nat) : M PyData := fun ρ => match ρ[i]? with
  | some (some (.fr d)) => some (d, ρ)
  | _ => none
theorem de_var {e : Expr} (i : Nat) (h : PE X e (tVar i)) : PE X e (eD X.K (eVar i)) := h.imp fun σ H Q ⟨F, G0, G, ρ, d, ρ', R, hf, q⟩ => by
  unfold eVar at hf
  split at hf
  · rename_i d' he
    cases hf
    obtain ⟨v, hv, hh⟩ := R.at_ i _ he
    exact ⟨v, hv, q v G H (Ext.refl G) R hh⟩
  · cases hf
def ownD (ρ : Rho) (i : Nat) : Option PyData := match ρ[i]? with
  | some (some e) => if e.own then some e.dat else none
  | _ => none
def oOwn (i : Nat) : Opd := fun ρ => (ownD ρ i).bind fun _ => some (fun ρ2 => ownD ρ2 i, ρ)
theorem RpTop.of_own {K : PySem.W.Frag} {F : Fr} {G0 G H : Hp} {σ : St} {ρ : Rho} (R : Rel K F G0 G H σ ρ) {i : Nat} {d : PyData} (h : ownD ρ i = some d) : ∃ a, σ[i]? = some (some (.ref a)) ∧ RpTop K G H (.ref a) d := by
  unfold ownD at h
  split at h
  · rename_i e he
    split at h
    · rename_i ho
      cases h
      obtain ⟨v, hv, hh⟩ := R.at_ i _ he
      obtain ⟨a, rfl, ow, ga, fa, ia⟩ := hh.dat_own ho
      refine ⟨a, hv, ?_⟩
      cases e with
      | fr d => cases ho
      | ol ds => obtain ⟨xs, h1, h2⟩ := ow; exact ⟨_, _, rfl, SqL.of h1, h2⟩
      | io ds => obtain ⟨xs, h1, h2⟩ := ow; exact ⟨_, _, rfl, SqL.of h1, h2⟩
      | ok ds => obtain ⟨xs, h1, h2⟩ := ow; exact ⟨_, rfl, .inl ⟨_, .inl h1, h2⟩⟩
      | ot ds => obtain ⟨xs, h1, h2⟩ := ow; exact ⟨_, rfl, .inr ⟨_, .inl h1, h2⟩⟩
    · cases h
  · cases h
/-- an operand that is a name's own list or dict -/
theorem do_own {e : Expr} (i : Nat) (h : PE X e (tVar i)) : PE X e (oD X.K (oOwn i)) := h.imp fun σ H Q ⟨F, G0, G, ρ, r, ρ', R, hf, q⟩ => by
  unfold oOwn at hf
  cases e1 : ownD ρ i with
  | none => rw [e1] at hf; cases hf
  | some d =>
    rw [e1] at hf; cases hf
    obtain ⟨a, ha, _⟩ := RpTop.of_own R e1
    refine ⟨.ref a, ha, q _ G H (Ext.refl G) R fun G2 H2 ρ2 d2 x2 R2 h2 => ?_⟩
    obtain ⟨a2, ha2, top⟩ := RpTop.of_own R2 h2
    rw [ha] at ha2; cases ha2
    exact top
def eC (d : PyData) : M PyData := fun ρ => some (d, ρ)
theorem de_c {e : Expr} {v : V} {d : PyData} (h : PE X e (tC v)) (hd : ∀ G, Rp X.K G v d) : PE X e (eD X.K (eC d)) := h.imp fun σ H Q ⟨F, G0, G, ρ, d', ρ', R, hf, q⟩ => by
  cases hf
  exact q v G H (Ext.refl G) R (hd G)
theorem de_int {i j pos} : PE X (.Constant (.int i) j pos) (eD X.K (eC (.int i))) := de_c pe_int fun _ => .int i
theorem de_bl {b j pos} : PE X (.Constant (.bool b) j pos) (eD X.K (eC (.bool b))) := de_c pe_bl fun _ => .bl b
theorem de_non {j pos} : PE X (.Constant .none j pos) (eD X.K (eC .none)) := de_c pe_non fun _ => .non
theorem de_str {x j pos} : PE X (.Constant (.str x) j pos) (eD X.K (eC (.str x))) := de_c pe_str fun _ => .str x

/-! ### argument lists, displays -/
def aNil : M (List PyData) := fun ρ => some ([], ρ)
def aCons (f : M PyData) (g : M (List PyData)) : M (List PyData) := fun ρ => (f ρ).bind fun p => (g p.2).bind fun q => some (p.1 :: q.1, q.2)
theorem da_nil : PA X [] (aD X.K aNil) := pa_nil.imp fun σ H Q ⟨F, G0, G, ρ, d, ρ', R, hf, q⟩ => by
  cases hf
  exact q [] G H (Ext.refl G) R .nil
theorem da_cons {e : Expr} {es : List Expr} {f : M PyData} {g : M (List PyData)} (ha : PE X e (eD X.K f)) (hr : PA X es (aD X.K g)) (hs : starEach (e :: es) X.env = (false, eval e X.env) :: starEach es X.env := by rfl) : PA X (e :: es) (aD X.K (aCons f g)) :=
  (pa_cons ha hr hs).imp fun σ H Q ⟨F, G0, G, ρ, d, ρ', R, hf, q⟩ => by
    unfold aCons at hf
    cases e1 : f ρ with
    | none => rw [e1] at hf; cases hf
    | some p =>
      rw [e1] at hf
      cases e2 : g p.2 with
      | none => simp only [Option.bind_some, e2] at hf; cases hf
      | some p2 =>
        simp only [Option.bind_some, e2] at hf; cases hf
        exact ⟨F, G0, G, ρ, p.1, p.2, R, e1, fun v G1 H1 x1 R1 r1 => ⟨F, G0, G1, p.2, p2.1, p2.2, R1, e2, fun vs G2 H2 x2 R2 r2 => q (v :: vs) G2 H2 (x1.trans x2) R2 (.cons (Rp.sub x2.sub _ _ r1) r2)⟩⟩
def eTup (f : M (List PyData)) : M PyData := fun ρ => (f ρ).bind fun p => if p.1.length ≤ sizeLine then some (.tuple p.1, p.2) else none
theorem de_tup {es : List Expr} {x1} {pos : Pos} {f : M (List PyData)} (h : PA X es (aD X.K f)) : PE X (.Tuple es x1 pos) (eD X.K (eTup f)) := (pe_tup h).imp fun σ H Q ⟨F, G0, G, ρ, d, ρ', R, hf, q⟩ => by
  unfold eTup at hf
  cases e1 : f ρ with
  | none => rw [e1] at hf; cases hf
  | some p =>
    rw [e1] at hf
    simp only [Option.bind_some] at hf
    split at hf
    · rename_i hz
      cases hf
      refine ⟨F, G0, G, ρ, p.1, p.2, R, e1, fun vs G1 H1 x1 R1 r1 => ⟨by rw [r1.length]; exact hz, fun t ht => ?_⟩⟩
      exact q (.ref t) _ _ (x1.trans (Ext.upd (R1.gsub ht))) (R1.frozen ht) (.tup (SqT.of upd_same) (RpAll.sub (Sub.upd (R1.gsub ht)) _ _ r1))
    · cases hf
def nLst (f : M (List PyData)) : M (List PyData) := fun ρ => (f ρ).bind fun p => if p.1.length ≤ sizeLine then some p else none
theorem dn_lst {es : List Expr} {pos : Pos} {f : M (List PyData)} (h : PA X es (aD X.K f)) : PE X (.List es pos) (nD X.K (nLst f)) := (pe_lst h).imp fun σ H Q ⟨F, G0, G, ρ, d, ρ', R, hf, q⟩ => by
  unfold nLst at hf
  cases e1 : f ρ with
  | none => rw [e1] at hf; cases hf
  | some p =>
    rw [e1] at hf
    simp only [Option.bind_some] at hf
    split at hf
    · rename_i hz
      cases hf
      refine ⟨F, G0, G, ρ, d, ρ', R, e1, fun vs G1 H1 x1 R1 r1 => ⟨by rw [r1.length]; exact hz, fun t ht => ?_⟩⟩
      have L := R1.loose ht
      exact q t _ G1 _ x1 (R1.laid ht) upd_same L r1
    · cases hf

/-! ### operators -/
abbrev rD (K : PySem.W.Frag) (k : PyData → PyData → Option PyData) : R2 := fun x y H Q => ∃ F G0 G σ ρ dx dy dz, Rel K F G0 G H σ ρ ∧ RpTop K G H x dx ∧ RpTop K G H y dy ∧ k dx dy = some dz ∧ Kd K F G0 G σ ρ Q dz
def e2 (f g : Opd) (k : PyData → PyData → Option PyData) : M PyData := fun ρ => (f ρ).bind fun p => (g p.2).bind fun q => (p.1 q.2).bind fun x => (q.1 q.2).bind fun y => (k x y).bind fun z => some (z, q.2)
theorem e2_some {f g : Opd} {k : PyData → PyData → Option PyData} {ρ ρ' : Rho} {z : PyData} (h : e2 f g k ρ = some (z, ρ')) : ∃ r ρ1 r2 x y, f ρ = some (r, ρ1) ∧ g ρ1 = some (r2, ρ') ∧ r ρ' = some x ∧ r2 ρ' = some y ∧ k x y = some z := by
  unfold e2 at h
  cases e1 : f ρ with
  | none => rw [e1] at h; cases h
  | some p =>
    rw [e1] at h
    cases e2 : g p.2 with
    | none => simp only [Option.bind_some, e2] at h; cases h
    | some q =>
      simp only [Option.bind_some, e2] at h
      cases e3 : p.1 q.2 with
      | none => rw [e3] at h; cases h
      | some x =>
        rw [e3] at h
        simp only [Option.bind_some] at h
        cases e4 : q.1 q.2 with
        | none => rw [e4] at h; cases h
        | some y =>
          rw [e4] at h
          simp only [Option.bind_some] at h
          cases e5 : k x y with
          | none => rw [e5] at h; cases h
          | some z' =>
            rw [e5] at h
            cases h
            exact ⟨p.1, p.2, q.1, x, y, rfl, e2, e3, e4, e5⟩
theorem op_imp {K : PySem.W.Frag} {f g : Opd} {k : PyData → PyData → Option PyData} {σ : St} {H : Hp} {Q : VK} (h : eD K (e2 f g k) σ H Q) : tOp (rD K k) (oD K f) (oD K g) σ H Q := by
  obtain ⟨F, G0, G, ρ, d, ρ', R, hf, q⟩ := h
  obtain ⟨r, ρ1, r2, x, y, e1, e2, e3, e4, e5⟩ := e2_some hf
  refine ⟨F, G0, G, ρ, r, ρ1, R, e1, fun v G1 H1 x1 R1 t1 => ⟨F, G0, G1, ρ1, r2, ρ', R1, e2, fun u G2 H2 x2 R2 t2 => ?_⟩⟩
  exact ⟨F, G0, G2, σ, ρ', x, y, d, R2, t1 G2 H2 ρ' x x2 R2 e3, t2 G2 H2 ρ' y (Ext.refl _) R2 e4, e5, fun v' G' H' x3 R3 r3 => q v' G' H' (x1.trans (x2.trans x3)) R3 r3⟩
theorem de_bin {a b : Expr} {op : Operator} {pos : Pos} {f g : Opd} {k : PyData → PyData → Option PyData} (ho : OpR X (binaryOp op) (rD X.K k)) (ha : PE X a (oD X.K f)) (hb : PE X b (oD X.K g)) : PE X (.BinOp a op b pos) (eD X.K (e2 f g k)) :=
  (pe_op ho ha hb).imp fun σ H Q h => op_imp h
theorem de_cmp {a b : Expr} {op : CmpOp} {pos : Pos} {f g : Opd} {k : PyData → PyData → Option PyData} (ho : OpR X (compareOp op) (rD X.K k)) (ha : PE X a (oD X.K f)) (hb : PE X b (oD X.K g)) (hm : behindInMarks op b = false := by first | exact nomark _ | rfl) : PE X (.Compare a [op] [b] pos) (eD X.K (e2 f g k)) :=
  (pe_cmpR ho ha hb hm).imp fun σ H Q h => op_imp h
theorem de_sub {a b : Expr} {pos : Pos} {f g : Opd} {k : PyData → PyData → Option PyData} (ho : IxR X (rD X.K k)) (ha : PE X a (oD X.K f)) (hb : PE X b (oD X.K g)) (hs : PlainIx b := by exact fun _ _ => rfl) : PE X (.Subscript a b pos) (eD X.K (e2 f g k)) :=
  (pe_ix ho ha hb hs).imp fun σ H Q h => op_imp h
/-- the answer is an atom: nothing is made -/
theorem Kd.atom {K : PySem.W.Frag} {F : Fr} {G0 G H : Hp} {σ : St} {ρ : Rho} {Q : VK} {d : PyData} {v : V} (R : Rel K F G0 G H σ ρ) (h : Kd K F G0 G σ ρ Q d) (r : Rp K G v d) : Q v H := h v G H (Ext.refl G) R r
end
end PD
namespace PD
open PySem PySem.Spec PyProof.Rows L2

section
variable {X : Cx} {pins : List (Addr × Obj)} {σ : St} {H : Hp} {s : Shared}
/-- list + list, whatever the two are -/
theorem op_catL {l b : Addr} {xs zs : List V} {Q : VK} (I : Inv X pins σ H s) (hl : SqL X.K H l xs) (hb : SqL X.K H b zs) (hz : xs.length + zs.length ≤ sizeLine) (q : ∀ p, H p = none → Q (.ref p) (upd H p (.lst (xs ++ zs)))) :
    wpAny (model X.prog X.w) X.A (binaryOp .Add (.ref l) (.ref b)) (EP X pins σ Q) X.xe s := by
  obtain ⟨its, r, ⟨⟨cls, dd, data, sl⟩, n, ho, hc, hdn, hd⟩, z1⟩ := I.list hl
  obtain ⟨its2, r2, ⟨⟨cls2, dd2, data2, sl2⟩, n2, ho2, hc2, hdn2, hd2⟩, z2⟩ := I.list hb
  simp only at hc hd hc2 hd2 hdn hdn2
  subst hc hd hc2 hd2 hdn hdn2
  have e : its.toArray ++ its2.toArray = (its ++ its2).toArray := by simp
  have l1 := r.length
  have l2 := r2.length
  refine concat_meets ⟨_, ho, rfl⟩ ⟨_, ho2, rfl⟩ noFill_list_add seq_list_add PySem.F.slot_list_add PySem.F.entry_list_add (PySem.F.args_list_add_2 _ _) (list_addW l b its.toArray its2.toArray n n2 none none sl sl2 (by simp only [List.size_toArray]; omega)) ⟨ho, ho2, ?_⟩
  rw [e]
  exact ⟨.ref _, _, I.lnew (t' := s.toks) (r.append r2) (by rw [List.length_append]; omega), rfl, q _ I.fresh⟩
end

/-! ### + - * % // -/
def dAdd : PyData → PyData → Option PyData
  | .int i, .int j => some (.int (i + j))
  | .str a, .str b => if a.length + b.length ≤ sizeLine then some (.str (a ++ b)) else none
  | .list a, .list b => if a.length + b.length ≤ sizeLine then some (.list (a ++ b)) else none
  | .tuple a, .tuple b => if a.length + b.length ≤ sizeLine then some (.tuple (a ++ b)) else none
  | _, _ => none
def dSub : PyData → PyData → Option PyData
  | .int i, .int j => some (.int (i - j))
  | _, _ => none
/-- a product that the machine does -/
def mulOk (i j : Int) : Bool := (decide (-(2 ^ 64) < i) && decide (i < 2 ^ 64)) || (decide (-(2 ^ 64) < j) && decide (j < 2 ^ 64)) || decide (i.natAbs.log2 + j.natAbs.log2 < 1000000)
def dMul : PyData → PyData → Option PyData
  | .int i, .int j => if mulOk i j then some (.int (i * j)) else none
  | _, _ => none
def dMod : PyData → PyData → Option PyData
  | .int i, .int j => if 0 < j then some (.int (i % j)) else none
  | _, _ => none
def divOk (j : Int) : Bool := decide (0 < j) && decide (j.natAbs.log2 < 9000)
def dDiv : PyData → PyData → Option PyData
  | .int i, .int j => if divOk j then some (.int (i / j)) else if j ≠ 0 ∧ j.natAbs < 1073741824 then some (.int (i.fdiv j)) else none
  | _, _ => none
def powOk (i j : Int) : Bool := decide (0 ≤ j) && decide (j ≤ 1000000) && decide (i.natAbs < 2 ^ 64)
def dPow : PyData → PyData → Option PyData
  | .int i, .int j => if powOk i j then some (.int (i ^ j.toNat)) else none
  | _, _ => none
def dShl : PyData → PyData → Option PyData
  | .int i, .int j => if powOk i j then some (.int (i * 2 ^ j.toNat)) else none
  | _, _ => none
def dShr : PyData → PyData → Option PyData
  | .int i, .int j => if 0 ≤ j then some (.int (i / 2 ^ j.toNat)) else none
  | _, _ => none
def dAnd : PyData → PyData → Option PyData
  | .int i, .int j => some (.int (Builtin.bitAnd i j))
  | _, _ => none

section
variable {X : Cx}
theorem op_add_ : OpR X (binaryOp .Add) (rD X.K dAdd) := by
  intro pins s σ H x y v u Q I rx ry h
  obtain ⟨F, G0, G, σ', ρ, dx, dy, dz, R, tx, ty, hk, q⟩ := h
  unfold dAdd at hk
  split at hk
  · rename_i i j
    cases tx; cases ty; cases hk
    exact op_add pins s σ H _ _ v u Q I rx ry ⟨i, j, rfl, rfl, q.atom R (.int _)⟩
  · rename_i i j
    cases tx; cases ty
    split at hk
    · rename_i hz
      cases hk
      exact op_add_str pins s σ H _ _ v u Q I rx ry ⟨i, j, rfl, rfl, hz, q.atom R (.str _)⟩
    · cases hk
  · rename_i da db
    obtain ⟨a, xs, rfl, h1, h2⟩ := tx
    obtain ⟨b, ys, rfl, h3, h4⟩ := ty
    split at hk
    · rename_i hz
      cases hk
      cases rx; cases ry
      exact op_catL I h1 h3 (by rw [h2.length, h4.length]; exact hz) fun p hp => q _ _ _ (Ext.upd (R.gsub hp)) (R.frozen hp) (.lst (SqL.of upd_same) ((RpAll.sub (Sub.upd (R.gsub hp)) _ _ h2).append (RpAll.sub (Sub.upd (R.gsub hp)) _ _ h4)))
    · cases hk
  · rename_i da db
    obtain ⟨a, xs, rfl, h1, h2⟩ := tx
    obtain ⟨b, ys, rfl, h3, h4⟩ := ty
    split at hk
    · rename_i hz
      cases hk
      refine op_catA pins s σ H _ _ v u Q I rx ry ⟨a, b, xs, ys, rfl, rfl, SqT.sub R.sub h1, SqT.sub R.sub h3, by rw [h2.length, h4.length]; exact hz, fun e => ?_, fun _ e => ?_, fun _ _ p hp => ?_⟩
      · subst e
        cases h2
        exact q.atom R (.tup h3 h4)
      · subst e
        cases h4
        rw [List.append_nil] at q
        exact q.atom R (.tup h1 h2)
      · exact q _ _ _ (Ext.upd (R.gsub hp)) (R.frozen hp) (.tup (SqT.of upd_same) ((RpAll.sub (Sub.upd (R.gsub hp)) _ _ h2).append (RpAll.sub (Sub.upd (R.gsub hp)) _ _ h4)))
    · cases hk
  · cases hk
/-- a rule for two ints -/
theorem op_int {op : Value → Value → Sem Value} {C : Int → Int → Prop} {g : Int → Int → Int} {k : PyData → PyData → Option PyData} (h : OpR X op (rI C fun i j => .int (g i j))) (hk : ∀ x y z, k x y = some z → ∃ i j, x = .int i ∧ y = .int j ∧ C i j ∧ z = .int (g i j)) : OpR X op (rD X.K k) := by
  intro pins s σ H x y v u Q I rx ry h'
  obtain ⟨F, G0, G, σ', ρ, dx, dy, dz, R, tx, ty, e, q⟩ := h'
  obtain ⟨i, j, rfl, rfl, hc, rfl⟩ := hk _ _ _ e
  cases tx; cases ty
  exact h pins s σ H _ _ v u Q I rx ry ⟨i, j, rfl, rfl, hc, q.atom R (.int _)⟩
theorem op_sub_ : OpR X (binaryOp .Sub) (rD X.K dSub) := op_int (C := fun _ _ => True) (g := fun i j => i - j) (opI fun _ _ _ _ _ _ _ _ q => sub_int q) fun x y z e => by
  unfold dSub at e
  split at e
  · cases e; exact ⟨_, _, rfl, rfl, trivial, rfl⟩
  · cases e
theorem mulOk_ok {i j : Int} (h : mulOk i j = true) : IntMulOk i j := by
  unfold mulOk at h
  simp only [Bool.or_eq_true, Bool.and_eq_true, decide_eq_true_eq] at h
  rcases h with (h | h) | h
  · exact CMul.ok (.inl h)
  · exact CMul.ok (.inr h)
  · exact CMulW.ok h
theorem op_mul_ : OpR X (binaryOp .Mult) (rD X.K dMul) := op_int (C := fun i j => mulOk i j = true) (g := fun i j => i * j) (opI fun _ _ _ _ _ _ _ hc q => mul_int q (mulOk_ok hc)) fun x y z e => by
  unfold dMul at e
  split at e
  · split at e
    · rename_i h; cases e; exact ⟨_, _, rfl, rfl, h, rfl⟩
    · cases e
  · cases e
theorem op_mod_ : OpR X (binaryOp .Mod) (rD X.K dMod) := op_int (C := fun _ j => 0 < j) (g := fun i j => i % j) op_mod fun x y z e => by
  unfold dMod at e
  split at e
  · split at e
    · rename_i h; cases e; exact ⟨_, _, rfl, rfl, h, rfl⟩
    · cases e
  · cases e
theorem op_div_ : OpR X (binaryOp .FloorDiv) (rD X.K dDiv) := by
  intro pins s σ H x y v u Q I rx ry h'
  obtain ⟨F, G0, G, σ', ρ, dx, dy, dz, R, tx, ty, e, q⟩ := h'
  unfold dDiv at e
  split at e
  · cases tx; cases ty
    split at e
    · rename_i h
      cases e
      unfold divOk at h
      simp only [Bool.and_eq_true, decide_eq_true_eq] at h
      exact op_fdivW pins s σ H _ _ v u Q I rx ry ⟨_, _, rfl, rfl, h, q.atom R (.int _)⟩
    · split at e
      · rename_i h
        cases e
        exact op_fdivN pins s σ H _ _ v u Q I rx ry ⟨_, _, rfl, rfl, h, q.atom R (.int _)⟩
      · cases e
  · cases e
theorem powOk_ok {i j : Int} (h : powOk i j = true) : CPow i j := by
  unfold powOk at h
  simp only [Bool.and_eq_true, decide_eq_true_eq] at h
  exact ⟨h.1.1, h.1.2, h.2⟩
theorem op_pow_ : OpR X (binaryOp .Pow) (rD X.K dPow) := op_int (C := CPow) (g := fun i j => i ^ j.toNat) op_pow fun x y z e => by
  unfold dPow at e
  split at e
  · split at e
    · rename_i h; cases e; exact ⟨_, _, rfl, rfl, powOk_ok h, rfl⟩
    · cases e
  · cases e
theorem op_shl_ : OpR X (binaryOp .LShift) (rD X.K dShl) := op_int (C := CPow) (g := fun i j => i * 2 ^ j.toNat) op_shl fun x y z e => by
  unfold dShl at e
  split at e
  · split at e
    · rename_i h; cases e; exact ⟨_, _, rfl, rfl, powOk_ok h, rfl⟩
    · cases e
  · cases e
theorem op_shr_ : OpR X (binaryOp .RShift) (rD X.K dShr) := op_int (C := fun _ j => 0 ≤ j) (g := fun i j => i / 2 ^ j.toNat) op_shr fun x y z e => by
  unfold dShr at e
  split at e
  · split at e
    · rename_i h; cases e; exact ⟨_, _, rfl, rfl, h, rfl⟩
    · cases e
  · cases e
theorem op_and_ : OpR X (binaryOp .BitAnd) (rD X.K dAnd) := op_int (C := fun _ _ => True) (g := fun i j => Builtin.bitAnd i j) (opI fun _ _ _ _ _ _ _ _ q => and_int q) fun x y z e => by
  unfold dAnd at e
  split at e
  · cases e; exact ⟨_, _, rfl, rfl, trivial, rfl⟩
  · cases e

/-! ### - -/
def dNeg : PyData → Option PyData
  | .int i => some (.int (-i))
  | _ => none
def dNot : PyData → Option PyData
  | .bool b => some (.bool !b)
  | _ => none
def e1 (f : Opd) (k : PyData → Option PyData) : M PyData := fun ρ => (f ρ).bind fun p => (p.1 p.2).bind fun x => (k x).bind fun z => some (z, p.2)
theorem e1_some {f : Opd} {k : PyData → Option PyData} {ρ ρ' : Rho} {z : PyData} (h : e1 f k ρ = some (z, ρ')) : ∃ r x, f ρ = some (r, ρ') ∧ r ρ' = some x ∧ k x = some z := by
  unfold e1 at h
  cases e1 : f ρ with
  | none => rw [e1] at h; cases h
  | some p =>
    rw [e1] at h
    simp only [Option.bind_some] at h
    cases e3 : p.1 p.2 with
    | none => rw [e3] at h; cases h
    | some x =>
      rw [e3] at h
      simp only [Option.bind_some] at h
      cases e5 : k x with
      | none => rw [e5] at h; cases h
      | some z' =>
        rw [e5] at h
        cases h
        exact ⟨p.1, x, rfl, e3, e5⟩
/-- the operand's reading, one place -/
theorem op1_imp {K : PySem.W.Frag} {f : Opd} {k : PyData → Option PyData} {σ : St} {H : Hp} {Q : VK} {r : V → Hp → VK → Prop} (h : eD K (e1 f k) σ H Q)
    (hr : ∀ F G0 G H ρ v x z, Rel K F G0 G H σ ρ → RpTop K G H v x → k x = some z → Kd K F G0 G σ ρ Q z → r v H Q) : oD K f σ H fun v H1 => r v H1 Q := by
  obtain ⟨F, G0, G, ρ, d, ρ', R, hf, q⟩ := h
  obtain ⟨o, x, e1, e2, e3⟩ := e1_some hf
  exact ⟨F, G0, G, ρ, o, ρ', R, e1, fun v G1 H1 x1 R1 t1 => hr F G0 G1 H1 ρ' v x d R1 (t1 G1 H1 ρ' x (Ext.refl _) R1 e2) e3 fun v' G' H' x3 R3 r3 => q v' G' H' (x1.trans x3) R3 r3⟩
theorem de_neg {a : Expr} {pos : Pos} {f : Opd} (ha : PE X a (oD X.K f)) : PE X (.UnaryOp .USub a pos) (eD X.K (e1 f dNeg)) := (pe_un un_neg ha).imp fun σ H Q h =>
  op1_imp (r := rU fun i => .int (-i)) h fun F G0 G H ρ v x z R t hk q => by
    unfold dNeg at hk
    split at hk
    · cases t; cases hk; exact ⟨_, rfl, q.atom R (.int _)⟩
    · cases hk

/-! ### comparisons -/
def isNoneD : PyData → Bool
  | .none => true
  | _ => false
def dEqv (x y : PyData) : Option Bool := if x.plain && y.plain && decide (min x.depth y.depth ≤ 60) then some (PyData.eqv x y) else none
def dEq (x y : PyData) : Option PyData := (dEqv x y).bind fun b => some (.bool b)
def dNe (x y : PyData) : Option PyData := (dEqv x y).bind fun b => some (.bool !b)
theorem rd2 {pins : List (Addr × Obj)} {σ : St} {H G : Hp} {F : Fr} {G0 : Hp} {s : Shared} {σ' : St} {ρ : Rho} {v : V} {u : Value} {d : PyData} (I : Inv X pins σ H s) (R : Rel X.K F G0 G H σ' ρ) (r : RelV v u) (t : RpTop X.K G H v d) (p : d.plain = true) : ∃ as, Reads s.heap u d as :=
  Dp.reads I d v u (Rp.dp d v (t.rp R.sub) p) r
theorem op_eq_ (hu : X.A.units + 64 < cLine) : OpR X (compareOp .Eq) (rD X.K dEq) := by
  intro pins s σ H x y v u Q I rx ry h'
  obtain ⟨F, G0, G, σ', ρ, dx, dy, dz, R, tx, ty, e, q⟩ := h'
  unfold dEq dEqv at e
  split at e
  · rename_i h
    cases e
    simp only [Bool.and_eq_true, decide_eq_true_eq] at h
    obtain ⟨as, r1⟩ := rd2 I R rx tx h.1.1
    obtain ⟨bs, r2⟩ := rd2 I R ry ty h.1.2
    exact PySem.SeqAt.eq_plain r1 r2 h.1.1 h.1.2 (by omega) ⟨.bl _, H, I, rfl, q.atom R (.bl _)⟩
  · cases e
theorem op_ne_ (hu : X.A.units + 64 < cLine) : OpR X (compareOp .NotEq) (rD X.K dNe) := by
  intro pins s σ H x y v u Q I rx ry h'
  obtain ⟨F, G0, G, σ', ρ, dx, dy, dz, R, tx, ty, e, q⟩ := h'
  unfold dNe dEqv at e
  split at e
  · rename_i h
    cases e
    simp only [Bool.and_eq_true, decide_eq_true_eq] at h
    obtain ⟨as, r1⟩ := rd2 I R rx tx h.1.1
    obtain ⟨bs, r2⟩ := rd2 I R ry ty h.1.2
    exact PySem.SeqAt.ne_plain r1 r2 h.1.1 h.1.2 (by omega) ⟨.bl _, H, I, rfl, q.atom R (.bl _)⟩
  · cases e
/-- a rule for two ints, the answer a truth value -/
theorem op_intB {op : Value → Value → Sem Value} {g : Int → Int → Bool} {k : PyData → PyData → Option PyData} (h : OpR X op (rI0 fun i j => .bl (g i j))) (hk : ∀ x y z, k x y = some z → ∃ i j, x = .int i ∧ y = .int j ∧ z = .bool (g i j)) : OpR X op (rD X.K k) := by
  intro pins s σ H x y v u Q I rx ry h'
  obtain ⟨F, G0, G, σ', ρ, dx, dy, dz, R, tx, ty, e, q⟩ := h'
  obtain ⟨i, j, rfl, rfl, rfl⟩ := hk _ _ _ e
  cases tx; cases ty
  exact h pins s σ H _ _ v u Q I rx ry ⟨i, j, rfl, rfl, q.atom R (.bl _)⟩
def dLtI : PyData → PyData → Option PyData
  | .int i, .int j => some (.bool (decide (i < j)))
  | _, _ => none
def dLe : PyData → PyData → Option PyData
  | .int i, .int j => some (.bool (decide (i ≤ j)))
  | _, _ => none
def dGt : PyData → PyData → Option PyData
  | .int i, .int j => some (.bool (decide (j < i)))
  | _, _ => none
def dGe : PyData → PyData → Option PyData
  | .int i, .int j => some (.bool (decide (j ≤ i)))
  | _, _ => none
theorem op_lt_ : OpR X (compareOp .Lt) (rD X.K dLtI) := op_intB op_lt fun x y z e => by
  unfold dLtI at e; split at e
  · cases e; exact ⟨_, _, rfl, rfl, rfl⟩
  · cases e
theorem op_le_ : OpR X (compareOp .LtE) (rD X.K dLe) := op_intB op_le fun x y z e => by
  unfold dLe at e; split at e
  · cases e; exact ⟨_, _, rfl, rfl, rfl⟩
  · cases e
theorem op_gt_ : OpR X (compareOp .Gt) (rD X.K dGt) := op_intB op_gt fun x y z e => by
  unfold dGt at e; split at e
  · cases e; exact ⟨_, _, rfl, rfl, rfl⟩
  · cases e
theorem op_ge_ : OpR X (compareOp .GtE) (rD X.K dGe) := op_intB op_ge fun x y z e => by
  unfold dGe at e; split at e
  · cases e; exact ⟨_, _, rfl, rfl, rfl⟩
  · cases e
/-- x < y of alike data (not ints: dLtI) -/
def ltOk (x y : PyData) : Bool := PySem.W.alike x y && !isNoneD x && decide (min x.depth y.depth ≤ 60) && x.plain && y.plain
def dLtD (x y : PyData) : Option PyData := if ltOk x y then some (.bool (PySem.W.dataLt x y)) else none
theorem op_ltD_ (hu : X.A.units + 64 < cLine) : OpR X (compareOp .Lt) (rD X.K dLtD) := by
  intro pins s σ H x y v u Q I rx ry h'
  obtain ⟨F, G0, G, σ', ρ, dx, dy, dz, R, tx, ty, e, q⟩ := h'
  unfold dLtD at e
  split at e
  · rename_i h
    cases e
    unfold ltOk at h
    simp only [Bool.and_eq_true, decide_eq_true_eq] at h
    obtain ⟨as, r1⟩ := rd2 I R rx tx h.1.2
    obtain ⟨bs, r2⟩ := rd2 I R ry ty h.2
    exact PySem.W.rcLt_alike dx dy X.A s v u as bs r1 r2 h.1.1.1.1 (by intro z; rw [z] at h; simp [isNoneD] at h) (by omega) X.prog X.w X.xe _ ⟨.bl _, H, I, rfl, q.atom R (.bl _)⟩
  · cases e

/-! ### is None, is True .. -/
def isBlD (y : Bool) : PyData → Bool
  | .bool x => x == y
  | _ => false
def dIsN (b : Bool) : PyData → PyData → Option PyData
  | x, .none => some (.bool (b == isNoneD x))
  | x, .bool y => some (.bool (b == isBlD y x))
  | _, _ => none
theorem isN_v {K : PySem.W.Frag} {G H : Hp} {v : V} {d : PyData} (t : RpTop K G H v d) : decide (v = V.non) = isNoneD d := by
  cases d with
  | none => cases t; rfl
  | bool b => cases t; rfl
  | int b => cases t; rfl
  | str b => cases t; rfl
  | list b => obtain ⟨a, xs, rfl, _⟩ := t; rfl
  | tuple b => obtain ⟨a, xs, rfl, _⟩ := t; rfl
  | dict b => obtain ⟨a, rfl, _⟩ := t; rfl
theorem isBl_run {K : PySem.W.Frag} {G H : Hp} {v : V} {u : Value} {d : PyData} {y : Bool} {M : Model} {A : Around} {Q : Value → Shared → Prop} {E : Value → Shared → Prop} {s : Shared} (t : RpTop K G H v d) (rx : RelV v u) (h : Q (.bool (isBlD y d)) s) : wpAny M A (compareOp .Is u (.bool y)) Q E s := by
  cases d with
  | none => cases t; cases rx; exact wpAny_pure h
  | bool b =>
    cases t; cases rx
    by_cases e : b = y
    · subst e; exact wpAny_is_self rfl (by simpa [isBlD] using h)
    · exact wpAny_is_other rfl (fun z => e (Value.bool.inj z)) (by have e' : (b == y) = false := beq_eq_false_iff_ne.mpr e; simpa [isBlD, e'] using h)
  | int b => cases t; obtain ⟨_, rfl⟩ := rx; exact wpAny_pure h
  | str b => cases t; obtain ⟨_, rfl⟩ := rx; exact wpAny_pure h
  | list b => obtain ⟨a, xs, rfl, _⟩ := t; cases rx; exact wpAny_pure h
  | tuple b => obtain ⟨a, xs, rfl, _⟩ := t; cases rx; exact wpAny_pure h
  | dict b => obtain ⟨a, rfl, _⟩ := t; cases rx; exact wpAny_pure h
theorem isntBl_run {K : PySem.W.Frag} {G H : Hp} {v : V} {u : Value} {d : PyData} {y : Bool} {M : Model} {A : Around} {Q : Value → Shared → Prop} {E : Value → Shared → Prop} {s : Shared} (t : RpTop K G H v d) (rx : RelV v u) (h : Q (.bool (!isBlD y d)) s) : wpAny M A (compareOp .IsNot u (.bool y)) Q E s := by
  cases d with
  | none => cases t; cases rx; exact wpAny_pure h
  | bool b =>
    cases t; cases rx
    by_cases e : b = y
    · subst e; exact wpAny_isNot_self rfl (by simpa [isBlD] using h)
    · exact wpAny_isNot_other rfl (fun z => e (Value.bool.inj z)) (by have e' : (b == y) = false := beq_eq_false_iff_ne.mpr e; simpa [isBlD, e'] using h)
  | int b => cases t; obtain ⟨_, rfl⟩ := rx; exact wpAny_pure h
  | str b => cases t; obtain ⟨_, rfl⟩ := rx; exact wpAny_pure h
  | list b => obtain ⟨a, xs, rfl, _⟩ := t; cases rx; exact wpAny_pure h
  | tuple b => obtain ⟨a, xs, rfl, _⟩ := t; cases rx; exact wpAny_pure h
  | dict b => obtain ⟨a, rfl, _⟩ := t; cases rx; exact wpAny_pure h
theorem op_is_ : OpR X (compareOp .Is) (rD X.K (dIsN true)) := by
  intro pins s σ H x y v u Q I rx ry h'
  obtain ⟨F, G0, G, σ', ρ, dx, dy, dz, R, tx, ty, e, q⟩ := h'
  unfold dIsN at e
  split at e
  · cases e
    cases ty
    refine op_isN pins s σ H _ _ v u Q I rx ry ⟨rfl, ?_⟩
    rw [isN_v tx]
    simpa using q.atom R (.bl _)
  · cases e
    cases ty; cases ry
    exact isBl_run tx rx ⟨.bl _, H, I, rfl, by simpa using q.atom R (.bl _)⟩
  · cases e
theorem op_isnot_ : OpR X (compareOp .IsNot) (rD X.K (dIsN false)) := by
  intro pins s σ H x y v u Q I rx ry h'
  obtain ⟨F, G0, G, σ', ρ, dx, dy, dz, R, tx, ty, e, q⟩ := h'
  unfold dIsN at e
  split at e
  · cases e
    cases ty
    refine op_notN pins s σ H _ _ v u Q I rx ry ⟨rfl, ?_⟩
    rw [isN_v tx]
    simpa using q.atom R (.bl _)
  · cases e
    cases ty; cases ry
    exact isntBl_run tx rx ⟨.bl _, H, I, rfl, by simpa using q.atom R (.bl _)⟩
  · cases e

/-! ### in -/
def inOk (x : PyData) (ys : List PyData) : Bool := x.plain && PyData.plainAll ys && decide (min (PyData.depthAll ys) x.depth ≤ 60)
def dIn (neg : Bool) : PyData → PyData → Option PyData
  | x, .list ys => if inOk x ys then some (.bool (neg != ys.any fun y => PyData.eqv y x)) else none
  | x, .tuple ys => if inOk x ys then some (.bool (neg != ys.any fun y => PyData.eqv y x)) else none
  | .str x, .str y => some (.bool (neg != !(Builtin.Str.occurrences y x 0 y.length 1).isEmpty))
  | _, _ => none
theorem op_in_ (hu : X.A.units + 64 < cLine) : OpR X (compareOp .In) (rD X.K (dIn false)) := by
  intro pins s σ H x y v u Q I rx ry h'
  obtain ⟨F, G0, G, σ', ρ, dx, dy, dz, R, tx, ty, e, q⟩ := h'
  unfold dIn at e
  split at e
  · split at e
    · rename_i h
      cases e
      unfold inOk at h
      simp only [Bool.and_eq_true, decide_eq_true_eq] at h
      obtain ⟨as, r1⟩ := rd2 I R rx tx h.1.1
      obtain ⟨bs, r2⟩ := rd2 I R ry ty (by rw [PyData.plain]; exact h.1.2)
      exact PySem.SeqAt.in_list_data r2 r1 h.1.2 h.1.1 (by omega) ⟨.bl _, H, I, rfl, by simpa using q.atom R (.bl _)⟩
    · cases e
  · split at e
    · rename_i h
      cases e
      unfold inOk at h
      simp only [Bool.and_eq_true, decide_eq_true_eq] at h
      obtain ⟨as, r1⟩ := rd2 I R rx tx h.1.1
      obtain ⟨bs, r2⟩ := rd2 I R ry ty (by rw [PyData.plain]; exact h.1.2)
      exact PySem.SeqAt.in_tuple_data r2 r1 h.1.2 h.1.1 (by omega) ⟨.bl _, H, I, rfl, by simpa using q.atom R (.bl _)⟩
    · cases e
  · cases e
    cases tx; cases ty
    exact op_in_str pins s σ H _ _ v u Q I rx ry ⟨_, _, rfl, rfl, by simpa using q.atom R (.bl _)⟩
  · cases e
theorem op_notin_ (hu : X.A.units + 64 < cLine) : OpR X (compareOp .NotIn) (rD X.K (dIn true)) := by
  intro pins s σ H x y v u Q I rx ry h'
  obtain ⟨F, G0, G, σ', ρ, dx, dy, dz, R, tx, ty, e, q⟩ := h'
  unfold dIn at e
  split at e
  · split at e
    · rename_i h
      cases e
      unfold inOk at h
      simp only [Bool.and_eq_true, decide_eq_true_eq] at h
      obtain ⟨as, r1⟩ := rd2 I R rx tx h.1.1
      obtain ⟨bs, r2⟩ := rd2 I R ry ty (by rw [PyData.plain]; exact h.1.2)
      exact PySem.SeqAt.notIn_list_data r2 r1 h.1.2 h.1.1 (by omega) ⟨.bl _, H, I, rfl, by simpa using q.atom R (.bl _)⟩
    · cases e
  · split at e
    · rename_i h
      cases e
      unfold inOk at h
      simp only [Bool.and_eq_true, decide_eq_true_eq] at h
      obtain ⟨as, r1⟩ := rd2 I R rx tx h.1.1
      obtain ⟨bs, r2⟩ := rd2 I R ry ty (by rw [PyData.plain]; exact h.1.2)
      exact PySem.SeqAt.notIn_tuple_data r2 r1 h.1.2 h.1.1 (by omega) ⟨.bl _, H, I, rfl, by simpa using q.atom R (.bl _)⟩
    · cases e
  · cases e
    cases tx; cases ty
    exact op_notin_str pins s σ H _ _ v u Q I rx ry ⟨_, _, rfl, rfl, by simpa using q.atom R (.bl _)⟩
  · cases e

/-! ### subscripts -/
def dIdx : PyData → PyData → Option PyData
  | .list ds, .int i => atI ds i
  | .tuple ds, .int i => atI ds i
  | .str z, .int i => if z.length ≤ sizeLine then (atI z.cps.toList i).bind fun c => some (.str ⟨#[c]⟩) else none
  | _, _ => none
theorem RpAll.atI {K : PySem.W.Frag} {G : Hp} {xs : List V} {ds : List PyData} (h : RpAll K G xs ds) {i : Int} {d : PyData} (e : L2.atI ds i = some d) : ∃ v, L2.atI xs i = some v ∧ Rp K G v d := by
  unfold L2.atI at e ⊢
  rw [h.length]
  cases q : ixN ds.length i with
  | none => rw [q] at e; cases e
  | some j =>
    rw [q] at e
    exact h.get e
theorem ix_ : IxR X (rD X.K dIdx) := by
  intro value slice pins s σ H x y v u Q I rx ry h' hsub
  obtain ⟨F, G0, G, σ', ρ, dx, dy, dz, R, tx, ty, e, q⟩ := h'
  unfold dIdx at e
  split at e
  · obtain ⟨a, xs, rfl, h1, h2⟩ := tx
    cases ty
    obtain ⟨w, hw, rw'⟩ := h2.atI e
    exact ix_list value slice pins s σ H _ _ v u Q I rx ry ⟨a, xs, _, w, rfl, rfl, h1, hw, q.atom R rw'⟩ hsub
  · obtain ⟨a, xs, rfl, h1, h2⟩ := tx
    cases ty
    obtain ⟨w, hw, rw'⟩ := h2.atI e
    exact ix_tup value slice pins s σ H _ _ v u Q I rx ry ⟨a, xs, _, w, rfl, rfl, SqT.sub R.sub h1, hw, q.atom R rw'⟩ hsub
  · cases tx; cases ty
    split at e
    · rename_i z i hz
      cases q2 : L2.atI z.cps.toList i with
      | none => rw [q2] at e; cases e
      | some c =>
        rw [q2] at e; cases e
        exact ix_str value slice pins s σ H _ _ v u Q I rx ry ⟨z, i, c, rfl, rfl, hz, q2, q.atom R (.str _)⟩ hsub
    · cases e
  · cases e
end
end PD
namespace PD
open PySem PySem.Spec PyProof.Rows L2

section
variable {X : Cx}
/-! ### truth -/
def dTru : PyData → Option Bool
  | .none => some false
  | .bool b => some b
  | .int i => some (i != 0)
  | .str z => if z.length ≤ sizeLine then some ((z.length : Int) != 0) else none
  | .list ds => some (!ds.isEmpty)
  | .tuple ds => some (!ds.isEmpty)
  | .dict _ => none
theorem RpAll.isEmpty {K : PySem.W.Frag} {G : Hp} {vs : List V} {ds : List PyData} (h : RpAll K G vs ds) : vs.isEmpty = ds.isEmpty := by
  cases h <;> rfl
theorem truD {K : PySem.W.Frag} {F : Fr} {G0 G H : Hp} {σ : St} {ρ : Rho} {v : V} {d : PyData} {b : Bool} (R : Rel K F G0 G H σ ρ) (t : RpTop K G H v d) (e : dTru d = some b) : TruV K v H b := by
  cases d with
  | none => cases t; cases e; exact rfl
  | bool c => cases t; cases e; exact rfl
  | int i => cases t; cases e; exact rfl
  | str z =>
    cases t
    unfold dTru at e
    simp only at e
    split at e
    · rename_i h; cases e; exact ⟨h, rfl⟩
    · cases e
  | list ds => obtain ⟨a, xs, rfl, h1, h2⟩ := t; cases e; exact .inl ⟨xs, h1, by rw [h2.isEmpty]⟩
  | tuple ds => obtain ⟨a, xs, rfl, h1, h2⟩ := t; cases e; exact .inr (.inl ⟨xs, SqT.sub R.sub h1, by rw [h2.isEmpty]⟩)
  | dict ds => cases e
def b1 (f : Opd) (k : PyData → Option Bool) : M Bool := fun ρ => (f ρ).bind fun p => (p.1 p.2).bind fun x => (k x).bind fun z => some (z, p.2)
theorem b1_some {f : Opd} {k : PyData → Option Bool} {ρ ρ' : Rho} {z : Bool} (h : b1 f k ρ = some (z, ρ')) : ∃ r x, f ρ = some (r, ρ') ∧ r ρ' = some x ∧ k x = some z := by
  unfold b1 at h
  cases e1 : f ρ with
  | none => rw [e1] at h; cases h
  | some p =>
    rw [e1] at h
    simp only [Option.bind_some] at h
    cases e3 : p.1 p.2 with
    | none => rw [e3] at h; cases h
    | some x =>
      rw [e3] at h
      simp only [Option.bind_some] at h
      cases e5 : k x with
      | none => rw [e5] at h; cases h
      | some z' =>
        rw [e5] at h
        cases h
        exact ⟨p.1, x, rfl, e3, e5⟩
/-- a test that is a value's truth -/
theorem db_tru {a : Expr} {f : Opd} (ha : PE X a (oD X.K f)) (he : ∀ whole, isTrue a X.env whole = (do let v ← whole; standAt a.pos; holding [v] (truthy v)) := by intro _; rfl) : PT X a (bD X.K (b1 f dTru)) :=
  (pt_truth ha he).imp fun σ H Q ⟨F, G0, G, ρ, b, ρ', R, hf, q⟩ => by
    obtain ⟨o, x, e1, e2, e3⟩ := b1_some hf
    refine ⟨F, G0, G, ρ, o, ρ', R, e1, fun v G1 H1 x1 R1 t1 => ⟨b, truD R1 (t1 G1 H1 ρ' x (Ext.refl _) R1 e2) e3, q G1 H1 x1 R1⟩⟩
def bNot (f : M Bool) : M Bool := fun ρ => (f ρ).bind fun p => some (!p.1, p.2)
theorem db_not {a : Expr} {pos : Pos} {f : M Bool} (ha : PT X a (bD X.K f)) : PT X (.UnaryOp .Not a pos) (bD X.K (bNot f)) := (pt_not ha).imp fun σ H Q ⟨F, G0, G, ρ, b, ρ', R, hf, q⟩ => by
  unfold bNot at hf
  cases e1 : f ρ with
  | none => rw [e1] at hf; cases hf
  | some p => rw [e1] at hf; cases hf; exact ⟨F, G0, G, ρ, p.1, p.2, R, e1, q⟩
def bAnd (f g : M Bool) : M Bool := fun ρ => (f ρ).bind fun p => if p.1 then g p.2 else some (false, p.2)
def bOr (f g : M Bool) : M Bool := fun ρ => (f ρ).bind fun p => if p.1 then some (true, p.2) else g p.2
theorem dw_and1 {a : Expr} {pos : Pos} {f : M Bool} (ha : PT X a (bD X.K f)) : PW X (.BoolOp .And [a] pos) (bD X.K f) := pw_and1 ha
theorem dw_or1 {a : Expr} {pos : Pos} {f : M Bool} (ha : PT X a (bD X.K f)) : PW X (.BoolOp .Or [a] pos) (bD X.K f) := pw_or1 ha
theorem dw_and {a b : Expr} {rest : List Expr} {pos : Pos} {f g : M Bool} (ha : PT X a (bD X.K f)) (hb : PW X (.BoolOp .And (b :: rest) pos) (bD X.K g)) : PW X (.BoolOp .And (a :: b :: rest) pos) (bD X.K (bAnd f g)) :=
  (pw_and ha hb).imp fun σ H Q ⟨F, G0, G, ρ, c, ρ', R, hf, q⟩ => by
    unfold bAnd at hf
    cases e1 : f ρ with
    | none => rw [e1] at hf; cases hf
    | some p =>
      rw [e1] at hf
      simp only [Option.bind_some] at hf
      refine ⟨F, G0, G, ρ, p.1, p.2, R, e1, fun G1 H1 x1 R1 => ?_⟩
      cases hp : p.1 with
      | true =>
        rw [hp] at hf
        rw [if_pos rfl]
        exact ⟨F, G0, G1, p.2, c, ρ', R1, by simpa using hf, fun G' H' x2 R2 => q G' H' (x1.trans x2) R2⟩
      | false =>
        rw [hp] at hf
        rw [if_neg Bool.false_ne_true]
        simp at hf
        obtain ⟨rfl, rfl⟩ := hf
        exact q G1 H1 x1 R1
theorem dw_or {a b : Expr} {rest : List Expr} {pos : Pos} {f g : M Bool} (ha : PT X a (bD X.K f)) (hb : PW X (.BoolOp .Or (b :: rest) pos) (bD X.K g)) : PW X (.BoolOp .Or (a :: b :: rest) pos) (bD X.K (bOr f g)) :=
  (pw_or ha hb).imp fun σ H Q ⟨F, G0, G, ρ, c, ρ', R, hf, q⟩ => by
    unfold bOr at hf
    cases e1 : f ρ with
    | none => rw [e1] at hf; cases hf
    | some p =>
      rw [e1] at hf
      simp only [Option.bind_some] at hf
      refine ⟨F, G0, G, ρ, p.1, p.2, R, e1, fun G1 H1 x1 R1 => ?_⟩
      cases hp : p.1 with
      | false =>
        rw [hp] at hf
        rw [if_neg Bool.false_ne_true]
        exact ⟨F, G0, G1, p.2, c, ρ', R1, by simpa using hf, fun G' H' x2 R2 => q G' H' (x1.trans x2) R2⟩
      | true =>
        rw [hp] at hf
        rw [if_pos rfl]
        simp at hf
        obtain ⟨rfl, rfl⟩ := hf
        exact q G1 H1 x1 R1

/-! ### and, or, not, if as values -/
def eAnd (f g : M PyData) : M PyData := fun ρ => (f ρ).bind fun p => (dTru p.1).bind fun t => if t then g p.2 else some p
def eOr (f g : M PyData) : M PyData := fun ρ => (f ρ).bind fun p => (dTru p.1).bind fun t => if t then some p else g p.2
def eNot (f : Opd) : M PyData := e1 f fun x => (dTru x).bind fun t => some (.bool !t)
def eIf (c : M Bool) (f g : M PyData) : M PyData := fun ρ => (c ρ).bind fun p => if p.1 then f p.2 else g p.2
theorem de_and {a b : Expr} {rest : List Expr} {pos : Pos} {f g : M PyData} (ha : PE X a (eD X.K f)) (hb : PE X (.BoolOp .And (b :: rest) pos) (eD X.K g)) : PE X (.BoolOp .And (a :: b :: rest) pos) (eD X.K (eAnd f g)) :=
  (pe_andT ha hb).imp fun σ H Q ⟨F, G0, G, ρ, c, ρ', R, hf, q⟩ => by
    unfold eAnd at hf
    cases e1 : f ρ with
    | none => rw [e1] at hf; cases hf
    | some p =>
      rw [e1] at hf
      simp only [Option.bind_some] at hf
      cases e2 : dTru p.1 with
      | none => rw [e2] at hf; cases hf
      | some t =>
        rw [e2] at hf
        simp only [Option.bind_some] at hf
        refine ⟨F, G0, G, ρ, p.1, p.2, R, e1, fun v G1 H1 x1 R1 r1 => ⟨t, truD R1 (r1.top R1.sub) e2, ?_⟩⟩
        cases t with
        | true => rw [if_pos rfl]; exact ⟨F, G0, G1, p.2, c, ρ', R1, by simpa using hf, fun v' G' H' x2 R2 => q v' G' H' (x1.trans x2) R2⟩
        | false => rw [if_neg Bool.false_ne_true]; simp at hf; subst hf; exact q v G1 H1 x1 R1 r1
theorem de_or {a b : Expr} {rest : List Expr} {pos : Pos} {f g : M PyData} (ha : PE X a (eD X.K f)) (hb : PE X (.BoolOp .Or (b :: rest) pos) (eD X.K g)) : PE X (.BoolOp .Or (a :: b :: rest) pos) (eD X.K (eOr f g)) :=
  (pe_orT ha hb).imp fun σ H Q ⟨F, G0, G, ρ, c, ρ', R, hf, q⟩ => by
    unfold eOr at hf
    cases e1 : f ρ with
    | none => rw [e1] at hf; cases hf
    | some p =>
      rw [e1] at hf
      simp only [Option.bind_some] at hf
      cases e2 : dTru p.1 with
      | none => rw [e2] at hf; cases hf
      | some t =>
        rw [e2] at hf
        simp only [Option.bind_some] at hf
        refine ⟨F, G0, G, ρ, p.1, p.2, R, e1, fun v G1 H1 x1 R1 r1 => ⟨t, truD R1 (r1.top R1.sub) e2, ?_⟩⟩
        cases t with
        | false => rw [if_neg Bool.false_ne_true]; exact ⟨F, G0, G1, p.2, c, ρ', R1, by simpa using hf, fun v' G' H' x2 R2 => q v' G' H' (x1.trans x2) R2⟩
        | true => rw [if_pos rfl]; simp at hf; subst hf; exact q v G1 H1 x1 R1 r1
theorem de_one {op} {a : Expr} {pos : Pos} {f : M PyData} (h : PE X a (eD X.K f)) : PE X (.BoolOp op [a] pos) (eD X.K f) := pe_one h
theorem de_not {a : Expr} {pos : Pos} {f : Opd} (ha : PE X a (oD X.K f)) : PE X (.UnaryOp .Not a pos) (eD X.K (eNot f)) := (pe_notT ha).imp fun σ H Q h =>
  op1_imp (r := fun x H1 Q => ∃ k, TruV X.K x H1 k ∧ Q (.bl (!k)) H1) h fun F G0 G H ρ v x z R t hk q => by
    cases e2 : dTru x with
    | none => rw [e2] at hk; cases hk
    | some b => rw [e2] at hk; cases hk; exact ⟨b, truD R t e2, q.atom R (.bl _)⟩
theorem de_if {c a b : Expr} {pos : Pos} {h : M Bool} {f g : M PyData} (hc : PT X c (bD X.K h)) (ha : PE X a (eD X.K f)) (hb : PE X b (eD X.K g)) : PE X (.IfExp c a b pos) (eD X.K (eIf h f g)) :=
  (pe_ifExp hc ha hb).imp fun σ H Q ⟨F, G0, G, ρ, d, ρ', R, hf, q⟩ => by
    unfold eIf at hf
    cases e1 : h ρ with
    | none => rw [e1] at hf; cases hf
    | some p =>
      rw [e1] at hf
      simp only [Option.bind_some] at hf
      refine ⟨F, G0, G, ρ, p.1, p.2, R, e1, fun G1 H1 x1 R1 => ?_⟩
      cases hp : p.1 with
      | true => rw [hp] at hf; rw [if_pos rfl]; exact ⟨F, G0, G1, p.2, d, ρ', R1, by simpa using hf, fun v' G' H' x2 R2 => q v' G' H' (x1.trans x2) R2⟩
      | false => rw [hp] at hf; rw [if_neg Bool.false_ne_true]; exact ⟨F, G0, G1, p.2, d, ρ', R1, by simpa using hf, fun v' G' H' x2 R2 => q v' G' H' (x1.trans x2) R2⟩
/-- a op b op' c -/
def eChain (f g h : M PyData) (k k' : PyData → PyData → Option PyData) : M PyData := fun ρ => (f ρ).bind fun p => (g p.2).bind fun q => (k p.1 q.1).bind fun z => match z with
  | .bool true => (h q.2).bind fun r => (k' q.1 r.1).bind fun w => some (w, r.2)
  | .bool false => some (.bool false, q.2)
  | _ => none
theorem de_chain {a b c : Expr} {op op' : CmpOp} {pos : Pos} {f g h : M PyData} {k k' : PyData → PyData → Option PyData} (ho : OpR X (compareOp op) (rD X.K k)) (ho' : OpR X (compareOp op') (rD X.K k')) (ha : PE X a (eD X.K f)) (hb : PE X b (eD X.K g)) (hc : PE X c (eD X.K h))
    (hm : lastMarks [op, op'] [b, c] = false := by with_unfolding_all rfl) : PE X (.Compare a [op, op'] [b, c] pos) (eD X.K (eChain f g h k k')) :=
  (pe_chain ho ho' ha hb hc hm).imp fun σ H Q ⟨F, G0, G, ρ, d, ρ', R, hf, q⟩ => by
    unfold eChain at hf
    cases e1 : f ρ with
    | none => rw [e1] at hf; cases hf
    | some p =>
      rw [e1] at hf
      simp only [Option.bind_some] at hf
      cases e2 : g p.2 with
      | none => rw [e2] at hf; cases hf
      | some p2 =>
        rw [e2] at hf
        simp only [Option.bind_some] at hf
        cases e3 : k p.1 p2.1 with
        | none => rw [e3] at hf; cases hf
        | some z =>
          rw [e3] at hf
          simp only [Option.bind_some] at hf
          refine ⟨F, G0, G, ρ, p.1, p.2, R, e1, fun v G1 H1 x1 R1 r1 => ⟨F, G0, G1, p.2, p2.1, p2.2, R1, e2, fun u G2 H2 x2 R2 r2 => ?_⟩⟩
          refine ⟨F, G0, G2, σ, p2.2, p.1, p2.1, z, R2, (Rp.sub x2.sub _ _ r1).top R2.sub, r2.top R2.sub, e3, fun v' G3 H3 x3 R3 r3 => ?_⟩
          split at hf
          · cases e4 : h p2.2 with
            | none => rw [e4] at hf; cases hf
            | some p4 =>
              rw [e4] at hf
              simp only [Option.bind_some] at hf
              cases e5 : k' p2.1 p4.1 with
              | none => rw [e5] at hf; cases hf
              | some w =>
                rw [e5] at hf; cases hf
                cases r3
                refine ⟨true, rfl, ?_⟩
                rw [if_pos rfl]
                refine ⟨F, G0, G3, p2.2, p4.1, p4.2, R3, e4, fun v4 G4 H4 x4 R4 r4 => ?_⟩
                exact ⟨F, G0, G4, σ, p4.2, p2.1, p4.1, d, R4, (Rp.sub (x3.trans x4).sub _ _ r2).top R4.sub, r4.top R4.sub, e5, fun v' G' H' x5 R5 r5 => q v' G' H' (x1.trans (x2.trans (x3.trans (x4.trans x5)))) R5 r5⟩
          · cases hf
            cases r3
            refine ⟨false, rfl, ?_⟩
            rw [if_neg Bool.false_ne_true]
            exact q (.bl false) G3 H3 (x1.trans (x2.trans x3)) R3 (.bl false)
          · cases hf

/-! ### slices -/
def cutD {α : Type} (xs : List α) (lo hi : Option Int) : List α := (xs.drop (HT.sIx xs.length 0 lo)).take (HT.sIx xs.length xs.length hi - HT.sIx xs.length 0 lo)
abbrev MO := Rho → Option (Option Int × Rho)
def poD (K : PySem.W.Frag) (f : MO) : TO := fun σ H Q => ∃ F G0 G ρ o ρ', Rel K F G0 G H σ ρ ∧ f ρ = some (o, ρ') ∧ ∀ G' H', Ext G G' → Rel K F G0 G' H' σ ρ' → Q o H'
def pNo : MO := fun ρ => some (none, ρ)
def pSo (f : M PyData) : MO := fun ρ => (f ρ).bind fun p => match p.1 with
  | .int i => some (some i, p.2)
  | _ => none
theorem _root_.L2.PO.imp {e : Option Expr} {t t' : TO} (h : PO X e t) (hi : ∀ σ H Q, t' σ H Q → t σ H Q) : PO X e t' := ⟨fun pins s σ H Q I hw => h.run pins s σ H Q I (hi _ _ _ hw)⟩
theorem dp_no : PO X none (poD X.K pNo) := po_none.imp fun σ H Q ⟨F, G0, G, ρ, o, ρ', R, hf, q⟩ => by
  cases hf; exact q G H (Ext.refl G) R
theorem dp_so {e : Expr} {f : M PyData} (h : PE X e (eD X.K f)) : PO X (some e) (poD X.K (pSo f)) := (po_some h).imp fun σ H Q ⟨F, G0, G, ρ, o, ρ', R, hf, q⟩ => by
  unfold pSo at hf
  cases e1 : f ρ with
  | none => rw [e1] at hf; cases hf
  | some p =>
    rw [e1] at hf
    simp only [Option.bind_some] at hf
    split at hf
    · rename_i i hi
      cases hf
      refine ⟨F, G0, G, ρ, p.1, p.2, R, e1, fun v G1 H1 x1 R1 r1 => ?_⟩
      rw [hi] at r1
      cases r1
      exact ⟨i, rfl, q G1 H1 x1 R1⟩
    · cases hf
def dSl (d : PyData) (lo hi : Option Int) : Option PyData := match d with
  | .list ds => some (.list (cutD ds lo hi))
  | .tuple ds => some (.tuple (cutD ds lo hi))
  | .str z => if z.length ≤ sizeLine then some (.str (cutS z lo hi)) else none
  | _ => none
theorem RpAll.cut {K : PySem.W.Frag} {G : Hp} {vs : List V} {ds : List PyData} (h : RpAll K G vs ds) (lo hi : Option Int) : RpAll K G (cutV vs lo hi) (cutD ds lo hi) := by
  unfold cutV cutD
  rw [h.length]
  exact (h.drop _).take _
def rSlD (K : PySem.W.Frag) : V → Option Int → Option Int → Hp → VK → Prop := fun x lo hi H Q => ∃ F G0 G σ ρ dx dz, Rel K F G0 G H σ ρ ∧ RpTop K G H x dx ∧ dSl dx lo hi = some dz ∧ Kd K F G0 G σ ρ Q dz
theorem sl_ : SlR X (rSlD X.K) := by
  intro pins s σ H x v vl vu lo hi sl Q I rx hs pl pu h
  obtain ⟨F, G0, G, σ', ρ, dx, dz, R, tx, e, q⟩ := h
  unfold dSl at e
  split at e
  · obtain ⟨a, xs, rfl, h1, h2⟩ := tx
    cases e
    exact sl_list pins s σ H _ v vl vu lo hi sl Q I rx hs pl pu ⟨a, xs, rfl, h1, fun p hp => q _ _ _ (Ext.upd (R.gsub hp)) (R.frozen hp) (.lst (SqL.of upd_same) (RpAll.sub (Sub.upd (R.gsub hp)) _ _ (h2.cut lo hi)))⟩
  · obtain ⟨a, xs, rfl, h1, h2⟩ := tx
    cases e
    refine sl_tupA pins s σ H _ v vl vu lo hi sl Q I rx hs pl pu ⟨a, xs, rfl, SqT.sub R.sub h1, fun hw => ?_, fun _ p hp => q _ _ _ (Ext.upd (R.gsub hp)) (R.frozen hp) (.tup (SqT.of upd_same) (RpAll.sub (Sub.upd (R.gsub hp)) _ _ (h2.cut lo hi)))⟩
    refine q.atom R (.tup h1 ?_)
    unfold cutD
    rw [← h2.length, hw.1, hw.2, List.drop_zero, Nat.sub_zero, List.take_of_length_le (by rw [h2.length]; exact Nat.le_refl _)]
    exact h2
  · cases tx
    split at e
    · rename_i z hz
      cases e
      exact sl_str pins s σ H _ v vl vu lo hi sl Q I rx hs pl pu ⟨_, rfl, hz, q.atom R (.str _)⟩
    · cases e
  · cases e
def eSl (f : Opd) (lo hi : MO) : M PyData := fun ρ => (f ρ).bind fun p => (lo p.2).bind fun l => (hi l.2).bind fun h => (p.1 h.2).bind fun d => (dSl d l.1 h.1).bind fun z => some (z, h.2)
theorem de_slice {e : Expr} {lo hi : Option Expr} {p2 pos : Pos} {f : Opd} {g h : MO} (he : PE X e (oD X.K f)) (hl : PO X lo (poD X.K g)) (hh : PO X hi (poD X.K h)) : PE X (.Subscript e (.Slice lo hi none p2) pos) (eD X.K (eSl f g h)) :=
  (pe_slice sl_ he hl hh).imp fun σ H Q ⟨F, G0, G, ρ, d, ρ', R, hf, q⟩ => by
    unfold eSl at hf
    cases e1 : f ρ with
    | none => rw [e1] at hf; cases hf
    | some p =>
      rw [e1] at hf
      simp only [Option.bind_some] at hf
      cases e2 : g p.2 with
      | none => rw [e2] at hf; cases hf
      | some l =>
        rw [e2] at hf
        simp only [Option.bind_some] at hf
        cases e3 : h l.2 with
        | none => rw [e3] at hf; cases hf
        | some u =>
          rw [e3] at hf
          simp only [Option.bind_some] at hf
          cases e4 : p.1 u.2 with
          | none => rw [e4] at hf; cases hf
          | some x =>
            rw [e4] at hf
            simp only [Option.bind_some] at hf
            cases e5 : dSl x l.1 u.1 with
            | none => rw [e5] at hf; cases hf
            | some z =>
              rw [e5] at hf; cases hf
              refine ⟨F, G0, G, ρ, p.1, p.2, R, e1, fun v G1 H1 x1 R1 t1 => ⟨F, G0, G1, p.2, l.1, l.2, R1, e2, fun G2 H2 x2 R2 => ⟨F, G0, G2, l.2, u.1, u.2, R2, e3, fun G3 H3 x3 R3 => ?_⟩⟩⟩
              exact ⟨F, G0, G3, σ, u.2, x, d, R3, t1 G3 H3 u.2 x (x2.trans x3) R3 e4, e5, fun v' G' H' x5 R5 r5 => q v' G' H' (x1.trans (x2.trans (x3.trans x5))) R5 r5⟩
end
end PD
namespace PD
open PySem PySem.Spec PyProof.Rows L2

section
variable {X : Cx}
/-! ### calls of builtins -/
def rC1 (K : PySem.W.Frag) (k : PyData → Option PyData) : List V → Hp → VK → Prop := fun xs H Q => ∃ F G0 G σ ρ v d z, xs = [v] ∧ Rel K F G0 G H σ ρ ∧ RpTop K G H v d ∧ k d = some z ∧ Kd K F G0 G σ ρ Q z
theorem c1_imp {K : PySem.W.Frag} {f : Opd} {k : PyData → Option PyData} {σ : St} {H : Hp} {Q : VK} (h : eD K (e1 f k) σ H Q) : tCB (rC1 K k) (tCons (oD K f) tNil) σ H Q := by
  exact op1_imp (r := fun v H1 Q => rC1 K k [v] H1 Q) h fun F G0 G H ρ v x z R t hk q => ⟨F, G0, G, σ, ρ, v, x, z, rfl, R, t, hk, q⟩
/-- f(e), f a builtin function -/
theorem de_call1 {x : Str} {id : String} {e : Expr} {p pos : Pos} {f : Opd} {k : PyData → Option PyData} (hc : CallR X (.builtin id) (rC1 X.K k)) (hg : Gl X x) (hm : X.mg x = none) (hv : bootBuiltins x = some (.builtin id)) (ha : PE X e (oD X.K f)) (hn : x ≠ "__name__" := by decide) (hdb : (x == ("__debug__" : Str)) = false := by decide)
    (he : starEach (e :: []) X.env = (false, eval e X.env) :: starEach [] X.env := by rfl) (hpl : (backTo pos (starEach [] X.env)).any (·.1) = false := by rfl) : PE X (.Call (.Name x p) [e] [] pos) (eD X.K (e1 f k)) :=
  (pe_callB hc hg hm hv (pa_cons ha pa_nil he) hn hdb he hpl).imp fun σ H Q h => c1_imp h
theorem de_callT1 {x : Str} {T : String} {e : Expr} {p pos : Pos} {f : Opd} {k : PyData → Option PyData} (hc : CallR X (.type T) (rC1 X.K k)) (hg : Gl X x) (hm : X.mg x = none) (hv : bootBuiltins x = some (.type T)) (ha : PE X e (oD X.K f)) (hn : x ≠ "__name__" := by decide) (hdb : (x == ("__debug__" : Str)) = false := by decide)
    (he : starEach (e :: []) X.env = (false, eval e X.env) :: starEach [] X.env := by rfl) (hpl : (backTo pos (starEach [] X.env)).any (·.1) = false := by rfl) : PE X (.Call (.Name x p) [e] [] pos) (eD X.K (e1 f k)) :=
  (pe_callTy hc hg hm hv (pa_cons ha pa_nil he) hn hdb he hpl).imp fun σ H Q h => c1_imp h
/-- .. that gives a new list -/
def rN1 (K : PySem.W.Frag) (k : PyData → Option (List PyData)) : List V → Hp → VK → Prop := fun xs H Q => ∃ F G0 G σ ρ v d zs, xs = [v] ∧ Rel K F G0 G H σ ρ ∧ RpTop K G H v d ∧ k d = some zs ∧
  ∀ a ys G' H', Ext G G' → Rel K F G0 G' H' σ ρ → H' a = some (.lst ys) → Loose F G' σ ρ a → RpAll K G' ys zs → Q (.ref a) H'
def n1 (f : Opd) (k : PyData → Option (List PyData)) : M (List PyData) := fun ρ => (f ρ).bind fun p => (p.1 p.2).bind fun x => (k x).bind fun z => some (z, p.2)
theorem n1_some {f : Opd} {k : PyData → Option (List PyData)} {ρ ρ' : Rho} {z : List PyData} (h : n1 f k ρ = some (z, ρ')) : ∃ r x, f ρ = some (r, ρ') ∧ r ρ' = some x ∧ k x = some z := by
  unfold n1 at h
  cases e1 : f ρ with
  | none => rw [e1] at h; cases h
  | some p =>
    rw [e1] at h
    simp only [Option.bind_some] at h
    cases e3 : p.1 p.2 with
    | none => rw [e3] at h; cases h
    | some x =>
      rw [e3] at h
      simp only [Option.bind_some] at h
      cases e5 : k x with
      | none => rw [e5] at h; cases h
      | some z' =>
        rw [e5] at h
        cases h
        exact ⟨p.1, x, rfl, e3, e5⟩
theorem n1_imp {K : PySem.W.Frag} {f : Opd} {k : PyData → Option (List PyData)} {σ : St} {H : Hp} {Q : VK} (h : nD K (n1 f k) σ H Q) : tCB (rN1 K k) (tCons (oD K f) tNil) σ H Q := by
  obtain ⟨F, G0, G, ρ, d, ρ', R, hf, q⟩ := h
  obtain ⟨o, x, e1, e2, e3⟩ := n1_some hf
  exact ⟨F, G0, G, ρ, o, ρ', R, e1, fun v G1 H1 x1 R1 t1 => ⟨F, G0, G1, σ, ρ', v, x, d, rfl, R1, t1 G1 H1 ρ' x (Ext.refl _) R1 e2, e3, fun a ys G' H' x3 R3 hH l r => q a ys G' H' (x1.trans x3) R3 hH l r⟩⟩
theorem dn_call1 {x : Str} {id : String} {e : Expr} {p pos : Pos} {f : Opd} {k : PyData → Option (List PyData)} (hc : CallR X (.builtin id) (rN1 X.K k)) (hg : Gl X x) (hm : X.mg x = none) (hv : bootBuiltins x = some (.builtin id)) (ha : PE X e (oD X.K f)) (hn : x ≠ "__name__" := by decide) (hdb : (x == ("__debug__" : Str)) = false := by decide)
    (he : starEach (e :: []) X.env = (false, eval e X.env) :: starEach [] X.env := by rfl) (hpl : (backTo pos (starEach [] X.env)).any (·.1) = false := by rfl) : PE X (.Call (.Name x p) [e] [] pos) (nD X.K (n1 f k)) :=
  (pe_callB hc hg hm hv (pa_cons ha pa_nil he) hn hdb he hpl).imp fun σ H Q h => n1_imp h
theorem dn_callT1 {x : Str} {T : String} {e : Expr} {p pos : Pos} {f : Opd} {k : PyData → Option (List PyData)} (hc : CallR X (.type T) (rN1 X.K k)) (hg : Gl X x) (hm : X.mg x = none) (hv : bootBuiltins x = some (.type T)) (ha : PE X e (oD X.K f)) (hn : x ≠ "__name__" := by decide) (hdb : (x == ("__debug__" : Str)) = false := by decide)
    (he : starEach (e :: []) X.env = (false, eval e X.env) :: starEach [] X.env := by rfl) (hpl : (backTo pos (starEach [] X.env)).any (·.1) = false := by rfl) : PE X (.Call (.Name x p) [e] [] pos) (nD X.K (n1 f k)) :=
  (pe_callTy hc hg hm hv (pa_cons ha pa_nil he) hn hdb he hpl).imp fun σ H Q h => n1_imp h
/-- f(e, ..) by its arguments' data -/
def rCN (K : PySem.W.Frag) (k : List PyData → Option PyData) : List V → Hp → VK → Prop := fun xs H Q => ∃ F G0 G σ ρ ds z, Rel K F G0 G H σ ρ ∧ RpAll K G xs ds ∧ k ds = some z ∧ Kd K F G0 G σ ρ Q z
def eN_ (f : M (List PyData)) (k : List PyData → Option PyData) : M PyData := fun ρ => (f ρ).bind fun p => (k p.1).bind fun z => some (z, p.2)
theorem cN_imp {K : PySem.W.Frag} {f : M (List PyData)} {k : List PyData → Option PyData} {σ : St} {H : Hp} {Q : VK} (h : eD K (eN_ f k) σ H Q) : tCB (rCN K k) (aD K f) σ H Q := by
  obtain ⟨F, G0, G, ρ, d, ρ', R, hf, q⟩ := h
  unfold eN_ at hf
  cases e1 : f ρ with
  | none => rw [e1] at hf; cases hf
  | some p =>
    rw [e1] at hf
    simp only [Option.bind_some] at hf
    cases e2 : k p.1 with
    | none => rw [e2] at hf; cases hf
    | some z =>
      rw [e2] at hf; cases hf
      exact ⟨F, G0, G, ρ, p.1, p.2, R, e1, fun vs G1 H1 x1 R1 r1 => ⟨F, G0, G1, σ, p.2, p.1, d, R1, r1, e2, fun v G' H' x3 R3 r => q v G' H' (x1.trans x3) R3 r⟩⟩
theorem de_callN {x : Str} {id : String} {e : Expr} {es : List Expr} {p pos : Pos} {f : M (List PyData)} {k : List PyData → Option PyData} (hc : CallR X (.builtin id) (rCN X.K k)) (hg : Gl X x) (hm : X.mg x = none) (hv : bootBuiltins x = some (.builtin id)) (ha : PA X (e :: es) (aD X.K f)) (hn : x ≠ "__name__" := by decide) (hdb : (x == ("__debug__" : Str)) = false := by decide)
    (he : starEach (e :: es) X.env = (false, eval e X.env) :: starEach es X.env := by rfl) (hpl : (backTo pos (starEach es X.env)).any (·.1) = false := by rfl) : PE X (.Call (.Name x p) (e :: es) [] pos) (eD X.K (eN_ f k)) :=
  (pe_callB hc hg hm hv ha hn hdb he hpl).imp fun σ H Q h => cN_imp h

/-! ### len, int, abs, sum, any, all, max, min, list, tuple -/
def dLen : PyData → Option PyData
  | .list ds => some (.int ds.length)
  | .tuple ds => some (.int ds.length)
  | .str z => if z.length ≤ sizeLine then some (.int z.length) else none
  | _ => none
theorem call_len_ : CallR X (.builtin "len") (rC1 X.K dLen) := by
  intro pins s σ H xs us Q I r h
  obtain ⟨F, G0, G, σ', ρ, v, d, z, rfl, R, t, e, q⟩ := h
  unfold dLen at e
  split at e
  · obtain ⟨a, xs, rfl, h1, h2⟩ := t
    cases e
    exact call_len_seq pins s σ H _ us Q I r ⟨a, xs, rfl, .inl h1, by rw [h2.length]; exact q.atom R (.int _)⟩
  · obtain ⟨a, xs, rfl, h1, h2⟩ := t
    cases e
    exact call_len_seq pins s σ H _ us Q I r ⟨a, xs, rfl, .inr (SqT.sub R.sub h1), by rw [h2.length]; exact q.atom R (.int _)⟩
  · cases t
    split at e
    · rename_i z hz
      cases e
      exact call_len_str pins s σ H _ us Q I r ⟨_, rfl, hz, q.atom R (.int _)⟩
    · cases e
  · cases e
def dInt : PyData → Option PyData
  | .int i => some (.int i)
  | .bool b => some (.int (if b then 1 else 0))
  | _ => none
theorem call_int_ : CallR X (.type "int") (rC1 X.K dInt) := by
  intro pins s σ H xs us Q I r h
  obtain ⟨F, G0, G, σ', ρ, v, d, z, rfl, R, t, e, q⟩ := h
  unfold dInt at e
  split at e
  · cases t; cases e; exact call_int1 pins s σ H _ us Q I r (.inl ⟨_, rfl, q.atom R (.int _)⟩)
  · cases t; cases e; exact call_int1 pins s σ H _ us Q I r (.inr ⟨_, rfl, q.atom R (.int _)⟩)
  · cases e
def dAbs : PyData → Option PyData
  | .int i => some (.int (if i < 0 then -i else i))
  | _ => none
theorem call_abs_ : CallR X (.builtin "abs") (rC1 X.K dAbs) := by
  intro pins s σ H xs us Q I r h
  obtain ⟨F, G0, G, σ', ρ, v, d, z, rfl, R, t, e, q⟩ := h
  unfold dAbs at e
  split at e
  · cases t; cases e; exact call_abs pins s σ H _ us Q I r ⟨_, rfl, q.atom R (.int _)⟩
  · cases e
/-- the ints of a list of ints -/
def intsOf : List PyData → Option (List Int)
  | [] => some []
  | .int i :: ds => (intsOf ds).bind fun r => some (i :: r)
  | _ :: _ => none
def boolsOf : List PyData → Option (List Bool)
  | [] => some []
  | .bool i :: ds => (boolsOf ds).bind fun r => some (i :: r)
  | _ :: _ => none
theorem intsOf_some : ∀ {ds : List PyData} {ns : List Int}, intsOf ds = some ns → ds = ns.map PyData.int
  | [], ns, h => by cases h; rfl
  | d :: ds, ns, h => by
    cases d with
    | int i =>
      simp only [intsOf] at h
      cases e : intsOf ds with
      | none => rw [e] at h; cases h
      | some r => rw [e] at h; cases h; rw [intsOf_some e]; rfl
    | _ => simp [intsOf] at h
theorem intsOf_map : ∀ ns : List Int, intsOf (ns.map PyData.int) = some ns
  | [] => rfl
  | n :: ns => by simp [intsOf, intsOf_map ns]
theorem boolsOf_some : ∀ {ds : List PyData} {ns : List Bool}, boolsOf ds = some ns → ds = ns.map PyData.bool
  | [], ns, h => by cases h; rfl
  | d :: ds, ns, h => by
    cases d with
    | bool i =>
      simp only [boolsOf] at h
      cases e : boolsOf ds with
      | none => rw [e] at h; cases h
      | some r => rw [e] at h; cases h; rw [boolsOf_some e]; rfl
    | _ => simp [boolsOf] at h
theorem boolsOf_map : ∀ ns : List Bool, boolsOf (ns.map PyData.bool) = some ns
  | [] => rfl
  | n :: ns => by simp [boolsOf, boolsOf_map ns]
theorem RpAll.ofInts {K : PySem.W.Frag} {G : Hp} : ∀ {ns : List Int} {vs : List V}, RpAll K G vs (ns.map PyData.int) → vs = ns.map V.int
  | [], _, .nil => rfl
  | n :: ns, _, .cons (.int _) h => by rw [RpAll.ofInts h]; rfl
theorem RpAll.ofBools {K : PySem.W.Frag} {G : Hp} : ∀ {ns : List Bool} {vs : List V}, RpAll K G vs (ns.map PyData.bool) → vs = ns.map V.bl
  | [], _, .nil => rfl
  | n :: ns, _, .cons (.bl _) h => by rw [RpAll.ofBools h]; rfl
def onInts (k : List Int → Option PyData) : PyData → Option PyData
  | .list ds => (intsOf ds).bind k
  | _ => none
def onBools (k : List Bool → Option PyData) : PyData → Option PyData
  | .list ds => (boolsOf ds).bind k
  | _ => none
theorem onInts_some {K : PySem.W.Frag} {F : Fr} {G0 G H : Hp} {σ : St} {ρ : Rho} {v : V} {d z : PyData} {k : List Int → Option PyData} (t : RpTop K G H v d) (e : onInts k d = some z) : ∃ a ns, v = .ref a ∧ SqL K H a (ns.map V.int) ∧ k ns = some z := by
  cases d with
  | list ds =>
    obtain ⟨a, xs, rfl, h1, h2⟩ := t
    simp only [onInts] at e
    cases e1 : intsOf ds with
    | none => rw [e1] at e; cases e
    | some ns =>
      rw [e1] at e
      rw [intsOf_some e1] at h2
      rw [RpAll.ofInts h2] at h1
      exact ⟨a, ns, rfl, h1, e⟩
  | _ => cases e
theorem onBools_some {K : PySem.W.Frag} {F : Fr} {G0 G H : Hp} {σ : St} {ρ : Rho} {v : V} {d z : PyData} {k : List Bool → Option PyData} (t : RpTop K G H v d) (e : onBools k d = some z) : ∃ a ns, v = .ref a ∧ SqL K H a (ns.map V.bl) ∧ k ns = some z := by
  cases d with
  | list ds =>
    obtain ⟨a, xs, rfl, h1, h2⟩ := t
    simp only [onBools] at e
    cases e1 : boolsOf ds with
    | none => rw [e1] at e; cases e
    | some ns =>
      rw [e1] at e
      rw [boolsOf_some e1] at h2
      rw [RpAll.ofBools h2] at h1
      exact ⟨a, ns, rfl, h1, e⟩
  | _ => cases e
def dSum : PyData → Option PyData := onInts fun ns => some (.int ns.sum)
theorem call_sum_ (hc : X.calm = true) : CallR X (.builtin "sum") (rC1 X.K dSum) := by
  intro pins s σ H xs us Q I r h
  obtain ⟨F, G0, G, σ', ρ, v, d, z, rfl, R, t, e, q⟩ := h
  obtain ⟨a, ns, rfl, h1, e1⟩ := onInts_some (F := F) (G0 := G0) (σ := σ') (ρ := ρ) t e
  cases e1
  exact cr_sum hc pins s σ H _ us Q I r ⟨a, ns, rfl, h1, q.atom R (.int _)⟩
def dAny : PyData → Option PyData := onBools fun ns => some (.bool (ns.any id))
def dAll : PyData → Option PyData := onBools fun ns => some (.bool (ns.all id))
theorem call_any_ (hc : X.calm = true) : CallR X (.builtin "any") (rC1 X.K dAny) := by
  intro pins s σ H xs us Q I r h
  obtain ⟨F, G0, G, σ', ρ, v, d, z, rfl, R, t, e, q⟩ := h
  obtain ⟨a, ns, rfl, h1, e1⟩ := onBools_some (F := F) (G0 := G0) (σ := σ') (ρ := ρ) t e
  cases e1
  exact cr_any hc pins s σ H _ us Q I r ⟨a, ns, rfl, h1, q.atom R (.bl _)⟩
theorem call_all_ (hc : X.calm = true) : CallR X (.builtin "all") (rC1 X.K dAll) := by
  intro pins s σ H xs us Q I r h
  obtain ⟨F, G0, G, σ', ρ, v, d, z, rfl, R, t, e, q⟩ := h
  obtain ⟨a, ns, rfl, h1, e1⟩ := onBools_some (F := F) (G0 := G0) (σ := σ') (ρ := ρ) t e
  cases e1
  exact cr_all hc pins s σ H _ us Q I r ⟨a, ns, rfl, h1, q.atom R (.bl _)⟩
def maxL : List Int → Option Int
  | [] => none
  | n :: ns => some (ns.foldl max n)
def minL : List Int → Option Int
  | [] => none
  | n :: ns => some (ns.foldl min n)
theorem foldl_max_mem : ∀ (ns : List Int) (n : Int), ns.foldl max n ∈ n :: ns ∧ ∀ y ∈ n :: ns, y ≤ ns.foldl max n
  | [], n => ⟨by simp, fun y h => by simp at h; simp [h]⟩
  | m :: ns, n => by
    obtain ⟨h1, h2⟩ := foldl_max_mem ns (max n m)
    have e : (m :: ns).foldl max n = ns.foldl max (max n m) := rfl
    rw [e]
    refine ⟨?_, fun y hy => ?_⟩
    · rcases List.mem_cons.mp h1 with q | q
      · rw [q]
        rcases Int.le_total n m with l | l
        · rw [Int.max_eq_right l]; simp
        · rw [Int.max_eq_left l]; simp
      · simp [q]
    · have hb := h2 (max n m) (by simp)
      rcases List.mem_cons.mp hy with q | q
      · subst q; exact Int.le_trans (Int.le_max_left _ _) hb
      · rcases List.mem_cons.mp q with q | q
        · subst q; exact Int.le_trans (Int.le_max_right _ _) hb
        · exact h2 y (by simp [q])
theorem foldl_min_mem : ∀ (ns : List Int) (n : Int), ns.foldl min n ∈ n :: ns ∧ ∀ y ∈ n :: ns, ns.foldl min n ≤ y
  | [], n => ⟨by simp, fun y h => by simp at h; simp [h]⟩
  | m :: ns, n => by
    obtain ⟨h1, h2⟩ := foldl_min_mem ns (min n m)
    have e : (m :: ns).foldl min n = ns.foldl min (min n m) := rfl
    rw [e]
    refine ⟨?_, fun y hy => ?_⟩
    · rcases List.mem_cons.mp h1 with q | q
      · rw [q]
        rcases Int.le_total n m with l | l
        · rw [Int.min_eq_left l]; simp
        · rw [Int.min_eq_right l]; simp
      · simp [q]
    · have hb := h2 (min n m) (by simp)
      rcases List.mem_cons.mp hy with q | q
      · subst q; exact Int.le_trans hb (Int.min_le_left _ _)
      · rcases List.mem_cons.mp q with q | q
        · subst q; exact Int.le_trans hb (Int.min_le_right _ _)
        · exact h2 y (by simp [q])
def dMax : PyData → Option PyData := onInts fun ns => (maxL ns).bind fun m => some (.int m)
def dMin : PyData → Option PyData := onInts fun ns => (minL ns).bind fun m => some (.int m)
theorem call_max_ (hc : X.calm = true) : CallR X (.builtin "max") (rC1 X.K dMax) := by
  intro pins s σ H xs us Q I r h
  obtain ⟨F, G0, G, σ', ρ, v, d, z, rfl, R, t, e, q⟩ := h
  obtain ⟨a, ns, rfl, h1, e1⟩ := onInts_some (F := F) (G0 := G0) (σ := σ') (ρ := ρ) t e
  cases ns with
  | nil => cases e1
  | cons n ns =>
    cases e1
    refine cr_max hc pins s σ H _ us Q I r ⟨a, n :: ns, rfl, h1, by simp, fun m hm hle => ?_⟩
    obtain ⟨h2, h3⟩ := foldl_max_mem ns n
    have : m = ns.foldl max n := Int.le_antisymm (h3 m hm) (hle _ h2)
    rw [this]
    exact q.atom R (.int _)
theorem call_min_ (hc : X.calm = true) : CallR X (.builtin "min") (rC1 X.K dMin) := by
  intro pins s σ H xs us Q I r h
  obtain ⟨F, G0, G, σ', ρ, v, d, z, rfl, R, t, e, q⟩ := h
  obtain ⟨a, ns, rfl, h1, e1⟩ := onInts_some (F := F) (G0 := G0) (σ := σ') (ρ := ρ) t e
  cases ns with
  | nil => cases e1
  | cons n ns =>
    cases e1
    refine cr_min hc pins s σ H _ us Q I r ⟨a, n :: ns, rfl, h1, by simp, fun m hm hle => ?_⟩
    obtain ⟨h2, h3⟩ := foldl_min_mem ns n
    have : m = ns.foldl min n := Int.le_antisymm (hle _ h2) (h3 m hm)
    rw [this]
    exact q.atom R (.int _)
def dMax2 : List PyData → Option PyData
  | [.int i, .int j] => some (.int (if j > i then j else i))
  | _ => none
def dMin2 : List PyData → Option PyData
  | [.int i, .int j] => some (.int (if j < i then j else i))
  | _ => none
theorem call_max2_ (hc : X.calm = true) : CallR X (.builtin "max") (rCN X.K dMax2) := by
  intro pins s σ H xs us Q I r h
  obtain ⟨F, G0, G, σ', ρ, ds, z, R, t, e, q⟩ := h
  unfold dMax2 at e
  split at e
  · cases e
    cases t with
    | cons t1 t2 => cases t2 with
      | cons t3 t4 =>
        cases t4; cases t1; cases t3
        exact call_max2 hc pins s σ H _ us Q I r ⟨_, _, rfl, q.atom R (.int _)⟩
  · cases e
theorem call_min2_ (hc : X.calm = true) : CallR X (.builtin "min") (rCN X.K dMin2) := by
  intro pins s σ H xs us Q I r h
  obtain ⟨F, G0, G, σ', ρ, ds, z, R, t, e, q⟩ := h
  unfold dMin2 at e
  split at e
  · cases e
    cases t with
    | cons t1 t2 => cases t2 with
      | cons t3 t4 =>
        cases t4; cases t1; cases t3
        exact call_min2 hc pins s σ H _ us Q I r ⟨_, _, rfl, q.atom R (.int _)⟩
  · cases e
def dItems : PyData → Option (List PyData)
  | .list ds => some ds
  | .tuple ds => some ds
  | _ => none
theorem call_list_ : CallR X (.type "list") (rN1 X.K dItems) := by
  intro pins s σ H xs us Q I r h
  obtain ⟨F, G0, G, σ', ρ, v, d, zs, rfl, R, t, e, q⟩ := h
  unfold dItems at e
  split at e
  · obtain ⟨a, xs, rfl, h1, h2⟩ := t
    cases e
    exact call_list_of pins s σ H _ us Q I r ⟨a, xs, rfl, .inl h1, fun l hl => q l xs G _ (Ext.refl _) (R.laid hl) upd_same (R.loose hl) h2⟩
  · obtain ⟨a, xs, rfl, h1, h2⟩ := t
    cases e
    exact call_list_of pins s σ H _ us Q I r ⟨a, xs, rfl, .inr (SqT.sub R.sub h1), fun l hl => q l xs G _ (Ext.refl _) (R.laid hl) upd_same (R.loose hl) h2⟩
  · cases e
def dTuple : PyData → Option PyData
  | .list ds => some (.tuple ds)
  | .tuple ds => some (.tuple ds)
  | _ => none
theorem call_tuple_ : CallR X (.type "tuple") (rC1 X.K dTuple) := by
  intro pins s σ H xs us Q I r h
  obtain ⟨F, G0, G, σ', ρ, v, d, z, rfl, R, t, e, q⟩ := h
  unfold dTuple at e
  split at e
  · obtain ⟨a, xs, rfl, h1, h2⟩ := t
    cases e
    exact call_tuple_of pins s σ H _ us Q I r ⟨a, xs, rfl, .inl ⟨h1, fun p hp => q _ _ _ (Ext.upd (R.gsub hp)) (R.frozen hp) (.tup (SqT.of upd_same) (RpAll.sub (Sub.upd (R.gsub hp)) _ _ h2))⟩⟩
  · obtain ⟨a, xs, rfl, h1, h2⟩ := t
    cases e
    exact call_tuple_of pins s σ H _ us Q I r ⟨a, xs, rfl, .inr ⟨SqT.sub R.sub h1, q.atom R (.tup h1 h2)⟩⟩
  · cases e

/-! ### sorted -/
open PySem.W in
def sortOk (ds : List PyData) : Bool := ds.all (fun d => ds.all fun d' => alike d d') && ((ds.all fun d => match d with | .tuple (_ :: _) => true | _ => false) || (ds.all fun d => match d with | .none => false | .tuple _ => false | _ => true)) && decide (ds.length ≤ sizeLine) && ds.all (fun d => decide (d.depth ≤ 60)) && PyData.plainAll ds
open PySem.W in
def sortD (ds : List PyData) : List PyData := ds.mergeSort (dataLe false id)
def dSorted : PyData → Option (List PyData)
  | .list ds => if sortOk ds then some (sortD ds) else none
  | _ => none
open PySem.W in
theorem sortOk_of {ds : List PyData} (h : sortOk ds = true) : AllAlike ds ∧ Sortable ds ∧ ds.length ≤ sizeLine ∧ (∀ d ∈ ds, d.depth ≤ 60) ∧ PyData.plainAll ds = true := by
  unfold sortOk at h
  simp only [Bool.and_eq_true, Bool.or_eq_true, List.all_eq_true, decide_eq_true_eq] at h
  obtain ⟨⟨⟨⟨h1, h2⟩, h3⟩, h4⟩, h5⟩ := h
  refine ⟨fun d hd d' hd' => h1 d hd d' hd', ?_, h3, h4, h5⟩
  rcases h2 with h2 | h2
  · refine .inl fun d hd => ?_
    have := h2 d hd
    split at this
    · exact ⟨_, _, rfl⟩
    · cases this
  · refine .inr fun d hd => ?_
    have := h2 d hd
    split at this
    · cases this
    · cases this
    · rename_i e1 e2
      exact ⟨e1, e2⟩
open PySem.W in
theorem each_zip {R : Value → V × PyData → Prop} : ∀ {us : List Value} {vs : List V} {ds : List PyData}, us.length = vs.length → vs.length = ds.length → (∀ (i : Nat) (u : Value) (v : V) (d : PyData), us[i]? = some u → vs[i]? = some v → ds[i]? = some d → R u (v, d)) → EachIs R us (vs.zip ds)
  | [], [], [], _, _, _ => .nil
  | u :: us, v :: vs, d :: ds, h1, h2, h => .cons (h 0 u v d rfl rfl rfl) (each_zip (by simpa using h1) (by simpa using h2) fun i u' v' d' e1 e2 e3 => h (i + 1) u' v' d' (by simpa using e1) (by simpa using e2) (by simpa using e3))
  | [], v :: vs, _, h1, _, _ => by simp at h1
  | u :: us, [], _, h1, _, _ => by simp at h1
  | _, [], d :: ds, _, h2, _ => by simp at h2
  | _, v :: vs, [], _, h2, _ => by simp at h2
open PySem.W in
theorem each_vals {R : Value → V × PyData → Prop} (hR : ∀ u p, R u p → RelV p.1 u) : ∀ {us : List Value} {ps : List (V × PyData)}, EachIs R us ps → Vals (ps.map (·.1)) us
  | _, _, .nil => .nil
  | _, _, .cons a b => .cons (hR _ _ a) (each_vals hR b)
open PySem.W in
theorem sort_snd (ps : List (V × PyData)) : (ps.mergeSort (dataLe false Prod.snd)).map Prod.snd = sortD (ps.map Prod.snd) := by
  unfold sortD
  exact List.map_mergeSort (fun a _ b _ => rfl)
open PySem.W in
theorem call_sorted_ (hu : X.A.units + 64 < cLine) : CallR X (.builtin "sorted") (rN1 X.K dSorted) := by
  intro pins s σ H xs us Q I r h
  obtain ⟨F, G0, G, σ', ρ, v, d, zs, rfl, R, t, e, q⟩ := h
  unfold dSorted at e
  split at e
  · rename_i ds
    split at e
    · rename_i hs
      cases e
      obtain ⟨hal, hk, hL, hd, hp⟩ := sortOk_of hs
      obtain ⟨a, vs, rfl, h1, h2⟩ := t
      obtain ⟨u, rfl, rx⟩ := vals1 r
      cases rx
      obtain ⟨its, rv, pl, hz⟩ := I.list h1
      have hlen := rv.length
      have dpa : DpAll X.K H vs ds := RpAll.dp ds vs (RpAll.sub R.sub _ _ h2) hp
      obtain ⟨as, hreads⟩ := Dp.readsAll I ds vs its dpa rv
      have each := readsAll_each (enc := fun d : PyData => d) (vs := its) (bs := ds) (as := as) (by simpa using hreads)
      have el : ds.length = vs.length := h2.length.symm
      -- the pairs
      have eget : ∀ {us : List Value} {bs : List PyData}, EachIs (fun v b => ∃ as, Reads s.heap v b as) us bs → ∀ (i : Nat) (u : Value) (d : PyData), us[i]? = some u → bs[i]? = some d → ∃ as, Reads s.heap u d as := by
        intro us bs ee
        induction ee with
        | nil => intro i u d e1; simp at e1
        | cons x y ih =>
          intro i u d e1 e2
          cases i with
          | zero => simp at e1 e2; subst e1 e2; exact x
          | succ i => exact ih i u d (by simpa using e1) (by simpa using e2)
      have eR : EachIs (fun u p => RelV p.1 u ∧ p ∈ vs.zip ds) its (vs.zip ds) := each_zip hlen.symm el.symm fun i u v d e1 e2 e3 => by
        obtain ⟨u', hu', ru⟩ := rv.get e2
        rw [e1] at hu'; cases hu'
        refine ⟨ru, List.mem_iff_getElem?.mpr ⟨i, ?_⟩⟩
        rw [List.getElem?_zip_eq_some]
        exact ⟨e2, e3⟩
      have eE : EachIs (fun u p => ∃ as, Reads s.heap u (Prod.snd p) as) its (vs.zip ds) := each_zip hlen.symm el.symm fun i u v d e1 e2 e3 => eget each i u d e1 e3
      have esnd : (vs.zip ds).map Prod.snd = ds := List.map_snd_zip (by omega)
      refine sorted_data (enc := Prod.snd) pl.isList eR eE (by rw [esnd]; exact hal) (by rw [esnd]; exact hk) (by rw [List.length_zip]; omega) (fun b hb => ?_) (fun out ho eo => ?_)
      · have : b.2 ∈ ds := by rw [← esnd]; exact List.mem_map_of_mem hb
        have := hd b.2 this
        omega
      · generalize hps : (vs.zip ds).mergeSort (dataLe false Prod.snd) = ps at eo
        obtain ⟨c, hc⟩ := sortedAll_at s.heap its out.toArray
        have hv : Vals (ps.map (·.1)) out := each_vals (fun u p hh => hh.1) eo
        have hn : H (s.heap.objs.size + 1) = none := I.hok.fresh (Nat.le_succ _)
        have hall : RpAll X.K G (ps.map (·.1)) (sortD ds) := by
          have e1 : sortD ds = ps.map Prod.snd := by rw [← hps, sort_snd, esnd]
          rw [e1]
          refine RpAll.iff.mpr ⟨by simp, fun i v d e1 e2 => ?_⟩
          rw [List.getElem?_map] at e1 e2
          cases ep : ps[i]? with
          | none => rw [ep] at e1; cases e1
          | some p =>
            rw [ep] at e1 e2
            cases e1; cases e2
            have hm : p ∈ vs.zip ds := by
              have : p ∈ ps := List.mem_of_getElem? ep
              rw [← hps] at this
              exact (List.mergeSort_perm _ _).mem_iff.mp this
            obtain ⟨j, hj⟩ := List.mem_iff_getElem?.mp hm
            rw [List.getElem?_zip_eq_some] at hj
            exact (RpAll.iff.mp h2).2 j _ _ hj.1 hj.2
        have pl2 : ps.length = ds.length := by rw [← hps, List.length_mergeSort, List.length_zip]; omega
        have I2 : Inv X pins σ (upd H (s.heap.objs.size + 1) (.lst (ps.map (·.1)))) { s with heap := sortedAll s.heap its out.toArray } :=
          I.laid (t' := s.toks) (fun b o => sortedAll_old) (Nat.le_succ _) ⟨by rw [List.length_map]; omega, out, c, hv, hc⟩
        exact ⟨.ref _, _, I2, rfl, q _ _ G _ (Ext.refl _) (R.laid hn) upd_same (R.loose hn) hall⟩
    · cases e
  · cases e
end
end PD
namespace PySem
open AutoSeq1 (wpAny_loadPart')
/-- enumerate(v): its maker, for anything that begins an iterator -/
theorem meets_enumerate_newB1 {v : Value} {o : Obj} {H : Heap → Prop} (B : Begins v o H) :
    Meets (Builtin.«enumerate.__new__» ⟨[.type "enumerate", v], []⟩) (fun _ R s => H s.heap ∧
      R (.ok (.ret (.ref (s.heap.push o).objs.size))) { s with heap := (s.heap.push o).push { cls := .type "enumerate", data := .fields #[.none, .bool false, .ref s.heap.objs.size, rawInt 0, .none, .none] } }) :=
  .of_wp fun prog w A R s h => by
    obtain ⟨hp, g, d, tk, os⟩ := s; obtain ⟨h1, h⟩ := h
    have hsub := sub_enumerate
    have q1 : ∀ {A' : Around} {E : Value → Shared → Prop} {Q : Value → Shared → Prop}, Q (.ref hp.objs.size) ⟨hp.push o, g, d, tk, os⟩ → wpAny (model prog w) A' (pyIter v) Q E ⟨hp, g, d, tk, os⟩ :=
      fun q => B.iter prog w _ _ ⟨hp, g, d, tk, os⟩ _ h1 q
    wp_walk using q1
    refine wpAny_stack_any fun st => wpAny_pure ?_
    split
    · rename_i c _ _ _ _ _
      cases (c == Value.type "enumerate")
      · wp_walk using q1
        exact ⟨_, rfl, h⟩
      · wp_walk using q1
        exact ⟨_, rfl, h⟩
    · wp_walk using q1
      exact ⟨_, rfl, h⟩
section
variable {prog : Program} {w : World} {A : Around} {E : Value → Shared → Prop} {s : Shared}
theorem enum_begins1 {v : Value} {o : Obj} {H : Heap → Prop} {Q : Value → Shared → Prop} (B : Begins v o H) (h1 : H s.heap)
    (h : ∀ h', IsEnum h' (s.heap.objs.size + 1) s.heap.objs.size 0 .none → h'.get? s.heap.objs.size = some o → h'.objs.size = s.heap.objs.size + 2 →
      (∀ b o, s.heap.get? b = some o → h'.get? b = some o) → Q (.ref (s.heap.objs.size + 1)) { s with heap := h' }) :
    wpAny (model prog w) A (call (.type "enumerate") [v]) Q E s := by
  refine callType_new F.called_enumerate (by decide) (F.typeCall_enumerate_1 _) (F.newCall_enumerate_1 _) (fun obj => F.args_object_init_2 obj _) F.entry_enumerate_new
    (meets_enumerate_newB1 B) ⟨h1, ?_⟩
  have hz : (s.heap.push o).objs.size = s.heap.objs.size + 1 := Heap.size_push ..
  show _ ∧ _
  rw [hz]
  have he : IsEnum ((s.heap.push o).push { cls := .type "enumerate", data := .fields #[.none, .bool false, .ref s.heap.objs.size, rawInt 0, .none, .none] }) (s.heap.objs.size + 1) s.heap.objs.size 0 .none := by
    have := Heap.get?_push_size (s.heap.push o) (o := { cls := .type "enumerate", data := .fields #[.none, .bool false, .ref s.heap.objs.size, rawInt 0, .none, .none] }) rfl
    rw [hz] at this; exact this
  refine ⟨⟨_, he, rfl⟩, h _ he (Heap.get?_push_of_some _ (Heap.get?_push_size _ B.free)) (by rw [Heap.size_push, hz]) fun b o x => Heap.get?_push_of_some _ (Heap.get?_push_of_some _ x)⟩
end
end PySem

namespace PD
open PySem PySem.Spec PyProof.Rows L2

/-! ### enumerate(tuple) -/
def IteT (K : PySem.W.Frag) (a : Addr) : It :=
  ⟨fun i H => ∃ (xs : List V) (x : V), SqT K H a xs ∧ xs[i]? = some x, fun i H v H' => ∃ T x, v = .ref T ∧ H T = none ∧ H' = upd H T (.tup [.int (i : Nat), x]) ∧ ∀ xs, SqT K H a xs → xs[i]? = some x, fun i H => ∃ xs : List V, SqT K H a xs ∧ xs.length = i⟩
theorem turn_enumT {P : Program} {w : World} {K : PySem.W.Frag} {elts : List Expr} {kk : Nat} {tpos : Pos} (a e it : Addr) (hai : a ≠ it) :
    Turn P w K (.Tuple elts kk tpos) (IteT K a) [e, it] e (fun i h => (∃ old, IsEnum h e it ((i : Nat) : Int) old) ∧ h.IsTupleIter it a i ∧ e ≠ it ∧ a ≠ e) where
  mem := by simp
  obj := fun i h st b hb => by
    obtain ⟨⟨old, he⟩, ⟨o, ho, hc, hd⟩, _⟩ := st
    have e' : b = e ∨ b = it := by simpa using hb
    rcases e' with z | z
    · rw [z]; exact ⟨_, he, fun v q => nomatch q⟩
    · rw [z]; exact ⟨o, ho, fun v q => by rw [hd] at q; cases q⟩
  keep := fun i h h' st k => let ⟨⟨old, he⟩, hi, hne⟩ := st; ⟨⟨old, k e (by simp) _ he⟩, hi.at fun o q => k it (by simp) o q, hne⟩
  item := by
    intro X hP hw hK hc i pins s σ H E I hf st hg
    subst hP hw hK
    obtain ⟨⟨old, he⟩, hit, hne, hae⟩ := st
    obtain ⟨xs, x, hq, hx⟩ := hg
    obtain ⟨its, rv, p, hz⟩ := I.tuple hq
    obtain ⟨u, hu, ru⟩ := rv.get hx
    have hel : e < s.heap.objs.size := Heap.lt_size he
    have hil : it < s.heap.objs.size := by obtain ⟨_, q, _⟩ := hit; exact Heap.lt_size q
    have hlt : i < its.toArray.size := by
      have := (List.getElem?_eq_some_iff.mp hu).1
      simpa using this
    have pt : s.heap.IsTuple a its.toArray := p
    have hd : X.A.in1.handled = none := I.ok.hd hc
    have hai' : it ≠ a := Ne.symm hai
    refine wpAny_pyNext_enum_itemD (Draws.tuple hd it a hai its.toArray) he ⟨hit, pt⟩ hlt hne (by simp; exact ⟨hne, Ne.symm hae⟩) fun x' h' tk hP ho hst' hT hsz hk => ?_
    have hx' : x' = u := by
      have hP' : its.toArray[i]? = some x' := hP
      have hu' : its.toArray[i]? = some u := by simpa using hu
      rw [hu'] at hP'
      exact (Option.some.inj hP').symm
    subst hx'
    refine ⟨_, rfl, wpAny_letOwnedTupleGo_enum (s := { s with heap := h', toks := tk + 1 }) ho fun h'' he' sb => ?_⟩
    have hT2 : h''.get? s.heap.objs.size = some { cls := .type "tuple", data := .seq #[.int i tk, x'] } := (sb.2 _ (Nat.ne_of_gt hel)).trans hT
    have new : ObjOk X.prog X.w (upd H s.heap.objs.size (.tup [.int (i : Nat), x])) h'' s.heap.objs.size (.tup [.int (i : Nat), x]) :=
      ⟨by show 2 ≤ sizeLine; decide, [.int i tk, x'], .cons ⟨_, rfl⟩ (.cons ru .nil), ⟨_, hT2, rfl, _, rfl⟩⟩
    have I1 : Inv X pins σ (upd H s.heap.objs.size (.tup [.int (i : Nat), x])) { s with heap := h'', toks := tk + 1 } :=
      I.turnedNew (ch := [e, it]) (fun b ob hb q => (sb.2 b (fun z => hb (by simp [z]))).trans (hk b ob (fun z => hb (by simp [z])) (fun z => hb (by simp [z])) q)) hf (Nat.le_refl _) new
    refine ⟨.ref s.heap.objs.size, _, I1, rfl, ⟨_, x, rfl, I.hok.fresh (Nat.le_refl _), rfl, fun ys hy => by rw [I.tuple_inj hy hq]; exact hx⟩, ⟨⟨x', ?_⟩, hst'.1.at fun o q => (sb.2 it (Ne.symm hne)).trans q, hne, hae⟩, fun b hb => ?_⟩
    · have e1 : ((i + 1 : Nat) : Int) = (i : Int) + 1 := by omega
      rw [e1]; exact he'
    · have hb' : b < s.heap.objs.size := by
        have e' : b = e ∨ b = it := by simpa using hb
        rcases e' with z | z
        · rw [z]; exact hel
        · rw [z]; exact hil
      rw [upd_ne (Nat.ne_of_lt hb')]
      exact (hf b hb).1
  done := by
    intro X hP hw hK hc i pins s σ H E I hf st hg
    subst hP hw hK
    obtain ⟨⟨old, he⟩, hit, hne, hae⟩ := st
    obtain ⟨xs, hq, hx⟩ := hg
    obtain ⟨its, rv, p, hz⟩ := I.tuple hq
    have hl := rv.length
    have pt : s.heap.IsTuple a its.toArray := p
    have hd : X.A.in1.handled = none := I.ok.hd hc
    obtain ⟨f0, f1, f2, f3, f4, f5⟩ := hf it (by simp)
    have hi : its.toArray.size = i := by rw [List.size_toArray]; omega
    exact wpAny_pyNext_enum_endD (Draws.tuple hd it a hai its.toArray) he ⟨by rw [hi]; exact hit, pt⟩ fun h' eb => ⟨rfl, I.turned (t' := s.toks) (fun b o hb q => eb b o hb q) f0 f1 f3 f4 f5⟩
  self := fun A i s Q E st h => let ⟨⟨_, he⟩, _⟩ := st; wpAny_pyIter_enum he h

section
variable {X : Cx}
/-- an iterator that yields the data ds -/
def ItOk (K : PySem.W.Frag) (G : Hp) (J : It) (ds : List PyData) : Prop := ∀ F G0 G2 H2 σ ρ (i : Nat), Ext G G2 → Rel K F G0 G2 H2 σ ρ → (i = ds.length → J.stop i H2) ∧
  ∀ d, ds[i]? = some d → J.go i H2 ∧ ∀ x H3, J.yld i H2 x H3 → ∃ G3, Ext G2 G3 ∧ Rel K F G0 G3 H3 σ ρ ∧ Rp K G3 x d
def iD (K : PySem.W.Frag) (f : M (List PyData)) : TI := fun σ H R => ∃ F G0 G ρ ds ρ', Rel K F G0 G H σ ρ ∧ f ρ = some (ds, ρ') ∧ ∀ J G' H', Ext G G' → Rel K F G0 G' H' σ ρ' → ItOk K G' J ds → R J H'

theorem SqL.inj2 {K : PySem.W.Frag} {G H : Hp} {a : Addr} {xs : List V} (h : SqL K G a xs) : ∀ {i : Nat} {v : V}, xs[i]? = some v → (∀ ys, SqL K H a ys → ys[i]? = some v → True) := fun _ _ _ _ => trivial
theorem itOk_list {K : PySem.W.Frag} {G : Hp} {a : Addr} {xs : List V} {ds : List PyData} (h1 : SqL K G a xs) (h2 : RpAll K G xs ds) : ItOk K G (Itl K a) ds := fun F G0 G2 H2 σ ρ i e R => by
  have hq : SqL K H2 a xs := SqL.sub R.sub (SqL.sub e.sub h1)
  refine ⟨fun hi => ⟨xs, hq, by rw [h2.length]; omega⟩, fun d hd => ?_⟩
  obtain ⟨v, hv, rv⟩ := h2.get hd
  refine ⟨⟨xs, v, hq, hv⟩, fun x H3 y => ?_⟩
  obtain ⟨rfl, y⟩ := y
  have := y xs hq
  rw [hv] at this
  cases this
  exact ⟨G2, Ext.refl _, R, Rp.sub e.sub _ _ rv⟩
theorem itOk_tup {K : PySem.W.Frag} {G : Hp} {a : Addr} {xs : List V} {ds : List PyData} (h1 : SqT K G a xs) (h2 : RpAll K G xs ds) : ItOk K G (Itt K a) ds := fun F G0 G2 H2 σ ρ i e R => by
  have hq : SqT K H2 a xs := SqT.sub R.sub (SqT.sub e.sub h1)
  refine ⟨fun hi => ⟨xs, hq, by rw [h2.length]; omega⟩, fun d hd => ?_⟩
  obtain ⟨v, hv, rv⟩ := h2.get hd
  refine ⟨⟨xs, v, hq, hv⟩, fun x H3 y => ?_⟩
  obtain ⟨rfl, y⟩ := y
  have := y xs hq
  rw [hv] at this
  cases this
  exact ⟨G2, Ext.refl _, R, Rp.sub e.sub _ _ rv⟩
/-- the signs of a text -/
def signsOf (z : Str) : List PyData := z.cps.toList.map fun c => .str ⟨#[c]⟩
theorem itOk_str {K : PySem.W.Frag} {G : Hp} {z : Str} : ItOk K G (Its z) (signsOf z) := fun F G0 G2 H2 σ ρ i e R => by
  refine ⟨fun hi => ?_, fun d hd => ?_⟩
  · show z.cps.size ≤ i
    unfold signsOf at hi
    simp at hi
    omega
  · unfold signsOf at hd
    rw [List.getElem?_map] at hd
    cases e1 : z.cps.toList[i]? with
    | none => rw [e1] at hd; cases hd
    | some c =>
      rw [e1] at hd; cases hd
      have hc : z.cps[i]? = some c := by simpa using e1
      refine ⟨(Array.getElem?_eq_some_iff.mp hc).1, fun x H3 y => ?_⟩
      obtain ⟨rfl, c', hc', rfl⟩ := y
      rw [hc] at hc'; cases hc'
      exact ⟨G2, Ext.refl _, R, .str _⟩
/-- what a for walks: the items of a list, a tuple, a text -/
def dIter : PyData → Option (List PyData)
  | .list ds => some ds
  | .tuple ds => some ds
  | .str z => some (signsOf z)
  | _ => none
def iSeq (f : M PyData) : M (List PyData) := fun ρ => (f ρ).bind fun p => (dIter p.1).bind fun ds => some (ds, p.2)
theorem di_seq {tg l : Expr} {f : M PyData} (hl : PE X l (eD X.K f)) : PI X tg l (iD X.K (iSeq f)) := by
  refine ⟨fun pins s σ H Rr I h => ?_⟩
  obtain ⟨F, G0, G, ρ, ds, ρ', R, hf, q⟩ := h
  unfold iSeq at hf
  cases e1 : f ρ with
  | none => rw [e1] at hf; cases hf
  | some p =>
    rw [e1] at hf
    simp only [Option.bind_some] at hf
    cases e2 : dIter p.1 with
    | none => rw [e2] at hf; cases hf
    | some ds' =>
      rw [e2] at hf; cases hf
      refine thn (hl.run pins s σ H (fun v H' => ∃ G', Ext G G' ∧ Rel X.K F G0 G' H' σ p.2 ∧ Rp X.K G' v p.1) I ⟨F, G0, G, ρ, p.1, p.2, R, e1, fun v G' H' x R' r => ⟨G', x, R', r⟩⟩) fun v s1 ⟨x, H1, I1, r1, G1, x1, R1, rp⟩ => ?_
      cases hd : p.1 with
      | list es =>
        rw [hd] at e2 rp
        cases e2
        cases rp with
        | lst h1 h2 =>
          cases r1
          obtain ⟨its, rv, pl, hz⟩ := I1.list (SqL.sub R1.sub h1)
          refine wpAny_pyIter_list pl.isList ?_
          refine ⟨s1.heap.objs.size, [s1.heap.objs.size], _, _, H1, rfl, I1.kept (t' := s1.toks) fun b o e => Heap.get?_push_of_some _ e, turn_list _ _, ⟨_, Heap.get?_push_size _ rfl, rfl, rfl⟩, fun b hb => ?_, q _ G1 H1 x1 R1 (itOk_list h1 h2)⟩
          have e : b = s1.heap.objs.size := by simpa using hb
          subst e
          exact I1.fpOk (Nat.le_refl _) (I1.hok.fresh (Nat.le_refl _))
      | tuple es =>
        rw [hd] at e2 rp
        cases e2
        cases rp with
        | tup h1 h2 =>
          cases r1
          obtain ⟨its, rv, pl, hz⟩ := I1.tuple (SqT.sub R1.sub h1)
          refine wpAny_pyIter_tuple (show s1.heap.IsTuple _ its.toArray from pl) ?_
          refine ⟨s1.heap.objs.size, [s1.heap.objs.size], _, _, H1, rfl, I1.kept (t' := s1.toks) fun b o e => Heap.get?_push_of_some _ e, turn_tuple _ _, ⟨_, Heap.get?_push_size _ rfl, rfl, rfl⟩, fun b hb => ?_, q _ G1 H1 x1 R1 (itOk_tup h1 h2)⟩
          have e : b = s1.heap.objs.size := by simpa using hb
          subst e
          exact I1.fpOk (Nat.le_refl _) (I1.hok.fresh (Nat.le_refl _))
      | str z =>
        rw [hd] at e2 rp
        cases e2
        cases rp
        obtain ⟨t, rfl⟩ := r1
        have qq := q _ G1 H1 x1 R1 itOk_str
        cases ha : z.cps.all (· < 128)
        · exact wpAny_pyIter_wide ha (pi_one (tk := s1.toks) I1 _ (turn_str _ z t "str_iterator" (.inr rfl)) ⟨_, Heap.get?_push_size _ rfl, rfl, rfl⟩ qq)
        · exact wpAny_pyIter_ascii ha (pi_one (tk := s1.toks) I1 _ (turn_str _ z t "str_ascii_iterator" (.inl rfl)) ⟨_, Heap.get?_push_size _ rfl, rfl, rfl⟩ qq)
      | none => rw [hd] at e2; cases e2
      | bool b => rw [hd] at e2; cases e2
      | int b => rw [hd] at e2; cases e2
      | dict b => rw [hd] at e2; cases e2

/-! ### range -/
/-- lo, lo + c, .. -/
def rgD (lo c : Int) (n : Nat) : List PyData := (List.range n).map fun i => .int (lo + (i : Nat) * c)
theorem rgD_get {lo c : Int} {n i : Nat} {d : PyData} (h : (rgD lo c n)[i]? = some d) : i < n ∧ d = .int (lo + (i : Nat) * c) := by
  unfold rgD at h
  rw [List.getElem?_map] at h
  by_cases hi : i < n
  · rw [List.getElem?_range hi] at h
    cases h
    exact ⟨hi, rfl⟩
  · rw [List.getElem?_eq_none (by simpa using hi)] at h
    cases h
theorem itOk_range {K : PySem.W.Frag} {G : Hp} {lo : Int} {n : Nat} : ItOk K G (Itr lo n) (rgD lo 1 n) := fun F G0 G2 H2 σ ρ i e R => by
  refine ⟨fun hi => ?_, fun d hd => ?_⟩
  · show n ≤ i
    unfold rgD at hi
    simp at hi
    omega
  · obtain ⟨hi, rfl⟩ := rgD_get hd
    refine ⟨hi, fun x H3 y => ?_⟩
    obtain ⟨rfl, rfl⟩ := y
    refine ⟨G2, Ext.refl _, R, ?_⟩
    have : lo + (i : Int) * 1 = lo + (i : Int) := by omega
    rw [this]
    exact .int _
theorem itOk_rangeC {K : PySem.W.Frag} {G : Hp} {lo c : Int} {n : Nat} : ItOk K G (Itc lo c n) (rgD lo c n) := fun F G0 G2 H2 σ ρ i e R => by
  refine ⟨fun hi => ?_, fun d hd => ?_⟩
  · show n ≤ i
    unfold rgD at hi
    simp at hi
    omega
  · obtain ⟨hi, rfl⟩ := rgD_get hd
    refine ⟨hi, fun x H3 y => ?_⟩
    obtain ⟨rfl, rfl⟩ := y
    exact ⟨G2, Ext.refl _, R, .int _⟩
def rgOk (i : Int) : Bool := decide (-(2 ^ 62) ≤ i) && decide (i < 2 ^ 62)
/-- the numbers that range(..) yields -/
def dRange1 : List PyData → Option (List PyData)
  | [.int j] => if rgOk j then some (rgD 0 1 j.toNat) else none
  | _ => none
def dRange2 : List PyData → Option (List PyData)
  | [.int i, .int j] => if rgOk i && rgOk j then some (rgD i 1 (j - i).toNat) else none
  | _ => none
def dRange3 : List PyData → Option (List PyData)
  | [.int i, .int j, .int c] => if c ≠ 0 ∧ c.natAbs < 1073741824 ∧ Builtin.Range.small i j c = true ∧ 0 ≤ Builtin.Range.rangeSize i j c then some (rgD i c (Builtin.Range.rangeSize i j c).toNat) else none
  | _ => none
def iRange (k : List PyData → Option (List PyData)) (f : M (List PyData)) : M (List PyData) := fun ρ => (f ρ).bind fun p => (k p.1).bind fun ds => some (ds, p.2)
theorem iRange_some {k : List PyData → Option (List PyData)} {f : M (List PyData)} {ρ ρ' : Rho} {ds : List PyData} (h : iRange k f ρ = some (ds, ρ')) : ∃ es, f ρ = some (es, ρ') ∧ k es = some ds := by
  unfold iRange at h
  cases e1 : f ρ with
  | none => rw [e1] at h; cases h
  | some p =>
    rw [e1] at h
    simp only [Option.bind_some] at h
    cases e2 : k p.1 with
    | none => rw [e2] at h; cases h
    | some z => rw [e2] at h; cases h; exact ⟨p.1, rfl, e2⟩
theorem rgOk_of {i : Int} (h : rgOk i = true) : -(2 ^ 62) ≤ i ∧ i < 2 ^ 62 := by
  unfold rgOk at h
  simpa using h
theorem RpAll.one {K : PySem.W.Frag} {G : Hp} {vs : List V} {j : Int} (h : RpAll K G vs [.int j]) : vs = [.int j] := RpAll.ofInts (ns := [j]) h
theorem RpAll.two {K : PySem.W.Frag} {G : Hp} {vs : List V} {i j : Int} (h : RpAll K G vs [.int i, .int j]) : vs = [.int i, .int j] := RpAll.ofInts (ns := [i, j]) h
theorem RpAll.three {K : PySem.W.Frag} {G : Hp} {vs : List V} {i j k : Int} (h : RpAll K G vs [.int i, .int j, .int k]) : vs = [.int i, .int j, .int k] := RpAll.ofInts (ns := [i, j, k]) h
theorem di_range1 {tg a : Expr} {f : M (List PyData)} {p pos : Pos} (hg : Gl X "range") (hm : X.mg "range" = none) (ha : PA X [a] (aD X.K f)) (hs : starEach [a] X.env = [(false, eval a X.env)] := by rfl) : PI X tg (.Call (.Name "range" p) [a] [] pos) (iD X.K (iRange dRange1 f)) :=
  (pi_range1 hg hm ha hs).imp fun σ H Q ⟨F, G0, G, ρ, ds, ρ', R, hf, q⟩ => by
    obtain ⟨es, e1, e2⟩ := iRange_some hf
    refine ⟨F, G0, G, ρ, es, ρ', R, e1, fun vs G1 H1 x1 R1 r1 => ?_⟩
    unfold dRange1 at e2
    split at e2
    · split at e2
      · rename_i h
        cases e2
        obtain ⟨h1, h2⟩ := rgOk_of h
        exact ⟨_, r1.one, h1, h2, q _ G1 H1 x1 R1 itOk_range⟩
      · cases e2
    · cases e2
theorem di_range2 {tg a b : Expr} {f : M (List PyData)} {p pos : Pos} (hg : Gl X "range") (hm : X.mg "range" = none) (ha : PA X [a, b] (aD X.K f)) (hs : starEach [a, b] X.env = [(false, eval a X.env), (false, eval b X.env)] := by rfl) (hs2 : starEach [b] X.env = [(false, eval b X.env)] := by rfl) : PI X tg (.Call (.Name "range" p) [a, b] [] pos) (iD X.K (iRange dRange2 f)) :=
  (pi_range2 hg hm ha hs hs2).imp fun σ H Q ⟨F, G0, G, ρ, ds, ρ', R, hf, q⟩ => by
    obtain ⟨es, e1, e2⟩ := iRange_some hf
    refine ⟨F, G0, G, ρ, es, ρ', R, e1, fun vs G1 H1 x1 R1 r1 => ?_⟩
    unfold dRange2 at e2
    split at e2
    · split at e2
      · rename_i h
        cases e2
        rw [Bool.and_eq_true] at h
        obtain ⟨h1, h2⟩ := rgOk_of h.1
        obtain ⟨h3, h4⟩ := rgOk_of h.2
        exact ⟨_, _, r1.two, ⟨h1, h2, h3, h4⟩, q _ G1 H1 x1 R1 itOk_range⟩
      · cases e2
    · cases e2
theorem di_range3 {tg a b c : Expr} {f : M (List PyData)} {p pos : Pos} (hg : Gl X "range") (hm : X.mg "range" = none) (ha : PA X [a, b, c] (aD X.K f))
    (hs : starEach [a, b, c] X.env = (false, eval a X.env) :: starEach [b, c] X.env := by rfl) (hpl : (backTo pos (starEach [b, c] X.env)).any (·.1) = false := by rfl) : PI X tg (.Call (.Name "range" p) [a, b, c] [] pos) (iD X.K (iRange dRange3 f)) :=
  (pi_range3 hg hm ha hs hpl).imp fun σ H Q ⟨F, G0, G, ρ, ds, ρ', R, hf, q⟩ => by
    obtain ⟨es, e1, e2⟩ := iRange_some hf
    refine ⟨F, G0, G, ρ, es, ρ', R, e1, fun vs G1 H1 x1 R1 r1 => ?_⟩
    unfold dRange3 at e2
    split at e2
    · split at e2
      · rename_i h
        cases e2
        exact ⟨_, _, _, _, r1.three, ⟨h.1, h.2.1, h.2.2.1, by have := h.2.2.2; omega⟩, q _ G1 H1 x1 R1 itOk_rangeC⟩
      · cases e2
    · cases e2

/-! ### enumerate -/
def enumD (ds : List PyData) : List PyData := ds.zipIdx.map fun p => .tuple [.int (p.2 : Nat), p.1]
theorem enumD_length (ds : List PyData) : (enumD ds).length = ds.length := by simp [enumD]
theorem enumD_get {ds : List PyData} {i : Nat} {d : PyData} (h : (enumD ds)[i]? = some d) : ∃ e, ds[i]? = some e ∧ d = .tuple [.int (i : Nat), e] := by
  unfold enumD at h
  rw [List.getElem?_map, List.getElem?_zipIdx] at h
  cases e1 : ds[i]? with
  | none => rw [e1] at h; cases h
  | some e => rw [e1] at h; simp at h; exact ⟨e, rfl, h.symm⟩
theorem itOk_enum {K : PySem.W.Frag} {G : Hp} {a : Addr} {xs : List V} {ds : List PyData} (h1 : SqL K G a xs) (h2 : RpAll K G xs ds) : ItOk K G (Ite K a) (enumD ds) := fun F G0 G2 H2 σ ρ i e R => by
  have hq : SqL K H2 a xs := SqL.sub R.sub (SqL.sub e.sub h1)
  refine ⟨fun hi => ⟨xs, hq, by rw [enumD_length] at hi; rw [h2.length]; omega⟩, fun d hd => ?_⟩
  obtain ⟨c, hc, rfl⟩ := enumD_get hd
  obtain ⟨v, hv, rv⟩ := h2.get hc
  refine ⟨⟨xs, v, hq, hv⟩, fun x H3 y => ?_⟩
  obtain ⟨T, x', rfl, hT, rfl, y⟩ := y
  have := y xs hq
  rw [hv] at this
  cases this
  have s := Sub.upd (o := HO.tup [.int (i : Nat), v]) (R.gsub hT)
  exact ⟨_, Ext.upd (R.gsub hT), R.frozen hT, .tup (SqT.of upd_same) (.cons (.int _) (.cons (Rp.sub s _ _ (Rp.sub e.sub _ _ rv)) .nil))⟩
theorem itOk_enumT {K : PySem.W.Frag} {G : Hp} {a : Addr} {xs : List V} {ds : List PyData} (h1 : SqT K G a xs) (h2 : RpAll K G xs ds) : ItOk K G (IteT K a) (enumD ds) := fun F G0 G2 H2 σ ρ i e R => by
  have hq : SqT K H2 a xs := SqT.sub R.sub (SqT.sub e.sub h1)
  refine ⟨fun hi => ⟨xs, hq, by rw [enumD_length] at hi; rw [h2.length]; omega⟩, fun d hd => ?_⟩
  obtain ⟨c, hc, rfl⟩ := enumD_get hd
  obtain ⟨v, hv, rv⟩ := h2.get hc
  refine ⟨⟨xs, v, hq, hv⟩, fun x H3 y => ?_⟩
  obtain ⟨T, x', rfl, hT, rfl, y⟩ := y
  have := y xs hq
  rw [hv] at this
  cases this
  have s := Sub.upd (o := HO.tup [.int (i : Nat), v]) (R.gsub hT)
  exact ⟨_, Ext.upd (R.gsub hT), R.frozen hT, .tup (SqT.of upd_same) (.cons (.int _) (.cons (Rp.sub s _ _ (Rp.sub e.sub _ _ rv)) .nil))⟩
def iEnumD (f : M PyData) : M (List PyData) := fun ρ => (f ρ).bind fun p => (dItems p.1).bind fun ds => some (enumD ds, p.2)
theorem di_enum {l : Expr} {f : M PyData} {elts : List Expr} {kk : Nat} {tpos p pos : Pos} (hg : Gl X "enumerate") (hm : X.mg "enumerate" = none) (hl : PE X l (eD X.K f)) (hs : starEach [l] X.env = [(false, eval l X.env)] := by rfl) : PI X (.Tuple elts kk tpos) (.Call (.Name "enumerate" p) [l] [] pos) (iD X.K (iEnumD f)) := by
  refine ⟨fun pins s σ H Rr I h => ?_⟩
  obtain ⟨F, G0, G, ρ, ds, ρ', R, hf, q⟩ := h
  unfold iEnumD at hf
  cases e1 : f ρ with
  | none => rw [e1] at hf; cases hf
  | some p' =>
    rw [e1] at hf
    simp only [Option.bind_some] at hf
    cases e2 : dItems p'.1 with
    | none => rw [e2] at hf; cases hf
    | some ds' =>
      rw [e2] at hf; cases hf
      have ha : PA X [l] (tCons (eD X.K f) tNil) := pa_cons hl pa_nil (by rw [hs]; rfl)
      refine Call_ (ld_blt I hg hm boot_enumerate (PyProof.Rows.callWith_type1 (thn (ha.run pos pins s σ H (fun vs H' => ∃ v G', vs = [v] ∧ Ext G G' ∧ Rel X.K F G0 G' H' σ p'.2 ∧ Rp X.K G' v p'.1) I ⟨F, G0, G, ρ, p'.1, p'.2, R, e1, fun v G' H' x R' r => ⟨v, G', rfl, x, R', r⟩⟩) fun us s1 ⟨vs, H1, I1, r1, v, G1, ev, x1, R1, rp⟩ => ?_) hs rfl))
      subst ev
      obtain ⟨u, rfl, r⟩ := vals1 r1
      cases hd : p'.1 with
      | list es =>
        rw [hd] at e2 rp
        cases e2
        cases rp with
        | lst h1 h2 =>
          cases r
          obtain ⟨its, rv, pl, hz⟩ := I1.list (SqL.sub R1.sub h1)
          refine call_enumerate_list pl.isList fun h' he hit hsz hk => wpAny_pyIter_enum he ?_
          have I2 : Inv X pins σ H1 { s1 with heap := h' } := I1.kept (t' := s1.toks) hk
          refine ⟨s1.heap.objs.size + 1, [s1.heap.objs.size + 1, s1.heap.objs.size], _, _, H1, rfl, I2, turn_enum _ (s1.heap.objs.size + 1) s1.heap.objs.size, ⟨⟨.none, he⟩, hit, Nat.succ_ne_self _⟩, fun b hb => ?_, q _ G1 H1 x1 R1 (itOk_enum h1 h2)⟩
          have e' : b = s1.heap.objs.size + 1 ∨ b = s1.heap.objs.size := by simpa using hb
          have hle : s1.heap.objs.size ≤ b := by
            rcases e' with z | z
            · rw [z]; exact Nat.le_add_right _ _
            · rw [z]; exact Nat.le_refl _
          exact I1.fpOk hle (I1.hok.fresh hle)
      | tuple es =>
        rw [hd] at e2 rp
        cases e2
        cases rp with
        | @tup a _ _ h1 h2 =>
          cases r
          obtain ⟨its, rv, pl, hz⟩ := I1.tuple (SqT.sub R1.sub h1)
          have la : a < s1.heap.objs.size := pl.lt
          refine enum_begins1 (begins_tuple a its.toArray) pl fun h' he hit hsz hk => wpAny_pyIter_enum he ?_
          have I2 : Inv X pins σ H1 { s1 with heap := h' } := I1.kept (t' := s1.toks) hk
          refine ⟨s1.heap.objs.size + 1, [s1.heap.objs.size + 1, s1.heap.objs.size], _, _, H1, rfl, I2, turn_enumT _ (s1.heap.objs.size + 1) s1.heap.objs.size (Nat.ne_of_lt la), ⟨⟨.none, he⟩, ⟨_, hit, rfl, rfl⟩, Nat.succ_ne_self _, Nat.ne_of_lt (Nat.lt_succ_of_lt la)⟩, fun b hb => ?_, q _ G1 H1 x1 R1 (itOk_enumT h1 h2)⟩
          have e' : b = s1.heap.objs.size + 1 ∨ b = s1.heap.objs.size := by simpa using hb
          have hle : s1.heap.objs.size ≤ b := by
            rcases e' with z | z
            · rw [z]; exact Nat.le_add_right _ _
            · rw [z]; exact Nat.le_refl _
          exact I1.fpOk hle (I1.hok.fresh hle)
      | none => rw [hd] at e2; cases e2
      | bool b => rw [hd] at e2; cases e2
      | int b => rw [hd] at e2; cases e2
      | str b => rw [hd] at e2; cases e2
      | dict b => rw [hd] at e2; cases e2

/-! ### targets -/
def gD (K : PySem.W.Frag) (f : PyData → Rho → Option Rho) : TG := fun v σ H Q => ∃ F G0 G ρ d ρ', Rel K F G0 G H σ ρ ∧ Rp K G v d ∧ f d ρ = some ρ' ∧ ∀ σ' G' H', Ext G G' → Rel K F G0 G' H' σ' ρ' → Q σ' H'
def gsD (K : PySem.W.Frag) (f : List PyData → Rho → Option Rho) : TGs := fun vs σ H Q => ∃ F G0 G ρ ds ρ', Rel K F G0 G H σ ρ ∧ RpAll K G vs ds ∧ f ds ρ = some ρ' ∧ ∀ σ' G' H', Ext G G' → Rel K F G0 G' H' σ' ρ' → Q σ' H'
def asName (i : Nat) (d : PyData) (ρ : Rho) : Option Rho := some (ρ.set i (some (.fr d)))
theorem dg_name {i : Nat} {x : Str} {pos : Pos} (h : PG X (.Name x pos) (gName i)) : PG X (.Name x pos) (gD X.K (asName i)) := h.imp fun v σ H Q ⟨F, G0, G, ρ, d, ρ', R, r, e, q⟩ => by
  cases e
  exact q _ G H (Ext.refl _) (R.putF r)
def asNil (ds : List PyData) (ρ : Rho) : Option Rho := match ds with
  | [] => some ρ
  | _ => none
def asCons (f : PyData → Rho → Option Rho) (g : List PyData → Rho → Option Rho) (ds : List PyData) (ρ : Rho) : Option Rho := match ds with
  | d :: ds => (f d ρ).bind fun ρ1 => g ds ρ1
  | [] => none
theorem _root_.L2.PGs.imp {ts : List Expr} {t t' : TGs} (h : PGs X ts t) (hi : ∀ vs σ H Q, t' vs σ H Q → t vs σ H Q) : PGs X ts t' := ⟨fun pins s σ H vs us Q I r hw => h.run pins s σ H vs us Q I r (hi _ _ _ _ hw)⟩
theorem dgs_nil : PGs X [] (gsD X.K asNil) := pgs_nil.imp fun vs σ H Q ⟨F, G0, G, ρ, ds, ρ', R, r, e, q⟩ => by
  unfold asNil at e
  split at e
  · cases e; cases r; exact ⟨rfl, q σ G H (Ext.refl _) R⟩
  · cases e
theorem dgs_cons {e : Expr} {es : List Expr} {f : PyData → Rho → Option Rho} {g : List PyData → Rho → Option Rho} (h1 : PG X e (gD X.K f)) (h2 : PGs X es (gsD X.K g)) (hs : (assignEach (e :: es) X.env).map (·.2) = assign e X.env :: (assignEach es X.env).map (·.2) := by rfl) : PGs X (e :: es) (gsD X.K (asCons f g)) :=
  (pgs_cons h1 h2 hs).imp fun vs σ H Q ⟨F, G0, G, ρ, ds, ρ', R, r, e, q⟩ => by
    unfold asCons at e
    split at e
    · rename_i d ds'
      cases r with
      | cons r1 r2 =>
        cases e1 : f d ρ with
        | none => rw [e1] at e; cases e
        | some ρ1 =>
          rw [e1] at e
          exact ⟨_, _, rfl, F, G0, G, ρ, d, ρ1, R, r1, e1, fun σ1 G1 H1 x1 R1 => ⟨F, G0, G1, ρ1, ds', ρ', R1, RpAll.sub x1.sub _ _ r2, e, fun σ2 G2 H2 x2 R2 => q σ2 G2 H2 (x1.trans x2) R2⟩⟩
    · cases e
def asTup (n : Nat) (f : List PyData → Rho → Option Rho) (d : PyData) (ρ : Rho) : Option Rho := match d with
  | .tuple ds => if ds.length = n then f ds ρ else none
  | _ => none
theorem dg_tup {es : List Expr} {k : Nat} {pos : Pos} {n : Nat} {f : List PyData → Rho → Option Rho} (hc : X.calm = true) (h : PGs X es (gsD X.K f)) (hn : (assignEach es X.env).length = n := by rfl) (hst : (assignEach es X.env).findIdx? (·.1) = none := by rfl) : PG X (.Tuple es k pos) (gD X.K (asTup n f)) := (pg_tup hc h hn hst).imp fun v σ H Q ⟨F, G0, G, ρ, d, ρ', R, r, e, q⟩ => by
  unfold asTup at e
  split at e
  · split at e
    · rename_i hl
      cases r with
      | tup h1 h2 => exact ⟨_, _, rfl, SqT.sub R.sub h1, by rw [h2.length]; exact hl, F, G0, G, ρ, _, ρ', R, h2, e, q⟩
    · cases e
  · cases e
end
end PD
namespace PD
open PySem PySem.Spec PyProof.Rows L2

section
variable {X : Cx}
/-! ### list comprehensions -/
def ptsD (K : PySem.W.Frag) (f : M Bool) : TT := bD K f
def bYes : M Bool := fun ρ => some (true, ρ)
theorem dts_nil {Y : Cx} : PTs Y [] (bD Y.K bYes) := ⟨fun pins s σ H Q I ⟨F, G0, G, ρ, b, ρ', R, hf, q⟩ => by
  cases hf
  exact pts_nil.run pins s σ H Q I (q G H (Ext.refl _) R)⟩
theorem dts_one {Y : Cx} {c : Expr} {f : M Bool} (h : PT Y c (bD Y.K f)) : PTs Y [c] (bD Y.K f) := pts_one h

/-- names forgotten -/
def wipeR (ρ : Rho) : List Nat → Rho
  | [] => ρ
  | v :: vs => (wipeR ρ vs).set v none
theorem wipeR_length (ρ : Rho) : ∀ vs : List Nat, (wipeR ρ vs).length = ρ.length
  | [] => rfl
  | v :: vs => by unfold wipeR; rw [List.length_set, wipeR_length ρ vs]
theorem wipeR_some {ρ : Rho} {i : Nat} {x : EV} : ∀ {vs : List Nat}, (wipeR ρ vs)[i]? = some (some x) → ρ[i]? = some (some x) ∧ i ∉ vs
  | [], h => ⟨h, by simp⟩
  | v :: vs, h => by
    unfold wipeR at h
    by_cases hi : v = i
    · subst hi
      by_cases hv : v < (wipeR ρ vs).length
      · rw [List.getElem?_set_self hv] at h; cases h
      · rw [List.getElem?_eq_none (by simpa using hv)] at h; cases h
    · rw [List.getElem?_set_ne hi] at h
      obtain ⟨h1, h2⟩ := wipeR_some h
      exact ⟨h1, by simp only [List.mem_cons, not_or]; exact ⟨fun e => hi e.symm, h2⟩⟩
theorem wipe_get {σ : St} {i : Nat} : ∀ {vs : List Nat}, i ∉ vs → (wipe σ vs)[i]? = σ[i]?
  | [], _ => rfl
  | v :: vs, h => by
    simp only [List.mem_cons, not_or] at h
    unfold wipe
    rw [List.getElem?_set_ne (Ne.symm h.1)]
    exact wipe_get h.2
theorem wipeR_get {ρ : Rho} {i : Nat} : ∀ {vs : List Nat}, i ∉ vs → (wipeR ρ vs)[i]? = ρ[i]?
  | [], _ => rfl
  | v :: vs, h => by
    simp only [List.mem_cons, not_or] at h
    unfold wipeR
    rw [List.getElem?_set_ne (Ne.symm h.1)]
    exact wipeR_get h.2
theorem Rel.wipe {K : PySem.W.Frag} {F : Fr} {G0 G H : Hp} {σ : St} {ρ : Rho} (R : Rel K F G0 G H σ ρ) (vs : List Nat) : Rel K F G0 G H (L2.wipe σ vs) (wipeR ρ vs) where
  keep := R.keep
  g0 := R.g0
  gn := R.gn
  sub := R.sub
  len := by rw [wipe_length, wipeR_length]; exact R.len
  at_ := fun i e he => by
    obtain ⟨h1, h2⟩ := wipeR_some he
    rw [wipe_get h2]
    exact R.at_ i e h1
  inj := fun i j e e' a h1 h2 o1 o2 s1 s2 => by
    obtain ⟨h1, n1⟩ := wipeR_some h1
    obtain ⟨h2, n2⟩ := wipeR_some h2
    rw [wipe_get n1] at s1
    rw [wipe_get n2] at s2
    exact R.inj i j e e' a h1 h2 o1 o2 s1 s2
/-- the names vs as they were -/
def backR (ρ ρ2 : Rho) (vs : List Nat) : Rho := (List.range ρ.length).map fun i => if vs.contains i then ρ.getD i none else ρ2.getD i none
theorem backR_get {ρ ρ2 : Rho} {vs : List Nat} {i : Nat} {e : EV} (h : (backR ρ ρ2 vs)[i]? = some (some e)) : (i ∈ vs ∧ ρ[i]? = some (some e)) ∨ (i ∉ vs ∧ ρ2[i]? = some (some e)) := by
  unfold backR at h
  rw [List.getElem?_map] at h
  by_cases hi : i < ρ.length
  · rw [List.getElem?_range hi] at h
    simp only [Option.map_some, Option.some.injEq] at h
    by_cases hv : vs.contains i
    · rw [if_pos hv] at h
      have hm : i ∈ vs := by simpa using hv
      refine .inl ⟨hm, ?_⟩
      rw [List.getD_eq_getElem?_getD] at h
      cases q : ρ[i]? with
      | none => rw [q] at h; cases h
      | some o => rw [q] at h; simp at h; rw [h]
    · rw [if_neg hv] at h
      have hm : i ∉ vs := by simpa using hv
      refine .inr ⟨hm, ?_⟩
      rw [List.getD_eq_getElem?_getD] at h
      cases q : ρ2[i]? with
      | none => rw [q] at h; cases h
      | some o => rw [q] at h; simp at h; rw [h]
  · rw [List.getElem?_eq_none (by simpa using hi)] at h
    cases h
def noOwn (ρ : Rho) (vs : List Nat) : Bool := vs.all fun i => match ρ[i]? with
  | some (some (.fr _)) => true
  | some (some _) => false
  | _ => true
theorem noOwn_of {ρ : Rho} {vs : List Nat} (h : noOwn ρ vs = true) {i : Nat} {e : EV} (hi : i ∈ vs) (he : ρ[i]? = some (some e)) : ∃ d, e = .fr d := by
  unfold noOwn at h
  have := List.all_eq_true.mp h i hi
  rw [he] at this
  cases e with
  | fr d => exact ⟨d, rfl⟩
  | _ => cases this
theorem Rel.back {K : PySem.W.Frag} {F : Fr} {G0 G G' H H' : Hp} {σ : St} {ρ ρ2 : Rho} {vs : List Nat} (R : Rel K F G0 G H σ ρ) (x : Ext G G') (R2 : Rel K F G0 G' H' (L2.wipe σ vs) ρ2) (hn : noOwn ρ vs = true) : Rel K F G0 G' H' σ (backR ρ ρ2 vs) where
  keep := R2.keep
  g0 := R2.g0
  gn := R2.gn
  sub := R2.sub
  len := by rw [backR, List.length_map, List.length_range]; exact R.len
  at_ := fun i e he => by
    rcases backR_get he with ⟨hi, h1⟩ | ⟨hi, h1⟩
    · obtain ⟨d, rfl⟩ := noOwn_of hn hi h1
      obtain ⟨v, hv, hh⟩ := R.at_ i _ h1
      exact ⟨v, hv, Rp.sub x.sub _ _ hh⟩
    · obtain ⟨v, hv, hh⟩ := R2.at_ i _ h1
      rw [wipe_get hi] at hv
      exact ⟨v, hv, hh⟩
  inj := fun i j e e' a h1 h2 o1 o2 s1 s2 => by
    rcases backR_get h1 with ⟨hi, h1⟩ | ⟨hi, h1⟩
    · obtain ⟨d, rfl⟩ := noOwn_of hn hi h1; cases o1
    · rcases backR_get h2 with ⟨hj, h2⟩ | ⟨hj, h2⟩
      · obtain ⟨d, rfl⟩ := noOwn_of hn hj h2; cases o2
      · exact R2.inj i j e e' a h1 h2 o1 o2 (by rw [wipe_get hi]; exact s1) (by rw [wipe_get hj]; exact s2)
/-- the turns of a comprehension -/
def lcGo (vs : List Nat) (as : PyData → Rho → Option Rho) (tt : M Bool) (el : M PyData) : List PyData → Rho → Option (List PyData × Rho)
  | [], ρ => some ([], ρ)
  | d :: ds, ρ => (as d ρ).bind fun ρ1 => (tt ρ1).bind fun t => if t.1 then (el t.2).bind fun e => (lcGo vs as tt el ds (wipeR e.2 vs)).bind fun r => some (e.1 :: r.1, r.2)
      else lcGo vs as tt el ds (wipeR t.2 vs)
def lcD (vs : List Nat) (it : M (List PyData)) (as : PyData → Rho → Option Rho) (tt : M Bool) (el : M PyData) : M (List PyData) := fun ρ => (it ρ).bind fun p =>
  if noOwn p.2 vs && decide (p.1.length ≤ sizeLine) then (lcGo vs as tt el p.1 (wipeR p.2 vs)).bind fun q => some (q.1, backR p.2 q.2 vs) else none
/-- the target's store leaves the other slots -/
def GKeep (g : TG) (vs : List Nat) : Prop := ∀ v σ H Q, g v σ H Q → g v σ H fun σ' H' => L2.wipe σ' vs = L2.wipe σ vs ∧ Q σ' H'
theorem wipe_set {σ : St} {i : Nat} {x : Option V} : ∀ {vs : List Nat}, i ∈ vs → wipe (σ.set i x) vs = wipe σ vs := by
  intro vs hi
  apply List.ext_getElem?
  intro j
  by_cases hj : j ∈ vs
  · have h1 : ∀ τ : St, τ.length = σ.length → (wipe τ vs)[j]? = if j < σ.length then some none else none := by
      intro τ hl
      by_cases hlt : j < σ.length
      · rw [if_pos hlt]
        have hlt' : j < (wipe τ vs).length := by rw [wipe_length, hl]; exact hlt
        rw [List.getElem?_eq_getElem hlt']
        cases q : (wipe τ vs)[j] with
        | none => rfl
        | some y =>
          have : (wipe τ vs)[j]? = some (some y) := by rw [List.getElem?_eq_getElem hlt', q]
          exact absurd hj (wipe_some this).2
      · rw [if_neg hlt, List.getElem?_eq_none (by rw [wipe_length, hl]; omega)]
    rw [h1 _ (by simp), h1 _ rfl]
  · rw [wipe_get hj, wipe_get hj]
    have : i ≠ j := fun e => hj (e ▸ hi)
    rw [List.getElem?_set_ne this]
theorem gkeep_name {i : Nat} {vs : List Nat} (h : i ∈ vs) : GKeep (gName i) vs := fun v σ H Q q => ⟨wipe_set h, q⟩
/-- a target's rule, and that it stores at the places vs alone -/
structure PGv (X : Cx) (tg : Expr) (f : PyData → Rho → Option Rho) (vs : List Nat) : Prop where
  run : PG X tg fun v σ H Q => ∃ F G0 G ρ d ρ', Rel X.K F G0 G H σ ρ ∧ Rp X.K G v d ∧ f d ρ = some ρ' ∧ ∀ σ' G' H', L2.wipe σ' vs = L2.wipe σ vs → Ext G G' → Rel X.K F G0 G' H' σ' ρ' → Q σ' H'
def gvD (K : PySem.W.Frag) (vs : List Nat) (f : PyData → Rho → Option Rho) : TG := fun v σ H Q => ∃ F G0 G ρ d ρ', Rel K F G0 G H σ ρ ∧ Rp K G v d ∧ f d ρ = some ρ' ∧ ∀ σ' G' H', L2.wipe σ' vs = L2.wipe σ vs → Ext G G' → Rel K F G0 G' H' σ' ρ' → Q σ' H'
def gvsD (K : PySem.W.Frag) (vs : List Nat) (f : List PyData → Rho → Option Rho) : TGs := fun us σ H Q => ∃ F G0 G ρ ds ρ', Rel K F G0 G H σ ρ ∧ RpAll K G us ds ∧ f ds ρ = some ρ' ∧ ∀ σ' G' H', L2.wipe σ' vs = L2.wipe σ vs → Ext G G' → Rel K F G0 G' H' σ' ρ' → Q σ' H'
theorem dv_name {Y : Cx} {i : Nat} {x : Str} {pos : Pos} {vs : List Nat} (h : PG Y (.Name x pos) (gName i)) (hi : i ∈ vs := by decide) : PG Y (.Name x pos) (gvD Y.K vs (asName i)) := h.imp fun v σ H Q ⟨F, G0, G, ρ, d, ρ', R, r, e, q⟩ => by
  cases e
  exact q _ G H (wipe_set hi) (Ext.refl _) (R.putF r)
theorem dvs_nil {Y : Cx} {vs : List Nat} : PGs Y [] (gvsD Y.K vs asNil) := pgs_nil.imp fun us σ H Q ⟨F, G0, G, ρ, ds, ρ', R, r, e, q⟩ => by
  unfold asNil at e
  split at e
  · cases e; cases r; exact ⟨rfl, q σ G H rfl (Ext.refl _) R⟩
  · cases e
theorem dvs_cons {Y : Cx} {vs : List Nat} {e : Expr} {es : List Expr} {f : PyData → Rho → Option Rho} {g : List PyData → Rho → Option Rho} (h1 : PG Y e (gvD Y.K vs f)) (h2 : PGs Y es (gvsD Y.K vs g)) (hs : (assignEach (e :: es) Y.env).map (·.2) = assign e Y.env :: (assignEach es Y.env).map (·.2) := by rfl) : PGs Y (e :: es) (gvsD Y.K vs (asCons f g)) :=
  (pgs_cons h1 h2 hs).imp fun us σ H Q ⟨F, G0, G, ρ, ds, ρ', R, r, e, q⟩ => by
    unfold asCons at e
    split at e
    · rename_i d ds'
      cases r with
      | cons r1 r2 =>
        cases e1 : f d ρ with
        | none => rw [e1] at e; cases e
        | some ρ1 =>
          rw [e1] at e
          exact ⟨_, _, rfl, F, G0, G, ρ, d, ρ1, R, r1, e1, fun σ1 G1 H1 w1 x1 R1 => ⟨F, G0, G1, ρ1, ds', ρ', R1, RpAll.sub x1.sub _ _ r2, e, fun σ2 G2 H2 w2 x2 R2 => q σ2 G2 H2 (w2.trans w1) (x1.trans x2) R2⟩⟩
    · cases e
theorem dv_tup {Y : Cx} {vs : List Nat} {es : List Expr} {k : Nat} {pos : Pos} {n : Nat} {f : List PyData → Rho → Option Rho} (hc : Y.calm = true) (h : PGs Y es (gvsD Y.K vs f)) (hn : (assignEach es Y.env).length = n := by rfl) (hst : (assignEach es Y.env).findIdx? (·.1) = none := by rfl) : PG Y (.Tuple es k pos) (gvD Y.K vs (asTup n f)) :=
  (pg_tup hc h hn hst).imp fun v σ H Q ⟨F, G0, G, ρ, d, ρ', R, r, e, q⟩ => by
    unfold asTup at e
    split at e
    · split at e
      · rename_i hl
        cases r with
        | tup h1 h2 => exact ⟨_, _, rfl, SqT.sub R.sub h1, by rw [h2.length]; exact hl, F, G0, G, ρ, _, ρ', R, h2, e, q⟩
      · cases e
    · cases e
theorem lcGo_length {vs : List Nat} {as : PyData → Rho → Option Rho} {tt : M Bool} {el : M PyData} : ∀ {ds : List PyData} {ρ : Rho} {r : List PyData × Rho}, lcGo vs as tt el ds ρ = some r → r.1.length ≤ ds.length
  | [], ρ, r, h => by cases h; exact Nat.le_refl _
  | d :: ds, ρ, r, h => by
    unfold lcGo at h
    cases e1 : as d ρ with
    | none => rw [e1] at h; cases h
    | some ρ1 =>
      rw [e1] at h
      simp only [Option.bind_some] at h
      cases e2 : tt ρ1 with
      | none => rw [e2] at h; cases h
      | some t =>
        rw [e2] at h
        simp only [Option.bind_some] at h
        split at h
        · cases e3 : el t.2 with
          | none => rw [e3] at h; cases h
          | some e =>
            rw [e3] at h
            simp only [Option.bind_some] at h
            cases e4 : lcGo vs as tt el ds (wipeR e.2 vs) with
            | none => rw [e4] at h; cases h
            | some r' =>
              rw [e4] at h; cases h
              have := lcGo_length e4
              simp only [List.length_cons]
              omega
        · have := lcGo_length h
          simp only [List.length_cons]
          omega
/-- the comprehension's reading from what its parts give -/
theorem lc_imp {K : PySem.W.Frag} {vs : List Nat} {it : M (List PyData)} {as : PyData → Rho → Option Rho} {tt : M Bool} {el : M PyData} {σ : St} {H : Hp} {Q : VK} (h : nD K (lcD vs it as tt el) σ H Q) :
    tLc (iD K it) (gvD K vs as) (bD K tt) (eD K el) vs σ H Q := by
  obtain ⟨F, G0, G, ρ, zs, ρ', R, hf, q⟩ := h
  unfold lcD at hf
  cases e1 : it ρ with
  | none => rw [e1] at hf; cases hf
  | some p =>
    rw [e1] at hf
    simp only [Option.bind_some] at hf
    split at hf
    · rename_i hcond
      rw [Bool.and_eq_true] at hcond
      obtain ⟨hno, hlen⟩ := hcond
      have hlen : p.1.length ≤ sizeLine := by simpa using hlen
      cases e2 : lcGo vs as tt el p.1 (wipeR p.2 vs) with
      | none => rw [e2] at hf; cases hf
      | some q2 =>
        rw [e2] at hf; cases hf
        refine ⟨F, G0, G, ρ, p.1, p.2, R, e1, fun J G1 H1 x1 R1 ok D hD => ?_⟩
        have L0 := R1.loose hD
        -- the invariant: what is made so far (acc), what is still to come
        refine ⟨fun i m H => m = p.1.length - i ∧ i ≤ p.1.length ∧ ∃ G2 ρ2 acc ys, Ext G1 G2 ∧ G2 D = none ∧ Rel K (F.put D (.lst ys)) G0 G2 H (L2.wipe σ vs) ρ2 ∧ RpAll K G2 ys acc ∧ acc.length ≤ i ∧
            ∃ r, lcGo vs as tt el (p.1.drop i) ρ2 = some (r, q2.2) ∧ acc ++ r = q2.1, ⟨p.1.length, by simp, Nat.zero_le _, G1, wipeR p.2 vs, [], [], Ext.refl _, L0.1, ?_, .nil, Nat.le_refl _, q2.1, by simpa using e2, rfl⟩, ?_⟩
        · exact ((R1.laid hD).guard upd_same L0.1 L0.2.2).wipe vs
        · rintro i m H2 ⟨rfl, hi, G2, ρ2, acc, ys, x2, hG2, R2, ra, hacc, r, hgo, hr⟩
          obtain ⟨hstop, hgo'⟩ := ok _ _ _ _ _ _ i x2 R2
          by_cases hlt : i < p.1.length
          · have hd : p.1[i]? = some p.1[i] := List.getElem?_eq_getElem hlt
            obtain ⟨jg, jy⟩ := hgo' _ hd
            rw [List.drop_eq_getElem_cons hlt] at hgo
            unfold lcGo at hgo
            refine .inr ⟨jg, fun H' => ∃ G3 ρ3 acc' ys', Ext G1 G3 ∧ G3 D = none ∧ Rel K (F.put D (.lst ys')) G0 G3 H' (L2.wipe σ vs) ρ3 ∧ RpAll K G3 ys' acc' ∧ acc'.length ≤ i + 1 ∧
              ∃ r, lcGo vs as tt el (p.1.drop (i + 1)) ρ3 = some (r, q2.2) ∧ acc' ++ r = q2.1, fun H' hN => ⟨p.1.length - (i + 1), by omega, rfl, hlt, hN⟩, fun x H3 y => ?_⟩
            obtain ⟨G3, x3, R3, rx⟩ := jy x H3 y
            cases f1 : as p.1[i] ρ2 with
            | none => rw [f1] at hgo; cases hgo
            | some ρ3 =>
              rw [f1] at hgo
              simp only [Option.bind_some] at hgo
              refine ⟨_, G0, G3, ρ2, p.1[i], ρ3, R3, rx, f1, fun σ4 G4 H4 w4 x4 R4 => ⟨by rw [w4]; exact (wipe_wipe σ vs), ?_⟩⟩
              cases f2 : tt ρ3 with
              | none => rw [f2] at hgo; cases hgo
              | some t =>
                rw [f2] at hgo
                simp only [Option.bind_some] at hgo
                refine ⟨_, G0, G4, ρ3, t.1, t.2, R4, f2, fun G5 H5 x5 R5 => ?_⟩
                have gD5 : ∀ {G' H' σ' ρ'}, Rel K (F.put D (.lst ys)) G0 G' H' σ' ρ' → G' D = none := fun {G' H' σ' ρ'} Rq => by
                  cases z : G' D with
                  | none => rfl
                  | some o =>
                    rcases Rq.gn D o z with q' | q'
                    · have := R1.g0 D o q'
                      rw [L0.1] at this; cases this
                    · have q' : upd F.hp D (.lst ys) D = none := q'
                      rw [upd_same] at q'; cases q'
                have w5 : L2.wipe σ4 vs = L2.wipe σ vs := w4.trans (wipe_wipe σ vs)
                cases ht : t.1 with
                | true =>
                  rw [ht, if_pos rfl] at hgo
                  dsimp only
                  rw [if_pos rfl]
                  cases f3 : el t.2 with
                  | none => rw [f3] at hgo; cases hgo
                  | some e =>
                    rw [f3] at hgo
                    simp only [Option.bind_some] at hgo
                    cases f4 : lcGo vs as tt el (p.1.drop (i + 1)) (wipeR e.2 vs) with
                    | none => rw [f4] at hgo; cases hgo
                    | some r' =>
                      rw [f4] at hgo
                      simp only [Option.bind_some, Option.some.injEq, Prod.mk.injEq] at hgo
                      obtain ⟨g1, g2⟩ := hgo
                      refine ⟨_, G0, G5, t.2, e.1, e.2, R5, f3, fun v G6 H6 x6 R6 r6 => ⟨ys, R6.keep D _ upd_same, by rw [ra.length]; omega, ?_⟩⟩
                      have hG6 : G6 D = none := gD5 R6
                      refine ⟨G6, wipeR e.2 vs, acc ++ [e.1], ys ++ [v], x2.trans (x3.trans (x4.trans (x5.trans x6))), hG6, ?_, (RpAll.sub (x3.trans (x4.trans (x5.trans x6))).sub _ _ ra).append (.cons r6 .nil), by simp; omega, r'.1, by rw [f4, ← g2], by rw [← hr, ← g1]; simp⟩
                      have own6 : ∀ (i : Nat) (e' : EV), e.2[i]? = some (some e') → e'.own = true → σ4[i]? ≠ some (some (.ref D)) := fun j e' hj ho hq => by
                        obtain ⟨w', hw', hh'⟩ := R6.at_ j e' hj
                        obtain ⟨a', rfl, _, _, fa', _⟩ := hh'.dat_own ho
                        rw [hw'] at hq; cases hq
                        have fa' : upd F.hp D (.lst ys) D = none := fa'
                        rw [upd_same] at fa'; cases fa'
                      have R7 := (R6.unguard L0.2.1).other (o := .lst (ys ++ [v])) hG6 L0.2.1 own6
                      have R8 := (R7.guard upd_same hG6 own6).wipe vs
                      rw [w5] at R8
                      exact R8
                | false =>
                  rw [ht, if_neg Bool.false_ne_true] at hgo
                  dsimp only
                  rw [if_neg Bool.false_ne_true]
                  have R8 := R5.wipe vs
                  rw [w5] at R8
                  exact ⟨G5, wipeR t.2 vs, acc, ys, x2.trans (x3.trans (x4.trans x5)), gD5 R5, R8, RpAll.sub (x3.trans (x4.trans x5)).sub _ _ ra, by omega, r, hgo, hr⟩
          · have hi' : i = p.1.length := by omega
            refine .inl ⟨hstop hi', ?_⟩
            rw [hi', List.drop_length] at hgo
            cases hgo
            rw [List.append_nil] at hr
            subst hr
            have hH2 : H2 D = some (.lst ys) := R2.keep D _ upd_same
            have R3 : Rel K F G0 G2 H2 σ (backR p.2 q2.2 vs) := R1.back x2 (R2.unguard L0.2.1) hno
            refine q D ys G2 H2 (x1.trans x2) R3 hH2 ⟨hG2, L0.2.1, fun j e' hj ho hq => ?_⟩ ra
            rcases backR_get hj with ⟨hv, h1⟩ | ⟨hv, h1⟩
            · obtain ⟨d, rfl⟩ := noOwn_of hno hv h1; cases ho
            · obtain ⟨w', hw', hh'⟩ := R2.at_ j e' h1
              obtain ⟨a', rfl, _, _, fa', _⟩ := hh'.dat_own ho
              rw [wipe_get hv] at hw'
              rw [hw'] at hq; cases hq
              have fa' : upd F.hp D (.lst ys) D = none := fa'
              rw [upd_same] at fa'; cases fa'
    · cases hf
where
  wipe_wipe (σ : St) (vs : List Nat) : L2.wipe (L2.wipe σ vs) vs = L2.wipe σ vs := by
    apply List.ext_getElem?
    intro j
    by_cases hj : j ∈ vs
    · have h1 : ∀ τ : St, τ.length = σ.length → (L2.wipe τ vs)[j]? = if j < σ.length then some none else none := by
        intro τ hl
        by_cases hlt : j < σ.length
        · rw [if_pos hlt]
          have hlt' : j < (L2.wipe τ vs).length := by rw [wipe_length, hl]; exact hlt
          rw [List.getElem?_eq_getElem hlt']
          cases q : (L2.wipe τ vs)[j] with
          | none => rfl
          | some y =>
            have : (L2.wipe τ vs)[j]? = some (some y) := by rw [List.getElem?_eq_getElem hlt', q]
            exact absurd hj (wipe_some this).2
        · rw [if_neg hlt, List.getElem?_eq_none (by rw [wipe_length, hl]; omega)]
      rw [h1 _ (wipe_length _ _), h1 _ rfl]
    · rw [wipe_get hj]
/-- [elt for target in iter if ..] -/
theorem dn_lc {elt tg iter : Expr} {ifs : List Expr} {scope : Scope} {own : List (Str × Nat)} {pos : Pos} {it : M (List PyData)} {as : PyData → Rho → Option Rho} {tt : M Bool} {el : M PyData} (hc : X.calm = true) (hN : X.N.Nodup) (hi : PI X tg iter (iD X.K it)) (ok : BlkOk X.N X.env.scope scope own)
    (hg : ∀ (s : Shared) (H : Hp) (C : Addr) (cl : List (Str × Addr)) (fp : List Addr), PG (X.blk s H scope (compEnvC scope cl C X.env) fp) tg (gvD X.K (own.map (·.2)) as)) (ht : ∀ (s : Shared) (H : Hp) (C : Addr) (cl : List (Str × Addr)) (fp : List Addr), PTs (X.blk s H scope (compEnvC scope cl C X.env) fp) ifs (bD X.K tt))
    (he : ∀ (s : Shared) (H : Hp) (C : Addr) (cl : List (Str × Addr)) (fp : List Addr), PE (X.blk s H scope (compEnvC scope cl C X.env) fp) elt (eD X.K el)) (hs : ∀ x, foldedSetIterable iter X.env x = pure x := by intro _; rfl) :
    PE X (.ListComp elt [⟨tg, iter, ifs, 0⟩] scope pos) (nD X.K (lcD (own.map (·.2)) it as tt el)) :=
  (pe_lc hc hN hi ok hg ht he hs).imp fun σ H Q h => lc_imp h
end
end PD
namespace PySem
open AutoSeq1
theorem list_extend_listW (l : Addr) (items : Array Value) (n : Nat) (b : Addr) (items2 : Array Value) (n2 : Nat) (dd : Option Addr) (sl : Array (Option Value)) (hc0 : ¬(!items.isEmpty && Builtin.List.listTooLong (items.size + items2.size)) = true) (hc1 : items.size ≤ sizeLine) (hs2 : items.size + items2.size ≤ sizeLine + 1) :
    Meets (Builtin.«list.extend» ⟨[.ref l, .ref b], []⟩) (fun _ R s => s.heap.get? l = some { cls := .type "list", dict := none, data := .seq items n, slots := #[] } ∧ s.heap.get? b = some { cls := .type "list", dict := dd, data := .seq items2 n2, slots := sl } ∧ R (.ok (.ret Value.none)) { s with heap := s.heap.update l (Obj.mapSeq fun x => x ++ items2), toks := s.toks }) :=
  .of_wp fun prog w A R s h => by
    obtain ⟨hp, g, d, tk, os⟩ := s; obtain ⟨hl, hb, h⟩ := h; have f1 := idx_int; have f2 := sub_tuple_tuple; have f3 := sub_list_list; have f4 := sub_tuple_list; have f5 := sub_list_tuple;
    have hz' : (items ++ items2).size ≤ sizeLine + 1 := by rw [Array.size_append]; exact hs2
    wp_walk using (wpAny_updateSeq hl rfl (hz := hc1) (_hz' := hz')), wpAny_loadPart' hl, wpAny_loadPart' hb; exact ⟨_, rfl, h⟩
theorem list_extend_tupleW (l : Addr) (items : Array Value) (n : Nat) (b : Addr) (items2 : Array Value) (n2 : Nat) (dd : Option Addr) (sl : Array (Option Value)) (hc0 : ¬(!items.isEmpty && Builtin.List.listTooLong (items.size + items2.size)) = true) (hc1 : items.size ≤ sizeLine) (hs2 : items.size + items2.size ≤ sizeLine + 1) :
    Meets (Builtin.«list.extend» ⟨[.ref l, .ref b], []⟩) (fun _ R s => s.heap.get? l = some { cls := .type "list", dict := none, data := .seq items n, slots := #[] } ∧ s.heap.get? b = some { cls := .type "tuple", dict := dd, data := .seq items2 n2, slots := sl } ∧ R (.ok (.ret Value.none)) { s with heap := s.heap.update l (Obj.mapSeq fun x => x ++ items2), toks := s.toks }) :=
  .of_wp fun prog w A R s h => by
    obtain ⟨hp, g, d, tk, os⟩ := s; obtain ⟨hl, hb, h⟩ := h; have f1 := idx_int; have f2 := sub_tuple_tuple; have f3 := sub_list_list; have f4 := sub_tuple_list; have f5 := sub_list_tuple;
    have hz' : (items ++ items2).size ≤ sizeLine + 1 := by rw [Array.size_append]; exact hs2
    wp_walk using (wpAny_updateSeq hl rfl (hz := hc1) (_hz' := hz')), wpAny_loadPart' hl, wpAny_loadPart' hb; exact ⟨_, rfl, h⟩
end PySem
namespace PD
open PySem PySem.Spec PyProof.Rows L2

inductive Out where
  | nx | bk | ct
  | rt (d : PyData)
  | rn (ds : List PyData)
abbrev MS := Rho → Option (Out × Rho)
/-- what is wanted at a statement's end -/
def PostO (K : PySem.W.Frag) (F : Fr) (G0 G : Hp) (ρ : Rho) (D : Ends) : Out → Prop
  | .nx => ∀ σ' G' H', Ext G G' → Rel K F G0 G' H' σ' ρ → D.nx σ' H'
  | .bk => ∀ σ' G' H', Ext G G' → Rel K F G0 G' H' σ' ρ → D.bk σ' H'
  | .ct => ∀ σ' G' H', Ext G G' → Rel K F G0 G' H' σ' ρ → D.ct σ' H'
  | .rt d => ∀ v σ' G' H', Ext G G' → Rel K F G0 G' H' σ' ρ → Rp K G' v d → D.rt v H'
  | .rn ds => ∀ a xs σ' G' H', Ext G G' → Rel K F G0 G' H' σ' ρ → H' a = some (.lst xs) → Loose F G' σ' ρ a → RpAll K G' xs ds → D.rt (.ref a) H'
def sD (K : PySem.W.Frag) (f : MS) : TS := fun D σ H => ∃ F G0 G ρ o ρ', Rel K F G0 G H σ ρ ∧ f ρ = some (o, ρ') ∧ PostO K F G0 G ρ' D o
theorem PostO.ext {K : PySem.W.Frag} {F : Fr} {G0 G G1 : Hp} {ρ : Rho} {D : Ends} {o : Out} (h : PostO K F G0 G ρ D o) (x : Ext G G1) : PostO K F G0 G1 ρ D o := by
  cases o with
  | nx => exact fun σ' G' H' x' => h σ' G' H' (x.trans x')
  | bk => exact fun σ' G' H' x' => h σ' G' H' (x.trans x')
  | ct => exact fun σ' G' H' x' => h σ' G' H' (x.trans x')
  | rt d => exact fun v σ' G' H' x' => h v σ' G' H' (x.trans x')
  | rn ds => exact fun a xs σ' G' H' x' => h a xs σ' G' H' (x.trans x')
/-- the same ends but for nx -/
theorem PostO.nx_irrel {K : PySem.W.Frag} {F : Fr} {G0 G : Hp} {ρ : Rho} {D D' : Ends} {o : Out} (h : PostO K F G0 G ρ D o) (ho : o ≠ .nx) (h1 : D'.bk = D.bk) (h2 : D'.ct = D.ct) (h3 : D'.rt = D.rt) : PostO K F G0 G ρ D' o := by
  cases o with
  | nx => exact absurd rfl ho
  | bk => unfold PostO; rw [h1]; exact h
  | ct => unfold PostO; rw [h2]; exact h
  | rt d => unfold PostO; rw [h3]; exact h
  | rn ds => unfold PostO; rw [h3]; exact h

section
variable {X : Cx}
/-! ### blocks -/
def sNil : MS := fun ρ => some (.nx, ρ)
def sSeq (f g : MS) : MS := fun ρ => (f ρ).bind fun p => match p.1 with
  | .nx => g p.2
  | o => some (o, p.2)
theorem dss_nil : PSs X [] (sD X.K sNil) := pss_nil.imp fun D σ H ⟨F, G0, G, ρ, o, ρ', R, hf, q⟩ => by
  cases hf; exact q σ G H (Ext.refl _) R
theorem dss_one {st : Stmt} {f : MS} (h : PS X st (sD X.K f)) : PSs X [st] (sD X.K f) := pss_one h
theorem seq_imp {K : PySem.W.Frag} {f g : MS} {D : Ends} {σ : St} {H : Hp} (h : sD K (sSeq f g) D σ H) : tSeq (sD K f) (sD K g) D σ H := by
  obtain ⟨F, G0, G, ρ, o, ρ', R, hf, q⟩ := h
  unfold sSeq at hf
  cases e1 : f ρ with
  | none => rw [e1] at hf; cases hf
  | some p =>
    rw [e1] at hf
    simp only [Option.bind_some] at hf
    split at hf
    · rename_i hp
      refine ⟨F, G0, G, ρ, p.1, p.2, R, e1, ?_⟩
      rw [hp]
      exact fun σ' G' H' x' R' => ⟨F, G0, G', p.2, o, ρ', R', hf, q.ext x'⟩
    · rename_i hp
      cases hf
      exact ⟨F, G0, G, ρ, p.1, p.2, R, e1, q.nx_irrel hp rfl rfl rfl⟩
theorem dss_cons {st : Stmt} {rest : List Stmt} {f g : MS} (h1 : PS X st (sD X.K f)) (h2 : PSs X rest (sD X.K g)) : PSs X (st :: rest) (sD X.K (sSeq f g)) := (pss_cons h1 h2).imp fun D σ H h => seq_imp h
/-- what is never reached -/
def sNever : MS := fun _ => none
theorem ds_never {st : Stmt} : PS X st (sD X.K sNever) := ⟨fun pins s σ H D I ⟨F, G0, G, ρ, o, ρ', R, hf, q⟩ => by cases hf⟩
theorem dss_never {sts : List Stmt} : PSs X sts (sD X.K sNever) := ⟨fun pins s σ H D I ⟨F, G0, G, ρ, o, ρ', R, hf, q⟩ => by cases hf⟩
theorem ds_pass {pos : Pos} : PS X (.Pass pos) (sD X.K sNil) := ps_pass.imp fun D σ H ⟨F, G0, G, ρ, o, ρ', R, hf, q⟩ => by
  cases hf; exact q σ G H (Ext.refl _) R
def sBrk : MS := fun ρ => some (.bk, ρ)
def sCnt : MS := fun ρ => some (.ct, ρ)
theorem ds_break {pos : Pos} : PS X (.Break pos) (sD X.K sBrk) := ps_break.imp fun D σ H ⟨F, G0, G, ρ, o, ρ', R, hf, q⟩ => by
  cases hf; exact q σ G H (Ext.refl _) R
theorem ds_continue {pos : Pos} : PS X (.Continue pos) (sD X.K sCnt) := ps_continue.imp fun D σ H ⟨F, G0, G, ρ, o, ρ', R, hf, q⟩ => by
  cases hf; exact q σ G H (Ext.refl _) R
/-- a name's list or dict is frozen ahead of a statement -/
def frzR (i : Nat) (ρ : Rho) : Rho := match ρ[i]? with
  | some (some e) => ρ.set i (some (.fr e.dat))
  | _ => ρ
def sFrz (i : Nat) (f : MS) : MS := fun ρ => f (frzR i ρ)
theorem frz_imp {K : PySem.W.Frag} {i : Nat} {f : MS} {D : Ends} {σ : St} {H : Hp} (h : sD K (sFrz i f) D σ H) : sD K f D σ H := by
  obtain ⟨F, G0, G, ρ, o, ρ', R, hf, q⟩ := h
  unfold sFrz frzR at hf
  split at hf
  · rename_i e he
    obtain ⟨G', x, R'⟩ := R.freeze he
    exact ⟨F, G0, G', _, o, ρ', R', hf, q.ext x⟩
  · exact ⟨F, G0, G, ρ, o, ρ', R, hf, q⟩
theorem ds_frz {st : Stmt} {f : MS} (i : Nat) (h : PS X st (sD X.K f)) : PS X st (sD X.K (sFrz i f)) := h.imp fun D σ H q => frz_imp q
theorem dss_frz {sts : List Stmt} {f : MS} (i : Nat) (h : PSs X sts (sD X.K f)) : PSs X sts (sD X.K (sFrz i f)) := h.imp fun D σ H q => frz_imp q

/-! ### assignments -/
def sSet (i : Nat) (f : M PyData) : MS := fun ρ => (f ρ).bind fun p => some (.nx, p.2.set i (some (.fr p.1)))
def sSetN (i : Nat) (f : M (List PyData)) : MS := fun ρ => (f ρ).bind fun p => some (.nx, p.2.set i (some (.ol p.1)))
def sSetK (i : Nat) (f : M (List (PyData × PyData))) : MS := fun ρ => (f ρ).bind fun p => some (.nx, p.2.set i (some (.ok p.1)))
def sSetT (i : Nat) (f : M (List (PyData × PyData))) : MS := fun ρ => (f ρ).bind fun p => some (.nx, p.2.set i (some (.ot p.1)))
theorem set_imp {K : PySem.W.Frag} {i : Nat} {f : M PyData} {D : Ends} {σ : St} {H : Hp} (h : sD K (sSet i f) D σ H) : tAsg (eD K f) (gName i) D σ H := by
  obtain ⟨F, G0, G, ρ, o, ρ', R, hf, q⟩ := h
  unfold sSet at hf
  cases e1 : f ρ with
  | none => rw [e1] at hf; cases hf
  | some p =>
    rw [e1] at hf
    cases hf
    exact ⟨F, G0, G, ρ, p.1, p.2, R, e1, fun v G1 H1 x1 R1 r1 => q _ G1 H1 x1 (R1.putF r1)⟩
theorem Rel.putO {K : PySem.W.Frag} {F : Fr} {G0 G H : Hp} {σ : St} {ρ : Rho} {i : Nat} {a : Addr} {e : EV} (R : Rel K F G0 G H σ ρ) (L : Loose F G σ ρ a) (o : OwnAt K G H a e) (hio : e.isIo = false := by rfl) : Rel K F G0 G H (σ.set i (some (.ref a))) (ρ.set i (some e)) :=
  R.put (holds_of_own o L.1 L.2.1 (fun q => by rw [hio] at q; cases q)) fun _ b hb j e' hj ho' => by cases hb; exact L.2.2 j e' hj ho'
theorem setN_imp {K : PySem.W.Frag} {i : Nat} {f : M (List PyData)} {D : Ends} {σ : St} {H : Hp} (h : sD K (sSetN i f) D σ H) : tAsg (nD K f) (gName i) D σ H := by
  obtain ⟨F, G0, G, ρ, o, ρ', R, hf, q⟩ := h
  unfold sSetN at hf
  cases e1 : f ρ with
  | none => rw [e1] at hf; cases hf
  | some p =>
    rw [e1] at hf
    cases hf
    exact ⟨F, G0, G, ρ, p.1, p.2, R, e1, fun a xs G1 H1 x1 R1 hH L r1 => q _ G1 H1 x1 (R1.putO (e := .ol p.1) L ⟨xs, hH, r1⟩)⟩
theorem setK_imp {K : PySem.W.Frag} {i : Nat} {f : M (List (PyData × PyData))} {D : Ends} {σ : St} {H : Hp} (h : sD K (sSetK i f) D σ H) : tAsg (ndK K f) (gName i) D σ H := by
  obtain ⟨F, G0, G, ρ, o, ρ', R, hf, q⟩ := h
  unfold sSetK at hf
  cases e1 : f ρ with
  | none => rw [e1] at hf; cases hf
  | some p =>
    rw [e1] at hf
    cases hf
    exact ⟨F, G0, G, ρ, p.1, p.2, R, e1, fun a xs G1 H1 x1 R1 hH L r1 => q _ G1 H1 x1 (R1.putO (e := .ok p.1) L ⟨xs, hH, r1⟩)⟩
theorem setT_imp {K : PySem.W.Frag} {i : Nat} {f : M (List (PyData × PyData))} {D : Ends} {σ : St} {H : Hp} (h : sD K (sSetT i f) D σ H) : tAsg (ndT K f) (gName i) D σ H := by
  obtain ⟨F, G0, G, ρ, o, ρ', R, hf, q⟩ := h
  unfold sSetT at hf
  cases e1 : f ρ with
  | none => rw [e1] at hf; cases hf
  | some p =>
    rw [e1] at hf
    cases hf
    exact ⟨F, G0, G, ρ, p.1, p.2, R, e1, fun a xs G1 H1 x1 R1 hH L r1 => q _ G1 H1 x1 (R1.putO (e := .ot p.1) L ⟨xs, hH, r1⟩)⟩
/-- x = e, by the hand layer's rule h of the assignment -/
theorem ds_set {st : Stmt} {i : Nat} {f : M PyData} (h : PS X st (tAsg (eD X.K f) (gName i))) : PS X st (sD X.K (sSet i f)) := h.imp fun D σ H q => set_imp q
theorem ds_setN {st : Stmt} {i : Nat} {f : M (List PyData)} (h : PS X st (tAsg (nD X.K f) (gName i))) : PS X st (sD X.K (sSetN i f)) := h.imp fun D σ H q => setN_imp q
theorem ds_setK {st : Stmt} {i : Nat} {f : M (List (PyData × PyData))} (h : PS X st (tAsg (ndK X.K f) (gName i))) : PS X st (sD X.K (sSetK i f)) := h.imp fun D σ H q => setK_imp q
theorem ds_setT {st : Stmt} {i : Nat} {f : M (List (PyData × PyData))} (h : PS X st (tAsg (ndT X.K f) (gName i))) : PS X st (sD X.K (sSetT i f)) := h.imp fun D σ H q => setT_imp q
theorem nd_mono {K : PySem.W.Frag} {i : Nat} {f : M (List PyData)} {D : Ends} {σ : St} {H : Hp} (h : sD K (sSet i (eN f)) D σ H) : tAsg (nD K f) (gName i) D σ H := by
  obtain ⟨F, G0, G, ρ, o, ρ', R, hf, q⟩ := h
  unfold sSet eN at hf
  cases e1 : f ρ with
  | none => rw [e1] at hf; cases hf
  | some p =>
    rw [e1] at hf
    cases hf
    refine ⟨F, G0, G, ρ, p.1, p.2, R, e1, fun a xs G1 H1 x1 R1 hH L r1 => ?_⟩
    exact q _ (upd G1 a (.lst xs)) H1 (x1.trans (Ext.upd L.1)) ((L.frozen R1 hH).putF (.lst (SqL.of upd_same) (RpAll.sub (Sub.upd L.1) _ _ r1)))
/-- x = e, e a new list, frozen at once (y = [..] on one line) -/
theorem ds_setF {st : Stmt} {i : Nat} {f : M (List PyData)} (h : PS X st (tAsg (nD X.K f) (gName i))) : PS X st (sD X.K (sSet i (eN f))) := h.imp fun D σ H q => nd_mono q
def sAsg (f : M PyData) (as : PyData → Rho → Option Rho) : MS := fun ρ => (f ρ).bind fun p => (as p.1 p.2).bind fun ρ2 => some (.nx, ρ2)
/-- a, b = e -/
theorem ds_asg {tg e : Expr} {pos : Pos} {f : M PyData} {as : PyData → Rho → Option Rho} (he : PE X e (eD X.K f)) (hg : PG X tg (gD X.K as)) (hs : swapsWithSole [tg] e pos.line X.env = pure false := by rfl) (hw : swappedStores [tg] e X.env = pure none := by rfl) (h1 : (assignEach [tg] X.env).map (·.2) = [assign tg X.env] := by rfl) : PS X (.Assign [tg] e pos) (sD X.K (sAsg f as)) :=
  (ps_asg he hg hs hw h1).imp fun D σ H ⟨F, G0, G, ρ, o, ρ', R, hf, q⟩ => by
    unfold sAsg at hf
    cases e1 : f ρ with
    | none => rw [e1] at hf; cases hf
    | some p =>
      rw [e1] at hf
      simp only [Option.bind_some] at hf
      cases e2 : as p.1 p.2 with
      | none => rw [e2] at hf; cases hf
      | some ρ2 =>
        rw [e2] at hf
        cases hf
        exact ⟨F, G0, G, ρ, p.1, p.2, R, e1, fun v G1 H1 x1 R1 r1 => ⟨F, G0, G1, p.2, p.1, ρ', R1, r1, e2, fun σ' G' H' x2 R2 => q σ' G' H' (x1.trans x2) R2⟩⟩

/-! ### return, expressions -/
def sRet (f : M PyData) : MS := fun ρ => (f ρ).bind fun p => some (.rt p.1, p.2)
def sRetN (f : M (List PyData)) : MS := fun ρ => (f ρ).bind fun p => some (.rn p.1, p.2)
theorem ds_ret {e : Expr} {pos : Pos} {f : M PyData} (he : PE X e (eD X.K f)) : PS X (.Return (some e) pos) (sD X.K (sRet f)) := (ps_ret he).imp fun D σ H ⟨F, G0, G, ρ, o, ρ', R, hf, q⟩ => by
  unfold sRet at hf
  cases e1 : f ρ with
  | none => rw [e1] at hf; cases hf
  | some p => rw [e1] at hf; cases hf; exact ⟨F, G0, G, ρ, p.1, p.2, R, e1, fun v G1 H1 x1 R1 r1 => q v σ G1 H1 x1 R1 r1⟩
theorem ds_retN {e : Expr} {pos : Pos} {f : M (List PyData)} (he : PE X e (nD X.K f)) : PS X (.Return (some e) pos) (sD X.K (sRetN f)) := (ps_ret he).imp fun D σ H ⟨F, G0, G, ρ, o, ρ', R, hf, q⟩ => by
  unfold sRetN at hf
  cases e1 : f ρ with
  | none => rw [e1] at hf; cases hf
  | some p => rw [e1] at hf; cases hf; exact ⟨F, G0, G, ρ, p.1, p.2, R, e1, fun a xs G1 H1 x1 R1 hH L r1 => q a xs σ G1 H1 x1 R1 hH L r1⟩
def sRet0 : MS := fun ρ => some (.rt .none, ρ)
theorem ds_ret0 {pos : Pos} : PS X (.Return none pos) (sD X.K sRet0) := ps_retN.imp fun D σ H ⟨F, G0, G, ρ, o, ρ', R, hf, q⟩ => by
  cases hf; exact q .non σ G H (Ext.refl _) R .non
def sExpr (f : M PyData) : MS := fun ρ => (f ρ).bind fun p => some (.nx, p.2)
theorem ds_expr {e : Expr} {pos : Pos} {f : M PyData} (he : PE X e (eD X.K f)) (hs : swapsWith e none pos.line X.env = pure false := by rfl) : PS X (.Expr e pos) (sD X.K (sExpr f)) := (ps_expr he hs).imp fun D σ H ⟨F, G0, G, ρ, o, ρ', R, hf, q⟩ => by
  unfold sExpr at hf
  cases e1 : f ρ with
  | none => rw [e1] at hf; cases hf
  | some p => rw [e1] at hf; cases hf; exact ⟨F, G0, G, ρ, p.1, p.2, R, e1, fun v G1 H1 x1 R1 r1 => q σ G1 H1 x1 R1⟩

/-! ### a name's own list is changed -/
def ownL (ρ : Rho) (i : Nat) : Option (List PyData) := match ρ[i]? with
  | some (some (.ol ds)) => some ds
  | some (some (.io ds)) => some ds
  | _ => none
/-- .. is now ds -/
def setL (ρ : Rho) (i : Nat) (ds : List PyData) : Rho := match ρ[i]? with
  | some (some (.io _)) => ρ.set i (some (.io ds))
  | _ => ρ.set i (some (.ol ds))
theorem Rel.writeL {K : PySem.W.Frag} {F : Fr} {G0 G H : Hp} {σ : St} {ρ : Rho} (R : Rel K F G0 G H σ ρ) {i : Nat} {ds es : List PyData} {a : Addr} {ys : List V} (h : ownL ρ i = some ds) (hs : σ[i]? = some (some (.ref a))) (hy : RpAll K G ys es) : Rel K F G0 G (upd H a (.lst ys)) σ (setL ρ i es) := by
  unfold ownL at h
  unfold setL
  split at h
  · rename_i ds' he
    rw [he]
    exact R.write he rfl hs ⟨ys, upd_same, hy⟩
  · rename_i ds' he
    rw [he]
    exact R.write he rfl hs ⟨ys, upd_same, hy⟩
  · cases h
theorem ownL_at {K : PySem.W.Frag} {F : Fr} {G0 G H : Hp} {σ : St} {ρ : Rho} (R : Rel K F G0 G H σ ρ) {i : Nat} {ds : List PyData} (h : ownL ρ i = some ds) : ∃ a xs, σ[i]? = some (some (.ref a)) ∧ H a = some (.lst xs) ∧ RpAll K G xs ds ∧ G a = none ∧ F a = none := by
  unfold ownL at h
  split at h
  · rename_i ds' he
    cases h
    obtain ⟨v, hv, hh⟩ := R.at_ i _ he
    obtain ⟨a, rfl, ⟨xs, h1, h2⟩, ga, fa, _⟩ := hh
    exact ⟨a, xs, hv, h1, h2, ga, fa⟩
  · rename_i ds' he
    cases h
    obtain ⟨v, hv, hh⟩ := R.at_ i _ he
    obtain ⟨a, rfl, ⟨xs, h1, h2⟩, ga, fa, _⟩ := hh
    exact ⟨a, xs, hv, h1, h2, ga, fa⟩
  · cases h
/-- a method that changes a name's own list: k tells the answer and what is left -/
def eOwn (i : Nat) (f : M (List PyData)) (k : List PyData → List PyData → Option (PyData × List PyData)) : M PyData := fun ρ => (ownL ρ i).bind fun _ => (f ρ).bind fun p => (ownL p.2 i).bind fun ds => (k ds p.1).bind fun r => some (r.1, setL p.2 i r.2)
theorem eOwn_some {i : Nat} {f : M (List PyData)} {k : List PyData → List PyData → Option (PyData × List PyData)} {ρ ρ' : Rho} {d : PyData} (h : eOwn i f k ρ = some (d, ρ')) :
    ∃ ds0 as ρ1 ds es, ownL ρ i = some ds0 ∧ f ρ = some (as, ρ1) ∧ ownL ρ1 i = some ds ∧ k ds as = some (d, es) ∧ ρ' = setL ρ1 i es := by
  unfold eOwn at h
  cases e0 : ownL ρ i with
  | none => rw [e0] at h; cases h
  | some ds0 =>
    rw [e0] at h
    simp only [Option.bind_some] at h
    cases e1 : f ρ with
    | none => rw [e1] at h; cases h
    | some p =>
      rw [e1] at h
      simp only [Option.bind_some] at h
      cases e2 : ownL p.2 i with
      | none => rw [e2] at h; cases h
      | some ds =>
        rw [e2] at h
        simp only [Option.bind_some] at h
        cases e3 : k ds p.1 with
        | none => rw [e3] at h; cases h
        | some r => rw [e3] at h; cases h; exact ⟨ds0, p.1, p.2, ds, r.2, rfl, rfl, e2, e3, rfl⟩
/-- what such a method asks -/
def MethOk (K : PySem.W.Frag) (r : V → List V → Hp → VK → Prop) (k : List PyData → List PyData → Option (PyData × List PyData)) : Prop :=
  ∀ F G0 G H σ ρ a xs vs ds as d es Q, Rel K F G0 G H σ ρ → H a = some (.lst xs) → RpAll K G xs ds → RpAll K G vs as → k ds as = some (d, es) →
    (∀ v ys, RpAll K G ys es → Rp K G v d → Q v (upd H a (.lst ys))) → r (.ref a) vs H Q
theorem own_imp {K : PySem.W.Frag} {i : Nat} {f : M (List PyData)} {k : List PyData → List PyData → Option (PyData × List PyData)} {r : V → List V → Hp → VK → Prop} (hr : MethOk K r k) {σ : St} {H : Hp} {Q : VK} (h : eD K (eOwn i f k) σ H Q) : tBM K "list" r (tVar i) (aD K f) σ H Q := by
  obtain ⟨F, G0, G, ρ, d, ρ', R, hf, q⟩ := h
  obtain ⟨ds0, as, ρ1, ds, es, e0, e1, e2, e3, rfl⟩ := eOwn_some hf
  obtain ⟨a, xs0, hs, hH, _⟩ := ownL_at R e0
  refine ⟨.ref a, hs, .inl ⟨rfl, _, SqL.of hH⟩, F, G0, G, ρ, as, ρ1, R, e1, fun vs G1 H1 x1 R1 r1 => ?_⟩
  obtain ⟨a', xs, hs', hH', hx, _⟩ := ownL_at R1 e2
  rw [hs] at hs'; cases hs'
  exact hr F G0 G1 H1 σ ρ1 a xs vs ds as d es Q R1 hH' hx r1 e3 fun v ys hy hv => q v G1 _ x1 (R1.writeL e2 hs hy) hv
/-- x.m(e, ..), x's own list -/
theorem de_own {o e : Expr} {es : List Expr} {name : Str} {id : String} {p pos : Pos} {i : Nat} {f : M (List PyData)} {r : V → List V → Hp → VK → Prop} {k : List PyData → List PyData → Option (PyData × List PyData)} (hk : MethOk X.K r k)
    (h : PE X (.Call (.Attribute o name p) (e :: es) [] pos) (tBM X.K "list" r (tVar i) (aD X.K f))) : PE X (.Call (.Attribute o name p) (e :: es) [] pos) (eD X.K (eOwn i f k)) := h.imp fun σ H Q q => own_imp hk q
theorem de_own0 {o : Expr} {name : Str} {p pos : Pos} {i : Nat} {r : V → List V → Hp → VK → Prop} {k : List PyData → List PyData → Option (PyData × List PyData)} (hk : MethOk X.K r k)
    (h : PE X (.Call (.Attribute o name p) [] [] pos) (tBM0 X.K "list" r (tVar i))) : PE X (.Call (.Attribute o name p) [] [] pos) (eD X.K (eOwn i aNil k)) := h.imp fun σ H Q ⟨F, G0, G, ρ, d, ρ', R, hf, q⟩ => by
  obtain ⟨ds0, as, ρ1, ds, es, e0, e1, e2, e3, rfl⟩ := eOwn_some hf
  cases e1
  obtain ⟨a, xs, hs, hH, hx, _⟩ := ownL_at R e2
  exact ⟨.ref a, hs, .inl ⟨rfl, _, SqL.of hH⟩, hk F G0 G H σ ρ a xs [] ds [] d es Q R hH hx .nil e3 fun v ys hy hv => q v G _ (Ext.refl _) (R.writeL e2 hs hy) hv⟩
def kAppend (ds as : List PyData) : Option (PyData × List PyData) := match as with
  | [d] => if ds.length < sizeLine then some (.none, ds ++ [d]) else none
  | _ => none
theorem mo_append {K : PySem.W.Frag} : MethOk K rAppend kAppend := fun F G0 G H σ ρ a xs vs ds as d es Q R hH hx hv e q => by
  unfold kAppend at e
  split at e
  · split at e
    · rename_i hl
      cases e
      cases hv with
      | cons h1 h2 => cases h2; exact ⟨a, xs, _, rfl, rfl, hH, by rw [hx.length]; exact hl, q .non _ (hx.append (.cons h1 .nil)) .non⟩
    · cases e
  · cases e
def kPop (ds as : List PyData) : Option (PyData × List PyData) := match as with
  | [] => (ds[ds.length - 1]?).bind fun d => some (d, ds.dropLast)
  | _ => none
theorem RpAll.dropLast {K : PySem.W.Frag} {G : Hp} {vs : List V} {ds : List PyData} (h : RpAll K G vs ds) : RpAll K G vs.dropLast ds.dropLast := by
  rw [List.dropLast_eq_take, List.dropLast_eq_take, h.length]
  exact h.take _
theorem mo_pop {K : PySem.W.Frag} : MethOk K rPop kPop := fun F G0 G H σ ρ a xs vs ds as d es Q R hH hx hv e q => by
  unfold kPop at e
  split at e
  · cases e1 : ds[ds.length - 1]? with
    | none => rw [e1] at e; cases e
    | some d' =>
      rw [e1] at e; cases e
      cases hv
      obtain ⟨v, hv, rv⟩ := hx.get e1
      exact ⟨a, xs, v, rfl, rfl, hH, by rw [hx.length]; exact hv, q v _ hx.dropLast rv⟩
  · cases e
def kPopAt (ds as : List PyData) : Option (PyData × List PyData) := match as with
  | [.int i] => if -(2 ^ 63) ≤ i ∧ i < 2 ^ 63 then (seqIndex? i ds.length).bind fun k => (ds[k]?).bind fun d => some (d, ds.eraseIdx k) else none
  | _ => none
theorem mo_popAt {K : PySem.W.Frag} : MethOk K rPopAt kPopAt := fun F G0 G H σ ρ a xs vs ds as d es Q R hH hx hv e q => by
  unfold kPopAt at e
  split at e
  · split at e
    · rename_i hb
      rename_i i
      cases e1 : seqIndex? i ds.length with
      | none => rw [e1] at e; cases e
      | some k =>
        rw [e1] at e
        simp only [Option.bind_some] at e
        cases e2 : ds[k]? with
        | none => rw [e2] at e; cases e
        | some d' =>
          rw [e2] at e; cases e
          obtain ⟨v, hv', rv⟩ := hx.get e2
          exact ⟨a, xs, i, k, v, rfl, hv.one, hH, hb.1, hb.2, by rw [hx.length]; exact e1, hv', q v _ (hx.eraseIdx k) rv⟩
    · cases e
  · cases e
def rExtendD (K : PySem.W.Frag) : V → List V → Hp → VK → Prop := fun x vs H Q => ∃ l b xs zs, x = .ref l ∧ vs = [.ref b] ∧ H l = some (.lst xs) ∧ (SqL K H b zs ∨ SqT K H b zs) ∧ xs.length + zs.length ≤ sizeLine ∧ Q .non (upd H l (.lst (xs ++ zs)))
theorem mt_extendD : MtM X "list.extend" (rExtendD X.K) := by
  intro pins s σ H x vs v us Q I rx rv h
  obtain ⟨l, b, xs, zs, rfl, rfl, hH, hB, hz, q⟩ := h
  cases rx
  obtain ⟨u, rfl, ru⟩ := rv.one
  cases ru
  obtain ⟨z, its, n, r, hl, e⟩ := I.lstM hH
  rcases hB with hB | hB
  · obtain ⟨its2, r2, ⟨⟨cls, dd, data, sl⟩, n2, ho, hc, hdn, hd⟩, z2⟩ := I.list hB
    simp only at hc hd hdn
    subst hc hd hdn
    have hl2 := r2.length
    have hsz : its.toArray.size + its2.toArray.size ≤ sizeLine := by rw [List.size_toArray, List.size_toArray]; omega
    have hlong : ¬ (!its.toArray.isEmpty && Builtin.List.listTooLong (its.toArray.size + its2.toArray.size)) = true := by
      rw [notLongL hsz, Bool.and_false]
      exact Bool.false_ne_true
    refine call_meets F.slot_list_extend ⟨_, e, rfl⟩ F.entry_list_extend (F.args_list_extend_2 _ _)
      (list_extend_listW l its.toArray n b its2.toArray n2 none sl hlong (by rw [List.size_toArray]; omega) (by omega)) ⟨e, ho, ?_⟩
    refine ⟨.non, _, I.lset (its' := its ++ its2) hH e (by simp) (r.append r2) ?_, rfl, q⟩
    rw [List.length_append]
    omega
  · obtain ⟨its2, r2, ⟨⟨cls, dd, data, sl⟩, ho, hc, n2, hd⟩, z2⟩ := I.tuple hB
    simp only at hc hd
    subst hc hd
    have hl2 := r2.length
    have hsz : its.toArray.size + its2.toArray.size ≤ sizeLine := by rw [List.size_toArray, List.size_toArray]; omega
    have hlong : ¬ (!its.toArray.isEmpty && Builtin.List.listTooLong (its.toArray.size + its2.toArray.size)) = true := by
      rw [notLongL hsz, Bool.and_false]
      exact Bool.false_ne_true
    refine call_meets F.slot_list_extend ⟨_, e, rfl⟩ F.entry_list_extend (F.args_list_extend_2 _ _)
      (list_extend_tupleW l its.toArray n b its2.toArray n2 dd sl hlong (by rw [List.size_toArray]; omega) (by omega)) ⟨e, ho, ?_⟩
    refine ⟨.non, _, I.lset (its' := its ++ its2) hH e (by simp) (r.append r2) ?_, rfl, q⟩
    rw [List.length_append]
    omega
def kExtend (ds as : List PyData) : Option (PyData × List PyData) := match as with
  | [.list es] => if ds.length + es.length ≤ sizeLine then some (.none, ds ++ es) else none
  | [.tuple es] => if ds.length + es.length ≤ sizeLine then some (.none, ds ++ es) else none
  | _ => none
theorem own_extend {i : Nat} {f : M (List PyData)} {σ : St} {H : Hp} {Q : VK} {K : PySem.W.Frag} (h : eD K (eOwn i f kExtend) σ H Q) : tBM K "list" (rExtendD K) (tVar i) (aD K f) σ H Q := by
  obtain ⟨F, G0, G, ρ, d, ρ', R, hf, q⟩ := h
  obtain ⟨ds0, as, ρ1, ds, es, e0, e1, e2, e3, rfl⟩ := eOwn_some hf
  obtain ⟨a, xs0, hs, hH, _⟩ := ownL_at R e0
  refine ⟨.ref a, hs, .inl ⟨rfl, _, SqL.of hH⟩, F, G0, G, ρ, as, ρ1, R, e1, fun vs G1 H1 x1 R1 r1 => ?_⟩
  obtain ⟨a', xs, hs', hH', hx, _⟩ := ownL_at R1 e2
  rw [hs] at hs'; cases hs'
  unfold kExtend at e3
  split at e3
  · split at e3
    · rename_i hl
      cases e3
      cases r1 with
      | cons h1 h2 =>
        cases h2
        cases h1 with
        | @lst b zs _ g1 g2 =>
          exact ⟨a, b, xs, zs, rfl, rfl, hH', .inl (SqL.sub R1.sub g1), by rw [hx.length, g2.length]; exact hl, q .non G1 _ x1 (R1.writeL e2 hs (hx.append g2)) .non⟩
    · cases e3
  · split at e3
    · rename_i hl
      cases e3
      cases r1 with
      | cons h1 h2 =>
        cases h2
        cases h1 with
        | @tup b zs _ g1 g2 =>
          exact ⟨a, b, xs, zs, rfl, rfl, hH', .inr (SqT.sub R1.sub g1), by rw [hx.length, g2.length]; exact hl, q .non G1 _ x1 (R1.writeL e2 hs (hx.append g2)) .non⟩
    · cases e3
  · cases e3
end
end PD
namespace PD
open PySem PySem.Spec PyProof.Rows L2
section
variable {X : Cx}
theorem de_extend {o e : Expr} {name : Str} {p pos : Pos} {i : Nat} {f : M (List PyData)}
    (h : PE X (.Call (.Attribute o name p) [e] [] pos) (tBM X.K "list" (rExtendD X.K) (tVar i) (aD X.K f))) : PE X (.Call (.Attribute o name p) [e] [] pos) (eD X.K (eOwn i f kExtend)) := h.imp fun σ H Q q => own_extend q

/-! ### if, for, while -/
def sIf (c : M Bool) (f g : MS) : MS := fun ρ => (c ρ).bind fun p => if p.1 then f p.2 else g p.2
theorem ds_if {c : Expr} {a b : List Stmt} {pos : Pos} {h : M Bool} {f g : MS} (hc : PT X c (bD X.K h)) (ha : PSs X a (sD X.K f)) (hb : PSs X b (sD X.K g)) : PS X (.If c a b pos) (sD X.K (sIf h f g)) :=
  (ps_if hc ha hb).imp fun D σ H ⟨F, G0, G, ρ, o, ρ', R, hf, q⟩ => by
    unfold sIf at hf
    cases e1 : h ρ with
    | none => rw [e1] at hf; cases hf
    | some p =>
      rw [e1] at hf
      simp only [Option.bind_some] at hf
      refine ⟨F, G0, G, ρ, p.1, p.2, R, e1, fun G1 H1 x1 R1 => ?_⟩
      cases hp : p.1 with
      | true => rw [hp] at hf; rw [if_pos rfl]; exact ⟨F, G0, G1, p.2, o, ρ', R1, by simpa using hf, q.ext x1⟩
      | false => rw [hp] at hf; rw [if_neg Bool.false_ne_true]; exact ⟨F, G0, G1, p.2, o, ρ', R1, by simpa using hf, q.ext x1⟩
def forGo (as : PyData → Rho → Option Rho) (body : MS) : List PyData → MS
  | [], ρ => some (.nx, ρ)
  | d :: ds, ρ => (as d ρ).bind fun ρ1 => (body ρ1).bind fun q => match q.1 with
    | .nx => forGo as body ds q.2
    | .ct => forGo as body ds q.2
    | .bk => some (.nx, q.2)
    | o => some (o, q.2)
def sFor (it : M (List PyData)) (as : PyData → Rho → Option Rho) (body : MS) : MS := fun ρ => (it ρ).bind fun p => forGo as body p.1 p.2
theorem for_imp {K : PySem.W.Frag} {it : M (List PyData)} {as : PyData → Rho → Option Rho} {body : MS} {D : Ends} {σ : St} {H : Hp} (h : sD K (sFor it as body) D σ H) : tFor (iD K it) (gD K as) (sD K body) D σ H := by
  obtain ⟨F, G0, G, ρ, o, ρ', R, hf, q⟩ := h
  unfold sFor at hf
  cases e1 : it ρ with
  | none => rw [e1] at hf; cases hf
  | some p =>
    rw [e1] at hf
    simp only [Option.bind_some] at hf
    refine ⟨F, G0, G, ρ, p.1, p.2, R, e1, fun J G1 H1 x1 R1 ok => ?_⟩
    refine ⟨fun i m σ H => m = p.1.length - i ∧ i ≤ p.1.length ∧ ∃ G2 ρ2, Ext G1 G2 ∧ Rel K F G0 G2 H σ ρ2 ∧ forGo as body (p.1.drop i) ρ2 = some (o, ρ'), ⟨p.1.length, by simp, Nat.zero_le _, G1, p.2, Ext.refl _, R1, by simpa using hf⟩, ?_⟩
    rintro i m σ2 H2 ⟨rfl, hi, G2, ρ2, x2, R2, hgo⟩
    obtain ⟨hstop, hgo'⟩ := ok _ _ _ _ _ _ i x2 R2
    by_cases hlt : i < p.1.length
    · have hd : p.1[i]? = some p.1[i] := List.getElem?_eq_getElem hlt
      obtain ⟨jg, jy⟩ := hgo' _ hd
      rw [List.drop_eq_getElem_cons hlt] at hgo
      unfold forGo at hgo
      refine .inr ⟨jg, fun σ' H' => ∃ G3 ρ3, Ext G1 G3 ∧ Rel K F G0 G3 H' σ' ρ3 ∧ forGo as body (p.1.drop (i + 1)) ρ3 = some (o, ρ'), fun σ' H' hN => ⟨p.1.length - (i + 1), by omega, rfl, hlt, hN⟩, fun x H3 y => ?_⟩
      obtain ⟨G3, x3, R3, rx⟩ := jy x H3 y
      cases f1 : as p.1[i] ρ2 with
      | none => rw [f1] at hgo; cases hgo
      | some ρ3 =>
        rw [f1] at hgo
        simp only [Option.bind_some] at hgo
        refine ⟨F, G0, G3, ρ2, p.1[i], ρ3, R3, rx, f1, fun σ4 G4 H4 x4 R4 => ?_⟩
        cases f2 : body ρ3 with
        | none => rw [f2] at hgo; cases hgo
        | some r =>
          rw [f2] at hgo
          simp only [Option.bind_some] at hgo
          refine ⟨F, G0, G4, ρ3, r.1, r.2, R4, f2, ?_⟩
          have xx : Ext G G4 := x1.trans (x2.trans (x3.trans x4))
          cases hr : r.1 with
          | nx => rw [hr] at hgo; exact fun σ' G' H' x5 R5 => ⟨G', r.2, x2.trans (x3.trans (x4.trans x5)), R5, hgo⟩
          | ct => rw [hr] at hgo; exact fun σ' G' H' x5 R5 => ⟨G', r.2, x2.trans (x3.trans (x4.trans x5)), R5, hgo⟩
          | bk => rw [hr] at hgo; cases hgo; exact fun σ' G' H' x5 R5 => q σ' G' H' (xx.trans x5) R5
          | rt d => rw [hr] at hgo; cases hgo; exact fun v σ' G' H' x5 R5 rv => q v σ' G' H' (xx.trans x5) R5 rv
          | rn d => rw [hr] at hgo; cases hgo; exact fun a xs σ' G' H' x5 R5 hH L rv => q a xs σ' G' H' (xx.trans x5) R5 hH L rv
    · have hi' : i = p.1.length := by omega
      refine .inl ⟨hstop hi', ?_⟩
      rw [hi', List.drop_length] at hgo
      cases hgo
      exact q σ2 G2 H2 (x1.trans x2) R2
theorem ds_for {tg iter : Expr} {body : List Stmt} {pos : Pos} {it : M (List PyData)} {as : PyData → Rho → Option Rho} {b : MS} (h : PS X (.For tg iter body [] pos) (tFor (iD X.K it) (gD X.K as) (sD X.K b))) : PS X (.For tg iter body [] pos) (sD X.K (sFor it as b)) := h.imp fun D σ H q => for_imp q
def whileGo (c : M Bool) (body : MS) : Nat → MS
  | 0, _ => none
  | n + 1, ρ => (c ρ).bind fun p => if p.1 then (body p.2).bind fun q => match q.1 with
      | .nx => whileGo c body n q.2
      | .ct => whileGo c body n q.2
      | .bk => some (.nx, q.2)
      | o => some (o, q.2)
    else some (.nx, p.2)
/-- fuel: more than the turns -/
def sWhile (n : Nat) (c : M Bool) (body : MS) : MS := whileGo c body n
theorem while_imp {K : PySem.W.Frag} {n : Nat} {c : M Bool} {body : MS} {D : Ends} {σ : St} {H : Hp} (h : sD K (sWhile n c body) D σ H) : tWhile (bD K c) (sD K body) D σ H := by
  obtain ⟨F, G0, G, ρ, o, ρ', R, hf, q⟩ := h
  refine ⟨fun m σ H => ∃ G2 ρ2, Ext G G2 ∧ Rel K F G0 G2 H σ ρ2 ∧ whileGo c body m ρ2 = some (o, ρ'), ⟨n, G, ρ, Ext.refl _, R, hf⟩, ?_⟩
  rintro m σ2 H2 ⟨G2, ρ2, x2, R2, hgo⟩
  cases m with
  | zero => cases hgo
  | succ m =>
    unfold whileGo at hgo
    cases f1 : c ρ2 with
    | none => rw [f1] at hgo; cases hgo
    | some p =>
      rw [f1] at hgo
      simp only [Option.bind_some] at hgo
      refine ⟨F, G0, G2, ρ2, p.1, p.2, R2, f1, fun G3 H3 x3 R3 => ?_⟩
      cases hp : p.1 with
      | false =>
        rw [hp, if_neg Bool.false_ne_true] at hgo
        rw [if_neg Bool.false_ne_true]
        cases hgo
        exact q σ2 G3 H3 (x2.trans x3) R3
      | true =>
        rw [hp, if_pos rfl] at hgo
        rw [if_pos rfl]
        cases f2 : body p.2 with
        | none => rw [f2] at hgo; cases hgo
        | some r =>
          rw [f2] at hgo
          simp only [Option.bind_some] at hgo
          refine ⟨fun σ' H' => ∃ G4 ρ4, Ext G G4 ∧ Rel K F G0 G4 H' σ' ρ4 ∧ whileGo c body m ρ4 = some (o, ρ'), fun σ' H' hN => ⟨m, Nat.lt_succ_self _, hN⟩, F, G0, G3, p.2, r.1, r.2, R3, f2, ?_⟩
          cases hr : r.1 with
          | nx => rw [hr] at hgo; exact fun σ' G' H' x5 R5 => ⟨G', r.2, x2.trans (x3.trans x5), R5, hgo⟩
          | ct => rw [hr] at hgo; exact fun σ' G' H' x5 R5 => ⟨G', r.2, x2.trans (x3.trans x5), R5, hgo⟩
          | bk => rw [hr] at hgo; cases hgo; exact fun σ' G' H' x5 R5 => q σ' G' H' (x2.trans (x3.trans x5)) R5
          | rt d => rw [hr] at hgo; cases hgo; exact fun v σ' G' H' x5 R5 rv => q v σ' G' H' (x2.trans (x3.trans x5)) R5 rv
          | rn d => rw [hr] at hgo; cases hgo; exact fun a xs σ' G' H' x5 R5 hH L rv => q a xs σ' G' H' (x2.trans (x3.trans x5)) R5 hH L rv
theorem ds_while (n : Nat) {c : Expr} {body : List Stmt} {pos : Pos} {g : M Bool} {b : MS} (h : PS X (.While c body [] pos) (tWhile (bD X.K g) (sD X.K b))) : PS X (.While c body [] pos) (sD X.K (sWhile n g b)) := h.imp fun D σ H q => while_imp q

/-! ### x[i] = e, x's own list -/
def sSetIx (i : Nat) (f g : M PyData) : MS := fun ρ => (f ρ).bind fun p => (ownL p.2 i).bind fun _ => (g p.2).bind fun q => (ownL q.2 i).bind fun ds => match q.1 with
  | .int k => (ixN ds.length k).bind fun j => some (.nx, setL q.2 i (ds.set j p.1))
  | _ => none
theorem ds_setIx {o ix e : Expr} {pos pos' : Pos} {i : Nat} {f g : M PyData} (h : PS X (.Assign [.Subscript o ix pos'] e pos) (tAsg (eD X.K f) (gSub (tVar i) (eD X.K g) rSetL))) : PS X (.Assign [.Subscript o ix pos'] e pos) (sD X.K (sSetIx i f g)) :=
  h.imp fun D σ H ⟨F, G0, G, ρ, o, ρ', R, hf, q⟩ => by
    unfold sSetIx at hf
    cases e1 : f ρ with
    | none => rw [e1] at hf; cases hf
    | some p =>
      rw [e1] at hf
      simp only [Option.bind_some] at hf
      cases e2 : ownL p.2 i with
      | none => rw [e2] at hf; cases hf
      | some ds0 =>
        rw [e2] at hf
        simp only [Option.bind_some] at hf
        cases e3 : g p.2 with
        | none => rw [e3] at hf; cases hf
        | some r =>
          rw [e3] at hf
          simp only [Option.bind_some] at hf
          cases e4 : ownL r.2 i with
          | none => rw [e4] at hf; cases hf
          | some ds =>
            rw [e4] at hf
            simp only [Option.bind_some] at hf
            split at hf
            · rename_i k hk
              cases e5 : ixN ds.length k with
              | none => rw [e5] at hf; cases hf
              | some j =>
                rw [e5] at hf; cases hf
                refine ⟨F, G0, G, ρ, p.1, p.2, R, e1, fun v G1 H1 x1 R1 r1 => ?_⟩
                obtain ⟨a, xs0, hs, _, _⟩ := ownL_at R1 e2
                refine ⟨.ref a, hs, F, G0, G1, p.2, r.1, r.2, R1, e3, fun u G2 H2 x2 R2 r2 => ?_⟩
                obtain ⟨a', xs, hs', hH, hx, _⟩ := ownL_at R2 e4
                rw [hs] at hs'; cases hs'
                rw [hk] at r2
                cases r2
                exact ⟨a, xs, k, j, rfl, rfl, hH, by rw [hx.length]; exact e5, q _ G2 _ (x1.trans x2) (R2.writeL e4 hs (hx.set j (Rp.sub x2.sub _ _ r1)))⟩
            · cases hf

/-! ### what a def promises -/
/-- the answer is f of the arguments' data; nothing that stood is changed -/
def spD (K : PySem.W.Frag) (n : Nat) (f : List PyData → Option PyData) : Sp := fun vs H Q _ => ∃ G0 ds d, ds.length = n ∧ RpAll K G0 vs ds ∧ Sub G0 H ∧ f ds = some d ∧ ∀ v G' H', (∀ b o, H b = some o → H' b = some o) → Ext G0 G' → (∀ b o, G' b = some o → G0 b = some o ∨ H b = none) → Sub G' H' → Rp K G' v d → Q v H'
/-- the answer is a new list -/
def spN (K : PySem.W.Frag) (n : Nat) (f : List PyData → Option (List PyData)) : Sp := fun vs H Q _ => ∃ G0 ds zs, ds.length = n ∧ RpAll K G0 vs ds ∧ Sub G0 H ∧ f ds = some zs ∧ ∀ a xs G' H', (∀ b o, H b = some o → H' b = some o) → Ext G0 G' → (∀ b o, G' b = some o → G0 b = some o ∨ H b = none) → Sub G' H' → H' a = some (.lst xs) → G' a = none → H a = none → RpAll K G' xs zs → Q (.ref a) H'
/-- the first argument is a list that is changed -/
def spP (K : PySem.W.Frag) (n : Nat) (f : List PyData → List PyData → Option (PyData × List PyData)) : Sp := fun vs H Q _ => ∃ G0 p rest xs ps ds d ps', vs = .ref p :: rest ∧ ds.length = n ∧ H p = some (.lst xs) ∧ G0 p = none ∧ RpAll K G0 xs ps ∧ RpAll K G0 rest ds ∧ Sub G0 H ∧ f ps ds = some (d, ps') ∧
  ∀ v G' H' xs', (∀ b o, b ≠ p → H b = some o → H' b = some o) → Ext G0 G' → (∀ b o, G' b = some o → G0 b = some o ∨ H b = none ∨ b = p) → G' p = none → Sub G' H' → H' p = some (.lst xs') → RpAll K G' xs' ps' → Rp K G' v d → Q v H'

def rho0 (n : Nat) (ds : List PyData) : Rho := ds.map (fun d => some (.fr d)) ++ List.replicate (n - ds.length) none
def endOf : Out × Rho → Option PyData
  | (.nx, _) => some .none
  | (.rt d, _) => some d
  | (.rn ds, _) => some (.list ds)
  | _ => none
def runD (np n : Nat) (body : MS) (ds : List PyData) : Option PyData := if ds.length = np then (body (rho0 n ds)).bind endOf else none
theorem runD_len {np n : Nat} {body : MS} {ds : List PyData} {d : PyData} (h : runD np n body ds = some d) : ds.length = np := by
  unfold runD at h
  split at h
  · assumption
  · cases h
theorem rel_start {K : PySem.W.Frag} {G0 H : Hp} {vs : List V} {ds : List PyData} {n : Nat} {N : List Str} (hN : N.length = n) (h : RpAll K G0 vs ds) (s : Sub G0 H) : Rel K ⟨H, 0⟩ G0 G0 H (L2.start N vs) (rho0 n ds) where
  keep := fun _ _ h => h
  g0 := fun _ _ h => h
  gn := fun _ _ h => .inl h
  sub := s
  len := by simp only [L2.start, rho0, List.length_append, List.length_map, List.length_replicate, h.length, hN]
  at_ := fun i e he => by
    unfold rho0 at he
    by_cases hi : i < ds.length
    · rw [List.getElem?_append_left (by simpa using hi), List.getElem?_map] at he
      cases e1 : ds[i]? with
      | none => rw [e1] at he; cases he
      | some d =>
        rw [e1] at he; cases he
        obtain ⟨v, hv, rv⟩ := h.get e1
        refine ⟨v, ?_, rv⟩
        unfold L2.start
        rw [List.getElem?_append_left (by rw [List.length_map, h.length]; exact hi), List.getElem?_map, hv]
        rfl
    · rw [List.getElem?_append_right (by simpa using hi), List.getElem?_replicate] at he
      split at he <;> simp at he
  inj := fun i j e e' a h1 h2 o1 => by
    exfalso
    unfold rho0 at h1
    by_cases hi : i < ds.length
    · rw [List.getElem?_append_left (by simpa using hi), List.getElem?_map] at h1
      cases e1 : ds[i]? with
      | none => rw [e1] at h1; cases h1
      | some d => rw [e1] at h1; cases h1; cases o1
    · rw [List.getElem?_append_right (by simpa using hi), List.getElem?_replicate] at h1
      split at h1 <;> simp at h1
section
variable {P : Program} {w : World} {K : PySem.W.Frag} {mg : Str → Option Value} {base : Heap}
/-- THE RULE for a def: its body over data -/
theorem fn_pure {x qual : Str} {st : Stmt} {f : Addr} {fd : FuncData} {N ps : List Str} {k : Nat} {body : MS} (F : Fun K x qual st f fd) (S : FnScope N ps (defScope st))
    (hbody : ∀ (cdv : Value) (A : Around) (outer : List Env) (s : Shared) (H : Hp) (E : XK), Room k (A.deeper (envOfC qual (defScope st) s.heap.objs.size f cdv)) →
      PSs (cxOf CX0 P w K mg base N qual (defScope st) f cdv A outer s H E).nox (defBody st) (sD K body)) : FnOk P w K mg base CX0 (k + 1) f fd ps (spD K ps.length (runD ps.length N.length body)) := by
  refine F.ok S (fun vs H Q E h => ?_) (fun cdv A outer s H vs Q E hr h => ?_)
  · obtain ⟨G0, ds, d, hl, r, _⟩ := h
    rw [r.length, hl]
  · obtain ⟨G0, ds, d, hl, r, s0, e, q⟩ := h
    refine ⟨_, hbody cdv A outer s H E hr, ?_⟩
    unfold runD at e
    rw [if_pos hl] at e
    cases e1 : body (rho0 N.length ds) with
    | none => rw [e1] at e; cases e
    | some p =>
      rw [e1] at e
      refine ⟨⟨H, 0⟩, G0, G0, _, p.1, p.2, rel_start rfl r s0, e1, ?_⟩
      obtain ⟨o, ρ'⟩ := p
      simp only [Option.bind_some] at e
      cases o with
      | nx => cases e; exact fun σ' G' H' x R => q .non G' H' R.keep x R.gn R.sub .non
      | rt d' => cases e; exact fun v σ' G' H' x R rv => q v G' H' R.keep x R.gn R.sub rv
      | rn zs => cases e; exact fun a xs σ' G' H' x R hH L rv => q (.ref a) (upd G' a (.lst xs)) H' R.keep (x.trans (Ext.upd L.1)) (L.frozen R hH).gn (L.frozen R hH).sub (.lst (SqL.of upd_same) (RpAll.sub (Sub.upd L.1) _ _ rv))
      | bk => cases e
      | ct => cases e
/-- a def that gives a new list -/
def rnOf : Out × Rho → Option (List PyData)
  | (.rn zs, _) => some zs
  | _ => none
def runN (np n : Nat) (body : MS) (ds : List PyData) : Option (List PyData) := if ds.length = np then (body (rho0 n ds)).bind rnOf else none
theorem runN_len {np n : Nat} {body : MS} {ds : List PyData} {d : List PyData} (h : runN np n body ds = some d) : ds.length = np := by
  unfold runN at h
  split at h
  · assumption
  · cases h
theorem fn_new {x qual : Str} {st : Stmt} {f : Addr} {fd : FuncData} {N ps : List Str} {k : Nat} {body : MS} (F : Fun K x qual st f fd) (S : FnScope N ps (defScope st))
    (hbody : ∀ (cdv : Value) (A : Around) (outer : List Env) (s : Shared) (H : Hp) (E : XK), Room k (A.deeper (envOfC qual (defScope st) s.heap.objs.size f cdv)) →
      PSs (cxOf CX0 P w K mg base N qual (defScope st) f cdv A outer s H E).nox (defBody st) (sD K body)) : FnOk P w K mg base CX0 (k + 1) f fd ps (spN K ps.length (runN ps.length N.length body)) := by
  refine F.ok S (fun vs H Q E h => ?_) (fun cdv A outer s H vs Q E hr h => ?_)
  · obtain ⟨G0, ds, d, hl, r, _⟩ := h
    rw [r.length, hl]
  · obtain ⟨G0, ds, d, hl, r, s0, e, q⟩ := h
    refine ⟨_, hbody cdv A outer s H E hr, ?_⟩
    unfold runN at e
    rw [if_pos hl] at e
    cases e1 : body (rho0 N.length ds) with
    | none => rw [e1] at e; cases e
    | some p =>
      rw [e1] at e
      refine ⟨⟨H, 0⟩, G0, G0, _, p.1, p.2, rel_start rfl r s0, e1, ?_⟩
      obtain ⟨o, ρ'⟩ := p
      simp only [Option.bind_some] at e
      cases o with
      | rn zs => cases e; exact fun a xs σ' G' H' x R hH L rv => q a xs G' H' R.keep x R.gn R.sub hH L.1 L.2.1 rv
      | _ => cases e
/-- a def that changes the list that is its first argument -/
def ioOf : Rho → Option (List PyData)
  | some (.io qs) :: _ => some qs
  | _ => none
def runP (np n : Nat) (body : MS) (ps ds : List PyData) : Option (PyData × List PyData) := if ds.length = np then (body (some (.io ps) :: rho0 (n - 1) ds)).bind fun p => (endOf p).bind fun d => (ioOf p.2).bind fun qs => some (d, qs) else none
theorem runP_len {np n : Nat} {body : MS} {ps ds : List PyData} {d : PyData × List PyData} (h : runP np n body ps ds = some d) : ds.length = np := by
  unfold runP at h
  split at h
  · assumption
  · cases h
theorem ioOf_at {ρ : Rho} {qs : List PyData} (h : ioOf ρ = some qs) : ρ[0]? = some (some (.io qs)) := by
  unfold ioOf at h
  split at h
  · cases h; rfl
  · cases h
theorem rel_startP {K : PySem.W.Frag} {G0 H : Hp} {vs xs : List V} {ds ps : List PyData} {p : Addr} {n : Nat} {N : List Str} (hN : N.length = n + 1) (h : RpAll K G0 vs ds) (s : Sub G0 H) (hp : H p = some (.lst xs)) (hg : G0 p = none) (hx : RpAll K G0 xs ps) :
    Rel K ⟨fun b => if b = p then none else H b, p⟩ G0 G0 H (L2.start N (.ref p :: vs)) (some (.io ps) :: rho0 n ds) := by
  have e0 : L2.start N (.ref p :: vs) = some (.ref p) :: (vs.map some ++ List.replicate (n - vs.length) none) := by
    unfold L2.start
    rw [hN]
    simp
  rw [e0]
  have R := rel_start (n := n) (N := List.replicate n Str.empty) (by simp) h s
  have e1 : L2.start (List.replicate n Str.empty) vs = vs.map some ++ List.replicate (n - vs.length) none := by
    unfold L2.start; rw [List.length_replicate]
  rw [e1] at R
  have hF : ∀ b o, (if b = p then none else H b) = some o → H b = some o := fun b o e => by
    split at e
    · cases e
    · exact e
  have no : ∀ (i : Nat) (e : EV), (rho0 n ds)[i]? = some (some e) → e.own = true → False := fun i e he ho => by
    obtain ⟨v, hv, hh⟩ := R.at_ i e he
    obtain ⟨a, rfl, ow, ga, fa, _⟩ := hh.dat_own ho
    obtain ⟨u, hu⟩ := ow.there
    have fa : H a = none := fa
    rw [fa] at hu; cases hu
  refine ⟨hF, fun _ _ h => h, fun _ _ h => .inl h, s, by simp [R.len], fun i e he => ?_, fun i j e e' a h1 h2 o1 o2 s1 s2 => ?_⟩
  · cases i with
    | zero =>
      simp at he
      subst he
      exact ⟨.ref p, rfl, p, rfl, ⟨xs, hp, hx⟩, hg, if_pos rfl, fun _ => rfl⟩
    | succ i =>
      obtain ⟨v, hv, hh⟩ := R.at_ i e (by simpa using he)
      refine ⟨v, by simpa using hv, ?_⟩
      by_cases ho : e.own = true
      · exact (no i e (by simpa using he) ho).elim
      · cases e with
        | fr d => exact hh
        | _ => exact absurd rfl ho
  · cases i with
    | zero => cases j with
      | zero => rfl
      | succ j => exact (no j e' (by simpa using h2) o2).elim
    | succ i => exact (no i e (by simpa using h1) o1).elim
theorem fn_pool {x qual : Str} {st : Stmt} {f : Addr} {fd : FuncData} {N ps : List Str} {k : Nat} {body : MS} (F : Fun K x qual st f fd) (S : FnScope N ps (defScope st)) (hN : 0 < N.length) (hps : 0 < ps.length)
    (hbody : ∀ (cdv : Value) (A : Around) (outer : List Env) (s : Shared) (H : Hp) (E : XK), Room k (A.deeper (envOfC qual (defScope st) s.heap.objs.size f cdv)) →
      PSs (cxOf CX0 P w K mg base N qual (defScope st) f cdv A outer s H E).nox (defBody st) (sD K body)) : FnOk P w K mg base CX0 (k + 1) f fd ps (spP K (ps.length - 1) (runP (ps.length - 1) N.length body)) := by
  refine F.ok S (fun vs H Q E h => ?_) (fun cdv A outer s H vs Q E hr h => ?_)
  · obtain ⟨G0, p, rest, xs, pl, ds, d, ps', rfl, hl, _, _, _, r, _⟩ := h
    rw [List.length_cons, r.length, hl]
    omega
  · obtain ⟨G0, p, rest, xs, pl, ds, d, ps', rfl, hl, hp, hg, hx, r, s0, e, q⟩ := h
    refine ⟨_, hbody cdv A outer s H E hr, ?_⟩
    unfold runP at e
    rw [if_pos hl] at e
    cases e1 : body (some (.io pl) :: rho0 (N.length - 1) ds) with
    | none => rw [e1] at e; cases e
    | some r1 =>
      rw [e1] at e
      simp only [Option.bind_some] at e
      cases e2 : endOf r1 with
      | none => rw [e2] at e; cases e
      | some d' =>
        rw [e2] at e
        simp only [Option.bind_some] at e
        cases e3' : ioOf r1.2 with
        | none => rw [e3'] at e; cases e
        | some qs =>
          rw [e3'] at e
          cases e
          have e3 := ioOf_at e3'
          have R0 := rel_startP (n := N.length - 1) (N := N) (by omega) r s0 hp hg hx
          refine ⟨_, G0, G0, _, r1.1, r1.2, R0, e1, ?_⟩
          have fin : ∀ {v : V} {σ' : St} {G' H' : Hp}, Ext G0 G' → Rel K ⟨fun b => if b = p then none else H b, p⟩ G0 G' H' σ' r1.2 → Rp K G' v d → Q v H' := fun {v σ' G' H'} x R rv => by
            obtain ⟨v0, hv0, hh⟩ := R.at_ 0 _ e3
            obtain ⟨a, rfl, ⟨xs', h1, h2⟩, ga, fa, ia⟩ := hh
            have ia : a = p := ia rfl
            subst ia
            refine q v G' H' xs' (fun b o hb hh => R.keep b o (by show (if b = a then none else H b) = some o; rw [if_neg hb]; exact hh)) x (fun b o hb => ?_) ga R.sub h1 h2 rv
            rcases R.gn b o hb with z | z
            · exact .inl z
            · have z : (if b = a then none else H b) = none := z
              by_cases hba : b = a
              · exact .inr (.inr hba)
              · rw [if_neg hba] at z; exact .inr (.inl z)
          obtain ⟨o, ρ'⟩ := r1
          cases o with
          | nx => cases e2; exact fun σ' G' H' x R => fin x R .non
          | rt d' => cases e2; exact fun v σ' G' H' x R rv => fin x R rv
          | rn zs =>
            cases e2
            intro a xs' σ' G' H' x R hH L rv
            have R2 := L.frozen R hH
            exact fin (x.trans (Ext.upd L.1)) R2 (.lst (SqL.of upd_same) (RpAll.sub (Sub.upd L.1) _ _ rv))
          | bk => cases e2
          | ct => cases e2
end

/-- behind a call that leaves all as it was -/
theorem Rel.after {K : PySem.W.Frag} {F : Fr} {G0 G G' H H' : Hp} {σ : St} {ρ : Rho} (R : Rel K F G0 G H σ ρ) (hk : ∀ b o, H b = some o → H' b = some o) (x : Ext G G') (hn : ∀ b o, G' b = some o → G b = some o ∨ H b = none) (hs : Sub G' H') : Rel K F G0 G' H' σ ρ where
  keep := fun b o e => hk b o (R.keep b o e)
  g0 := fun b o e => x b o (R.g0 b o e)
  gn := fun b o e => by
    rcases hn b o e with q | q
    · exact R.gn b o q
    · exact .inr (R.ffree q)
  sub := hs
  len := R.len
  at_ := fun i e he => by
    obtain ⟨v, hv, hh⟩ := R.at_ i e he
    refine ⟨v, hv, ?_⟩
    by_cases ho : e.own = true
    · obtain ⟨a, rfl, ow, ga, fa, ia⟩ := hh.dat_own ho
      obtain ⟨u, hu⟩ := ow.there
      refine holds_of_own (ow.mono x.sub (by rw [hu]; exact hk a u hu)) ?_ fa ia
      cases q : G' a with
      | none => rfl
      | some o =>
        rcases hn a o q with z | z
        · rw [ga] at z; cases z
        · rw [hu] at z; cases z
    · cases e with
      | fr d => exact Rp.sub x.sub _ _ hh
      | _ => exact absurd rfl ho
  inj := R.inj

/-! ### calls of defs -/
def eCall (f : M (List PyData)) (k : List PyData → Option PyData) : M PyData := fun ρ => (f ρ).bind fun p => (k p.1).bind fun z => some (z, p.2)
theorem callD_imp {K : PySem.W.Frag} {n : Nat} {f : M (List PyData)} {k : List PyData → Option PyData} {E : XK} {σ : St} {H : Hp} {Q : VK} (hl : ∀ ds d, k ds = some d → ds.length = n) (h : eD K (eCall f k) σ H Q) : tCall (spD K n k) [] E (aD K f) σ H Q := by
  obtain ⟨F, G0, G, ρ, d, ρ', R, hf, q⟩ := h
  unfold eCall at hf
  cases e1 : f ρ with
  | none => rw [e1] at hf; cases hf
  | some p =>
    rw [e1] at hf
    simp only [Option.bind_some] at hf
    cases e2 : k p.1 with
    | none => rw [e2] at hf; cases hf
    | some z =>
      rw [e2] at hf; cases hf
      refine ⟨F, G0, G, ρ, p.1, p.2, R, e1, fun vs G1 H1 x1 R1 r1 => ?_⟩
      show spD K n k (vs ++ []) H1 Q E
      rw [List.append_nil]
      exact ⟨G1, p.1, d, hl _ _ e2, r1, R1.sub, e2, fun v G' H' hk x2 hn hs rv => q v G' H' (x1.trans x2) (R1.after hk x2 hn hs) rv⟩
/-- f(e, ..) -/
theorem de_call {x : Str} {f : Addr} {fd : FuncData} {ps : List Str} {j : Nat} {k : List PyData → Option PyData} {e : Expr} {es : List Expr} {p pos : Pos} {g : M (List PyData)} (F : FnOk X.prog X.w X.K X.mg X.base CX0 j f fd ps (spD X.K ps.length k)) (hl : ∀ ds d, k ds = some d → ds.length = ps.length) (hr : Room j X.A) (hg : Gl X x)
    (hm : X.mg x = some (.ref f)) (hkp : PySem.W.keepIn X.K (.ref f) = true) (hb : Binds X.K fd ps []) (ha : PA X (e :: es) (aD X.K g)) (hdb : (x == ("__debug__" : Str)) = false := by decide) (he : starEach (e :: es) X.env = (false, eval e X.env) :: starEach es X.env := by rfl)
    (hpl : (backTo pos (starEach es X.env)).any (·.1) = false := by rfl) : PE X (.Call (.Name x p) (e :: es) [] pos) (eD X.K (eCall g k)) :=
  (pe_call F hr hg hm hkp hb .nil pass0 ha hdb he hpl).imp fun σ H Q h => callD_imp hl h
def nCall (f : M (List PyData)) (k : List PyData → Option (List PyData)) : M (List PyData) := fun ρ => (f ρ).bind fun p => (k p.1).bind fun z => some (z, p.2)
theorem callN_imp {K : PySem.W.Frag} {n : Nat} {f : M (List PyData)} {k : List PyData → Option (List PyData)} {E : XK} {σ : St} {H : Hp} {Q : VK} (hl : ∀ ds d, k ds = some d → ds.length = n) (h : nD K (nCall f k) σ H Q) : tCall (spN K n k) [] E (aD K f) σ H Q := by
  obtain ⟨F, G0, G, ρ, d, ρ', R, hf, q⟩ := h
  unfold nCall at hf
  cases e1 : f ρ with
  | none => rw [e1] at hf; cases hf
  | some p =>
    rw [e1] at hf
    simp only [Option.bind_some] at hf
    cases e2 : k p.1 with
    | none => rw [e2] at hf; cases hf
    | some z =>
      rw [e2] at hf; cases hf
      refine ⟨F, G0, G, ρ, p.1, p.2, R, e1, fun vs G1 H1 x1 R1 r1 => ?_⟩
      show spN K n k (vs ++ []) H1 Q E
      rw [List.append_nil]
      refine ⟨G1, p.1, d, hl _ _ e2, r1, R1.sub, e2, fun a xs G' H' hk x2 hn hs hH hG hF rv => ?_⟩
      have L := R1.loose hF
      exact q a xs G' H' (x1.trans x2) (R1.after hk x2 hn hs) hH ⟨hG, L.2.1, L.2.2⟩ rv
theorem dn_call {x : Str} {f : Addr} {fd : FuncData} {ps : List Str} {j : Nat} {k : List PyData → Option (List PyData)} {e : Expr} {es : List Expr} {p pos : Pos} {g : M (List PyData)} (F : FnOk X.prog X.w X.K X.mg X.base CX0 j f fd ps (spN X.K ps.length k)) (hl : ∀ ds d, k ds = some d → ds.length = ps.length) (hr : Room j X.A) (hg : Gl X x)
    (hm : X.mg x = some (.ref f)) (hkp : PySem.W.keepIn X.K (.ref f) = true) (hb : Binds X.K fd ps []) (ha : PA X (e :: es) (aD X.K g)) (hdb : (x == ("__debug__" : Str)) = false := by decide) (he : starEach (e :: es) X.env = (false, eval e X.env) :: starEach es X.env := by rfl)
    (hpl : (backTo pos (starEach es X.env)).any (·.1) = false := by rfl) : PE X (.Call (.Name x p) (e :: es) [] pos) (nD X.K (nCall g k)) :=
  (pe_call F hr hg hm hkp hb .nil pass0 ha hdb he hpl).imp fun σ H Q h => callN_imp hl h
/-- f(x, e, ..), x a name's own list that f changes -/
def eCallP (i : Nat) (f : M (List PyData)) (k : List PyData → List PyData → Option (PyData × List PyData)) : M PyData := fun ρ => (ownL ρ i).bind fun _ => (f ρ).bind fun p => (ownL p.2 i).bind fun ps => (k ps p.1).bind fun r => some (r.1, setL p.2 i r.2)
theorem Rel.afterP {K : PySem.W.Frag} {F : Fr} {G0 G G' H H' : Hp} {σ : St} {ρ : Rho} (R : Rel K F G0 G H σ ρ) {i : Nat} {ps qs : List PyData} {p : Addr} {ys : List V} (ho : ownL ρ i = some ps) (hs : σ[i]? = some (some (.ref p)))
    (hk : ∀ b o, b ≠ p → H b = some o → H' b = some o) (x : Ext G G') (hn : ∀ b o, G' b = some o → G b = some o ∨ H b = none ∨ b = p) (hg : G' p = none) (hsub : Sub G' H') (hy : H' p = some (.lst ys)) (hq : RpAll K G' ys qs) : Rel K F G0 G' H' σ (setL ρ i qs) := by
  obtain ⟨a, xs, hs', hH, hx, ga, fa⟩ := ownL_at R ho
  rw [hs] at hs'; cases hs'
  -- the heap behind the call, but for p as it was
  have R1 : Rel K F G0 G' (upd H' p (.lst xs)) σ ρ := by
    refine R.after (fun b o e => ?_) x (fun b o e => ?_) (fun b u r => ?_)
    · by_cases hb : b = p
      · subst hb; rw [upd_same]; rw [hH] at e; exact e
      · rw [upd_ne hb]; exact hk b o hb e
    · rcases hn b o e with z | z | z
      · exact .inl z
      · exact .inr z
      · subst z; rw [hg] at e; cases e
    · have hb : b ≠ p := by rcases r with r | ⟨_, r⟩ <;> exact ne_of_none r hg
      rcases hsub b u r with r' | ⟨o', r'⟩
      · exact .inl (by rw [upd_ne hb]; exact r')
      · exact .inr ⟨o', by rw [upd_ne hb]; exact r'⟩
  have R2 := R1.writeL ho hs hq
  rw [upd_upd] at R2
  have e : upd H' p (.lst ys) = H' := by
    funext b
    by_cases hb : b = p
    · subst hb; rw [upd_same, hy]
    · rw [upd_ne hb]
  rw [e] at R2
  exact R2
theorem callP_imp {K : PySem.W.Frag} {n i : Nat} {f : M (List PyData)} {k : List PyData → List PyData → Option (PyData × List PyData)} {E : XK} {σ : St} {H : Hp} {Q : VK} (hl : ∀ ps ds d, k ps ds = some d → ds.length = n) (h : eD K (eCallP i f k) σ H Q) : tCall (spP K n k) [] E (tCons (tVar i) (aD K f)) σ H Q := by
  obtain ⟨F, G0, G, ρ, d, ρ', R, hf, q⟩ := h
  unfold eCallP at hf
  cases e0 : ownL ρ i with
  | none => rw [e0] at hf; cases hf
  | some ds0 =>
    rw [e0] at hf
    simp only [Option.bind_some] at hf
    cases e1 : f ρ with
    | none => rw [e1] at hf; cases hf
    | some p =>
      rw [e1] at hf
      simp only [Option.bind_some] at hf
      cases e2 : ownL p.2 i with
      | none => rw [e2] at hf; cases hf
      | some pl =>
        rw [e2] at hf
        simp only [Option.bind_some] at hf
        cases e3 : k pl p.1 with
        | none => rw [e3] at hf; cases hf
        | some r =>
          rw [e3] at hf; cases hf
          obtain ⟨a, xs0, hs, hH, _⟩ := ownL_at R e0
          refine ⟨.ref a, hs, F, G0, G, ρ, p.1, p.2, R, e1, fun vs G1 H1 x1 R1 r1 => ?_⟩
          show spP K n k ((.ref a :: vs) ++ []) H1 Q E
          rw [List.append_nil]
          obtain ⟨a', xs, hs', hH', hx, ga, fa⟩ := ownL_at R1 e2
          rw [hs] at hs'; cases hs'
          refine ⟨G1, a, vs, xs, pl, p.1, r.1, r.2, rfl, hl _ _ _ e3, hH', ga, hx, r1, R1.sub, e3, fun v G' H' ys hk x2 hn hg hsub hy hq rv => ?_⟩
          exact q v G' H' (x1.trans x2) (R1.afterP e2 hs hk x2 hn hg hsub hy hq) rv
theorem de_callP {x : Str} {f : Addr} {fd : FuncData} {ps : List Str} {j i n : Nat} {k : List PyData → List PyData → Option (PyData × List PyData)} {e : Expr} {es : List Expr} {p pos : Pos} {g : M (List PyData)} (F : FnOk X.prog X.w X.K X.mg X.base CX0 j f fd ps (spP X.K n k)) (hl : ∀ ps ds d, k ps ds = some d → ds.length = n) (hr : Room j X.A) (hg : Gl X x)
    (hm : X.mg x = some (.ref f)) (hkp : PySem.W.keepIn X.K (.ref f) = true) (hb : Binds X.K fd ps []) (h0 : PE X e (tVar i)) (ha : PA X es (aD X.K g)) (hdb : (x == ("__debug__" : Str)) = false := by decide) (he : starEach (e :: es) X.env = (false, eval e X.env) :: starEach es X.env := by rfl)
    (hpl : (backTo pos (starEach es X.env)).any (·.1) = false := by rfl) : PE X (.Call (.Name x p) (e :: es) [] pos) (eD X.K (eCallP i g k)) :=
  (pe_call F hr hg hm hkp hb .nil pass0 (pa_cons h0 ha he) hdb he hpl).imp fun σ H Q h => callP_imp hl h
/-- nothing is promised -/
theorem fn_none {P : Program} {w : World} {K : PySem.W.Frag} {mg : Str → Option Value} {base : Heap} {f : Addr} {fd : FuncData} {ps : List Str} {k n : Nat} : FnOk P w K mg base CX0 k f fd ps (spD K n fun _ => none) where
  len := fun vs H Q E h => by obtain ⟨_, _, _, _, _, _, h, _⟩ := h; cases h
  run := fun A outer s H args us vs Q E hr he hb r h => by obtain ⟨_, _, _, _, _, _, h, _⟩ := h; cases h
theorem fn_noneP {P : Program} {w : World} {K : PySem.W.Frag} {mg : Str → Option Value} {base : Heap} {f : Addr} {fd : FuncData} {ps : List Str} {k n : Nat} : FnOk P w K mg base CX0 k f fd ps (spP K n fun _ _ => none) where
  len := fun vs H Q E h => by obtain ⟨_, _, _, _, _, _, _, _, _, _, _, _, _, _, _, h, _⟩ := h; cases h
  run := fun A outer s H args us vs Q E hr he hb r h => by obtain ⟨_, _, _, _, _, _, _, _, _, _, _, _, _, _, _, h, _⟩ := h; cases h
end
end PD
namespace PD
open PySem PySem.Spec PyProof.Rows L2
/-- a def of the module, as its callers see it -/
structure Cal (P : Program) (w : World) (K : PySem.W.Frag) (mg : Str → Option Value) (base : Heap) (x : Str) (ps : List Str) (j : Nat) (sp : Sp) : Prop where
  ex : ∃ (f : Addr) (fd : FuncData), FnOk P w K mg base CX0 j f fd ps sp ∧ mg x = some (.ref f) ∧ PySem.W.keepIn K (.ref f) = true ∧ Binds K fd ps []
section
variable {X : Cx}
theorem dc_call {x : Str} {ps : List Str} {j n : Nat} {k : List PyData → Option PyData} {e : Expr} {es : List Expr} {p pos : Pos} {g : M (List PyData)} (C : Cal X.prog X.w X.K X.mg X.base x ps j (spD X.K n k)) (hl : ∀ ds d, k ds = some d → ds.length = n) (hn : ps.length = n) (hr : Room j X.A) (hg : Gl X x)
    (ha : PA X (e :: es) (aD X.K g)) (hdb : (x == ("__debug__" : Str)) = false := by decide) (he : starEach (e :: es) X.env = (false, eval e X.env) :: starEach es X.env := by rfl)
    (hpl : (backTo pos (starEach es X.env)).any (·.1) = false := by rfl) : PE X (.Call (.Name x p) (e :: es) [] pos) (eD X.K (eCall g k)) := by
  obtain ⟨f, fd, F, hm, hkp, hb⟩ := C.ex
  subst hn
  exact de_call F hl hr hg hm hkp hb ha hdb he hpl
theorem dc_callN {x : Str} {ps : List Str} {j n : Nat} {k : List PyData → Option (List PyData)} {e : Expr} {es : List Expr} {p pos : Pos} {g : M (List PyData)} (C : Cal X.prog X.w X.K X.mg X.base x ps j (spN X.K n k)) (hl : ∀ ds d, k ds = some d → ds.length = n) (hn : ps.length = n) (hr : Room j X.A) (hg : Gl X x)
    (ha : PA X (e :: es) (aD X.K g)) (hdb : (x == ("__debug__" : Str)) = false := by decide) (he : starEach (e :: es) X.env = (false, eval e X.env) :: starEach es X.env := by rfl)
    (hpl : (backTo pos (starEach es X.env)).any (·.1) = false := by rfl) : PE X (.Call (.Name x p) (e :: es) [] pos) (nD X.K (nCall g k)) := by
  obtain ⟨f, fd, F, hm, hkp, hb⟩ := C.ex
  subst hn
  exact dn_call F hl hr hg hm hkp hb ha hdb he hpl
theorem dc_callP {x : Str} {ps : List Str} {j i n : Nat} {k : List PyData → List PyData → Option (PyData × List PyData)} {e : Expr} {es : List Expr} {p pos : Pos} {g : M (List PyData)} (C : Cal X.prog X.w X.K X.mg X.base x ps j (spP X.K n k)) (hl : ∀ ps ds d, k ps ds = some d → ds.length = n) (hr : Room j X.A) (hg : Gl X x)
    (h0 : PE X e (tVar i)) (ha : PA X es (aD X.K g)) (hdb : (x == ("__debug__" : Str)) = false := by decide) (he : starEach (e :: es) X.env = (false, eval e X.env) :: starEach es X.env := by rfl)
    (hpl : (backTo pos (starEach es X.env)).any (·.1) = false := by rfl) : PE X (.Call (.Name x p) (e :: es) [] pos) (eD X.K (eCallP i g k)) := by
  obtain ⟨f, fd, F, hm, hkp, hb⟩ := C.ex
  exact de_callP F hl hr hg hm hkp hb h0 ha hdb he hpl
/-- x < y -/
def dLt : PyData → PyData → Option PyData
  | .int i, .int j => some (.bool (decide (i < j)))
  | x, y => dLtD x y
theorem op_lt2_ (hu : X.A.units + 64 < cLine) : OpR X (compareOp .Lt) (rD X.K dLt) := by
  intro pins s σ H x y v u Q I rx ry h'
  obtain ⟨F, G0, G, σ', ρ, dx, dy, dz, R, tx, ty, e, q⟩ := h'
  unfold dLt at e
  split at e
  · exact op_lt_ pins s σ H x y v u Q I rx ry ⟨F, G0, G, σ', ρ, _, _, dz, R, tx, ty, e, q⟩
  · exact op_ltD_ hu pins s σ H x y v u Q I rx ry ⟨F, G0, G, σ', ρ, _, _, dz, R, tx, ty, e, q⟩
/-- list(range(..)) -/
def rgB (i : Int) : Bool := decide (0 ≤ i) && decide (i ≤ 16777216)
def nRg1 (f : M PyData) : M (List PyData) := fun ρ => (f ρ).bind fun q => match q.1 with
  | .int j => if rgB j then some (rgD 0 1 j.toNat, q.2) else none
  | _ => none
def nRg2 (f g : M PyData) : M (List PyData) := fun ρ => (f ρ).bind fun q => (g q.2).bind fun r => match q.1, r.1 with
  | .int i, .int j => if rgB i && rgB j then some (rgD i 1 (j - i).toNat, r.2) else none
  | _, _ => none
theorem rgV_rp {K : PySem.W.Frag} {G : Hp} (i j : Int) : RpAll K G (rgV i j) (rgD i 1 (j - i).toNat) := by
  have e3 : rgD i 1 (j - i).toNat = ((List.range (j - i).toNat).map fun (k : Nat) => (i + k)).map PyData.int := by
    unfold rgD; rw [List.map_map]; apply List.map_congr_left; intro k _; simp
  have e4 : rgV i j = ((List.range (j - i).toNat).map fun (k : Nat) => (i + k)).map V.int := by
    unfold rgV; rw [List.map_map]; apply List.map_congr_left; intro k _; rfl
  rw [e3, e4]
  exact RpAll.ints _
theorem dn_listRange1 {p p2 pos pos2 : Pos} {a : Expr} {f : M PyData} (hc : X.calm = true) (hg : Gl X "list") (hm : X.mg "list" = none) (hg2 : Gl X "range") (hm2 : X.mg "range" = none) (ha : PE X a (eD X.K f)) (na : starEach [a] X.env = (false, eval a X.env) :: starEach [] X.env := by rfl) (nb : starEach [Expr.Call (.Name "range" p2) [a] [] pos2] X.env = (false, eval (Expr.Call (.Name "range" p2) [a] [] pos2) X.env) :: starEach [] X.env := by rfl) :
    PE X (.Call (.Name "list" p) [.Call (.Name "range" p2) [a] [] pos2] [] pos) (nD X.K (nRg1 f)) := (pe_listRg hc hg hm (prg_1 hg2 hm2 ha na) nb).imp fun σ H Q ⟨F, G0, G, ρ, d, ρ', R, hf, q⟩ => by
  unfold nRg1 at hf
  cases e1 : f ρ with
  | none => rw [e1] at hf; cases hf
  | some r =>
    rw [e1] at hf
    simp only [Option.bind_some] at hf
    split at hf
    · rename_i j hj
      split at hf
      · rename_i hb
        cases hf
        have hb : 0 ≤ j ∧ j ≤ 16777216 := by simpa [rgB] using hb
        refine ⟨F, G0, G, ρ, r.1, r.2, R, e1, fun v G1 H1 x1 R1 r1 => ?_⟩
        rw [hj] at r1
        cases r1
        refine ⟨j, rfl, RgOk.of_le (Int.le_refl 0) hb.2 (by omega) hb.1, fun t ht => ?_⟩
        exact q t (rgV 0 j) G1 _ x1 (R1.laid ht) upd_same (R1.loose ht) (by simpa using rgV_rp 0 j)
      · cases hf
    · cases hf
theorem dn_listRange2 {p p2 pos pos2 : Pos} {a b : Expr} {f g : M PyData} (hc : X.calm = true) (hg : Gl X "list") (hm : X.mg "list" = none) (hg2 : Gl X "range") (hm2 : X.mg "range" = none) (ha : PE X a (eD X.K f)) (hb : PE X b (eD X.K g)) (na : starEach [a, b] X.env = (false, eval a X.env) :: starEach [b] X.env := by rfl) (na2 : starEach [b] X.env = (false, eval b X.env) :: starEach [] X.env := by rfl) (hp : (backTo pos2 (starEach [b] X.env)).any (·.1) = false := by rfl) (nb : starEach [Expr.Call (.Name "range" p2) [a, b] [] pos2] X.env = (false, eval (Expr.Call (.Name "range" p2) [a, b] [] pos2) X.env) :: starEach [] X.env := by rfl) :
    PE X (.Call (.Name "list" p) [.Call (.Name "range" p2) [a, b] [] pos2] [] pos) (nD X.K (nRg2 f g)) := (pe_listRg hc hg hm (prg_2 hg2 hm2 ha hb na na2 hp) nb).imp fun σ H Q ⟨F, G0, G, ρ, d, ρ', R, hf, q⟩ => by
  unfold nRg2 at hf
  cases e1 : f ρ with
  | none => rw [e1] at hf; cases hf
  | some r =>
    rw [e1] at hf
    simp only [Option.bind_some] at hf
    cases e2 : g r.2 with
    | none => rw [e2] at hf; cases hf
    | some r' =>
      rw [e2] at hf
      simp only [Option.bind_some] at hf
      split at hf
      · rename_i i j hi hj
        split at hf
        · rename_i hb
          cases hf
          have hb : (0 ≤ i ∧ i ≤ 16777216) ∧ (0 ≤ j ∧ j ≤ 16777216) := by simpa [rgB] using hb
          refine ⟨F, G0, G, ρ, r.1, r.2, R, e1, fun v G1 H1 x1 R1 r1 => ⟨F, G0, G1, r.2, r'.1, r'.2, R1, e2, fun u G2 H2 x2 R2 r2 => ?_⟩⟩
          rw [hi] at r1
          rw [hj] at r2
          cases r1; cases r2
          refine ⟨i, j, rfl, rfl, RgOk.of_le hb.1.1 hb.2.2 hb.1.2 hb.2.1, fun t ht => ?_⟩
          exact q t (rgV i j) G2 _ (x1.trans x2) (R2.laid ht) upd_same (R2.loose ht) (rgV_rp i j)
        · cases hf
      · cases hf
end
theorem bt_len : bootBuiltins "len" = some (.builtin "len") := by decide +kernel
theorem bt_abs : bootBuiltins "abs" = some (.builtin "abs") := by decide +kernel
theorem bt_sum : bootBuiltins "sum" = some (.builtin "sum") := by decide +kernel
theorem bt_any : bootBuiltins "any" = some (.builtin "any") := by decide +kernel
theorem bt_all : bootBuiltins "all" = some (.builtin "all") := by decide +kernel
theorem bt_max : bootBuiltins "max" = some (.builtin "max") := by decide +kernel
theorem bt_min : bootBuiltins "min" = some (.builtin "min") := by decide +kernel
theorem bt_sorted : bootBuiltins "sorted" = some (.builtin "sorted") := by decide +kernel
theorem bt_int : bootBuiltins "int" = some (.type "int") := by decide +kernel
theorem bt_list : bootBuiltins "list" = some (.type "list") := by decide +kernel
theorem bt_tuple : bootBuiltins "tuple" = some (.type "tuple") := by decide +kernel
theorem bt_set : bootBuiltins "set" = some (.type "set") := by decide +kernel
end PD
namespace PD
open PySem PySem.Spec PyProof.Rows L2

/-! ### sets of ints, sorted at once -/
def insS (k : Int) : List Int → List Int
  | [] => [k]
  | x :: xs => if k < x then k :: x :: xs else if k = x then x :: xs else x :: insS k xs
def sset (ns : List Int) : List Int := ns.foldr insS []
theorem mem_insS {k j : Int} : ∀ {xs : List Int}, j ∈ insS k xs ↔ j = k ∨ j ∈ xs
  | [] => by simp [insS]
  | x :: xs => by
    unfold insS
    split
    · simp
    · split
      · rename_i h; subst h; simp
      · simp [mem_insS (xs := xs)]
        constructor
        · rintro (h | h | h) <;> simp [h]
        · rintro (h | h | h) <;> simp [h]
theorem ris_insS {k : Int} : ∀ {xs : List Int}, xs.Pairwise (· < ·) → (insS k xs).Pairwise (· < ·)
  | [], _ => by simp [insS]
  | x :: xs, h => by
    obtain ⟨h1, h2⟩ := List.pairwise_cons.mp h
    unfold insS
    split
    · rename_i hk
      refine List.pairwise_cons.mpr ⟨fun y hy => ?_, h⟩
      rcases List.mem_cons.mp hy with rfl | hy
      · exact hk
      · exact Int.lt_trans hk (h1 y hy)
    · split
      · exact h
      · rename_i a b
        refine List.pairwise_cons.mpr ⟨fun y hy => ?_, ris_insS h2⟩
        rcases mem_insS.mp hy with rfl | hy
        · omega
        · exact h1 y hy
theorem mem_sset {j : Int} : ∀ {ns : List Int}, j ∈ sset ns ↔ j ∈ ns
  | [] => by simp [sset]
  | n :: ns => by
    show j ∈ insS n (sset ns) ↔ _
    rw [mem_insS, mem_sset, List.mem_cons]
theorem ris_sset : ∀ {ns : List Int}, (sset ns).Pairwise (· < ·)
  | [] => .nil
  | n :: ns => ris_insS (ris_sset (ns := ns))
theorem ris_ext : ∀ {xs ys : List Int}, xs.Pairwise (· < ·) → ys.Pairwise (· < ·) → (∀ k, k ∈ xs ↔ k ∈ ys) → xs = ys
  | [], [], _, _, _ => rfl
  | [], y :: ys, _, _, h => by have := (h y).mpr (by simp); simp at this
  | x :: xs, [], _, _, h => by have := (h x).mp (by simp); simp at this
  | x :: xs, y :: ys, hx, hy, h => by
    obtain ⟨a1, a2⟩ := List.pairwise_cons.mp hx
    obtain ⟨b1, b2⟩ := List.pairwise_cons.mp hy
    have e : x = y := by
      rcases List.mem_cons.mp ((h x).mp (by simp)) with r | r
      · exact r
      · rcases List.mem_cons.mp ((h y).mpr (by simp)) with r' | r'
        · exact r'.symm
        · have := b1 x r; have := a1 y r'; omega
    subst e
    congr 1
    refine ris_ext a2 b2 fun k => ⟨fun hk => ?_, fun hk => ?_⟩
    · rcases List.mem_cons.mp ((h k).mp (List.mem_cons_of_mem _ hk)) with r | r
      · have := a1 k hk; omega
      · exact r
    · rcases List.mem_cons.mp ((h k).mpr (List.mem_cons_of_mem _ hk)) with r | r
      · have := b1 k hk; omega
      · exact r
theorem intsOf_ints (ns : List Int) : intsOf (ns.map .int) = some ns := intsOf_map ns
theorem rp_ints {K : PySem.W.Frag} {G : Hp} : ∀ {ns : List Int} {vs : List V}, RpAll K G vs (ns.map .int) → vs = ns.map V.int
  | [], _, .nil => rfl
  | n :: ns, _, .cons (.int _) b => by rw [rp_ints b]; rfl
theorem ints_rp {K : PySem.W.Frag} {G : Hp} : ∀ (ns : List Int), RpAll K G (ns.map V.int) (ns.map .int)
  | [] => .nil
  | n :: ns => .cons (.int _) (ints_rp ns)
def dSortedSet : PyData → Option (List PyData)
  | .tuple ds => (intsOf ds).bind fun ns => if ns.length < 64 then some ((sset ns).map .int) else none
  | _ => none
section
variable {X : Cx}
def rSetTI (K : PySem.W.Frag) (w : World) : List V → Hp → VK → Prop := fun xs H Q => ∃ (t : Addr) (ns : List Int), xs = [V.ref t] ∧ SqT K H t (ns.map V.int) ∧ ns.length + 1 < scanBound ∧
  ∀ p c, H p = none → c ≤ ns.length → Q (.ref p) (upd H p (SetO w p (fun j => decide (j ∈ ns)) c))
theorem cr_setTI (hc : X.calm = true) : CallR X (.type "set") (rSetTI X.K X.w) := by
  intro pins s σ H xs us Q I r h
  obtain ⟨t, ns, rfl, hq, hb, q⟩ := h
  rw [Vals.ref1 r]
  obtain ⟨its, r', pl, hz⟩ := I.tuple hq
  refine call_set_tupI ns (I.ok.hd hc) pl (by simpa using r'.ints) hb fun h' tk c hS hc' hk => ?_
  exact ⟨.ref _, upd H s.heap.objs.size (SetO X.w s.heap.objs.size (fun j => decide (j ∈ ns)) c), I.laid (t' := tk) hk (Nat.le_refl _) (setO_new hS), rfl, q _ _ (I.hok.fresh (Nat.le_refl _)) hc'⟩
theorem sortedSet_imp {σ : St} {H : Hp} {Q : VK} {f : Opd} (h : nD X.K (n1 f dSortedSet) σ H Q) : tCB (rSortedSet X.w) (tCons (tCB (rSetTI X.K X.w) (tCons (oD X.K f) tNil)) tNil) σ H Q := by
  obtain ⟨F, G0, G, ρ, d, ρ', R, hf, q⟩ := h
  obtain ⟨o, x, e1, e2, e3⟩ := n1_some hf
  refine ⟨F, G0, G, ρ, o, ρ', R, e1, fun v G1 H1 x1 R1 t1 => ?_⟩
  have t := t1 G1 H1 ρ' x (Ext.refl _) R1 e2
  unfold dSortedSet at e3
  split at e3
  · rename_i ds
    cases e4 : intsOf ds with
    | none => rw [e4] at e3; cases e3
    | some ns =>
      rw [e4] at e3
      simp only [Option.bind_some] at e3
      split at e3
      · rename_i hl
        cases e3
        have e5 := intsOf_some e4
        subst e5
        obtain ⟨a, xs, rfl, h1, h2⟩ := t
        have h3 := rp_ints h2
        subst h3
        refine ⟨a, ns, rfl, SqT.sub R1.sub h1, by unfold scanBound; omega, fun p c hp hc => ?_⟩
        refine ⟨p, _, c, rfl, upd_same, by omega, fun ms p' hs hm hl' hp' => ?_⟩
        have R2 := R1.laid (o := SetO X.w p (fun j => decide (j ∈ ns)) c) hp
        have R3 := R2.laid (o := .lst (ms.map V.int)) hp'
        have em : ms = sset ns := ris_ext hs ris_sset fun k => by rw [hm k, mem_sset]; simp
        subst em
        exact q p' _ G1 _ x1 R3 upd_same (R2.loose hp') (ints_rp _)
      · cases e3
  · cases e3
theorem dn_sortedSet {e : Expr} {p p2 q pos : Pos} {f : Opd} (hc : X.calm = true) (hg : Gl X "sorted") (hm : X.mg "sorted" = none) (hg2 : Gl X "set") (hm2 : X.mg "set" = none) (ha : PE X e (oD X.K f))
    (he : starEach (e :: []) X.env = (false, eval e X.env) :: starEach [] X.env := by rfl) (hpl : (backTo q (starEach [] X.env)).any (·.1) = false := by rfl) (hpl2 : (backTo pos (starEach [] X.env)).any (·.1) = false := by rfl) :
    PE X (.Call (.Name "sorted" p) [.Call (.Name "set" p2) [e] [] q] [] pos) (nD X.K (n1 f dSortedSet)) :=
  (pe_callB (cr_sortedSet hc) hg hm PyProof.Rows.boot_sorted (pa_cons (pe_callTy (cr_setTI hc) hg2 hm2 PyProof.Rows.boot_set (pa_cons ha pa_nil he) (he := he) (hpl := hpl)) pa_nil) (hpl := hpl2)).imp fun σ H Q h => sortedSet_imp h
/-- name = [..] on one line -/
theorem ps_setLc_ {i : Nat} {y : Str} {py : Pos} {elt tg iter : Expr} {ifs : List Expr} {scope : Scope} {own : List (Str × Nat)} {pos spos : Pos} {it : M (List PyData)} {as : PyData → Rho → Option Rho} {tt : M Bool} {el : M PyData} (hc : X.calm = true) (hN : X.N.Nodup) (hy : X.N[i]? = some y) (hyl : X.env.scope.names.lookup y = some .local)
    (hsw : swapsWith (.ListComp elt [⟨tg, iter, ifs, 0⟩] scope pos) (some (.Name y py)) spos.line X.env = pure true) (hi : PI X tg iter (iD X.K it)) (ok : BlkOk X.N X.env.scope scope own)
    (hg : ∀ (s : Shared) (H : Hp) (C : Addr) (cl : List (Str × Addr)) (fp : List Addr), PG (X.blk s H scope (compEnvC scope cl C X.env) fp) tg (gvD X.K (own.map (·.2)) as)) (ht : ∀ (s : Shared) (H : Hp) (C : Addr) (cl : List (Str × Addr)) (fp : List Addr), PTs (X.blk s H scope (compEnvC scope cl C X.env) fp) ifs (bD X.K tt))
    (he : ∀ (s : Shared) (H : Hp) (C : Addr) (cl : List (Str × Addr)) (fp : List Addr), PE (X.blk s H scope (compEnvC scope cl C X.env) fp) elt (eD X.K el)) (hs : ∀ x, foldedSetIterable iter X.env x = pure x := by intro _; rfl) :
    PS X (.Assign [.Name y py] (.ListComp elt [⟨tg, iter, ifs, 0⟩] scope pos) spos) (tAsg (nD X.K (lcD (own.map (·.2)) it as tt el)) (gName i)) :=
  (ps_setLc hc hN hy hyl hsw hi ok hg ht he hs).imp fun D σ H h => lc_imp h
end
end PD
namespace PD
open PySem PySem.Spec PyProof.Rows L2

/-! ### isinstance(x, T), T a built-in type -/
def dTy : PyData → Option String
  | .none => some "NoneType"
  | .bool _ => some "bool"
  | .int _ => some "int"
  | .str _ => some "str"
  | .list _ => some "list"
  | .tuple _ => some "tuple"
  | .dict _ => none
def dIsi (T : String) (d : PyData) : Option PyData := (dTy d).bind fun t => (kitB t T).bind fun b => some (.bool b)
section
variable {X : Cx}
theorem rp_ty {K : PySem.W.Frag} {F : Fr} {G0 G H : Hp} {σ : St} {ρ : Rho} {v : V} {d : PyData} {t : String} (R : Rel K F G0 G H σ ρ) (h : RpTop K G H v d) (e : dTy d = some t) : TyX K H v (.type t) := by
  cases d with
  | none => cases h; cases e; exact .base .non
  | bool b => cases h; cases e; exact .base (.bl _)
  | int i => cases h; cases e; exact .base (.int _)
  | str x => cases h; cases e; exact .base (.str _)
  | list ds =>
    obtain ⟨a, xs, rfl, h1, h2⟩ := h
    cases e
    rcases h1 with (h1 | ⟨o, h1⟩) | ⟨o, its, n, h1, h3, _⟩
    · exact .base (.lst h1)
    · exact .base (.frz h1)
    · exact .kList h1 h3
  | tuple ds =>
    obtain ⟨a, xs, rfl, h1, h2⟩ := h
    cases e
    rcases SqT.sub R.sub h1 with (h1 | ⟨o, h1⟩) | ⟨o, its, n, h1, h3, _⟩
    · exact .base (.tup h1)
    · exact .fTuple h1
    · exact .kTuple h1 h3
  | dict ds => cases e
theorem isi_imp {σ : St} {H : Hp} {Q : VK} {T : String} {f : Opd} (h : eD X.K (e1 f (dIsi T)) σ H Q) : tCB (rIsi X.K) (tCons (oD X.K f) (tCons (tC (.ty T)) tNil)) σ H Q := by
  have h' := c1_imp h
  obtain ⟨F, G0, G, ρ, o, ρ', R, e1, q⟩ := h'
  refine ⟨F, G0, G, ρ, o, ρ', R, e1, fun v G1 H1 x1 R1 t1 => ?_⟩
  obtain ⟨F2, G02, G2, σ2, ρ2, v2, d, z, ev, R2, t, ez, k⟩ := q v G1 H1 x1 R1 t1
  cases ev
  unfold dIsi at ez
  cases e2 : dTy d with
  | none => rw [e2] at ez; cases ez
  | some ty =>
    rw [e2] at ez
    simp only [Option.bind_some] at ez
    cases e3 : kitB ty T with
    | none => rw [e3] at ez; cases ez
    | some b =>
      rw [e3] at ez
      cases ez
      exact ⟨_, _, _, _, b, rfl, .ty T, rp_ty R2 t e2, kit_ty e3, k.atom R2 (.bl b)⟩
theorem de_isi {x T' : Str} {T : String} {e : Expr} {p p2 pos : Pos} {f : Opd} (hx : x = "isinstance") (hg : Gl X x) (hm : X.mg x = none) (hv : bootBuiltins x = some (.builtin "isinstance")) (ha : PE X e (oD X.K f)) (hg2 : Gl X T') (hm2 : X.mg T' = none) (hv2 : bootBuiltins T' = some (.type T))
    (hn2 : T' ≠ "__name__" := by decide) (hd2 : (T' == ("__debug__" : Str)) = false := by decide) (hn : x ≠ "__name__" := by decide) (hd : (x == ("__debug__" : Str)) = false := by decide)
    (he2 : starEach (e :: [.Name T' p2]) X.env = (false, eval e X.env) :: starEach [.Name T' p2] X.env := by rfl) (he3 : starEach [.Name T' p2] X.env = (false, eval (.Name T' p2) X.env) :: starEach [] X.env := by rfl)
    (hpl : (backTo pos (starEach [.Name T' p2] X.env)).any (·.1) = false := by rfl) : PE X (.Call (.Name x p) [e, .Name T' p2] [] pos) (eD X.K (e1 f (dIsi T))) :=
  (pe_callB call_isi hg hm hv (pa_cons ha (pa_cons (pe_bltn hg2 hm2 hv2 (v := .ty T) rfl hn2 hd2) pa_nil he3) he2) hn hd he2 hpl).imp fun σ H Q h => isi_imp h
end

/-! ### comparisons as tests -/
def bT (f : M PyData) : M Bool := fun ρ => (f ρ).bind fun p => match p.1 with
  | .bool b => some (b, p.2)
  | _ => none
theorem bT_imp {K : PySem.W.Frag} {f : M PyData} {σ : St} {H : Hp} {Q : Bool → Hp → Prop} (h : bD K (bT f) σ H Q) : eD K f σ H (fun x H' => ∃ k, x = .bl k ∧ Q k H') := by
  obtain ⟨F, G0, G, ρ, b, ρ', R, hf, q⟩ := h
  unfold bT at hf
  cases e1 : f ρ with
  | none => rw [e1] at hf; cases hf
  | some p =>
    rw [e1] at hf
    simp only [Option.bind_some] at hf
    split at hf
    · rename_i b' eb
      cases hf
      refine ⟨F, G0, G, ρ, p.1, p.2, R, e1, fun v G1 H1 x1 R1 r1 => ?_⟩
      rw [eb] at r1
      cases r1
      exact ⟨_, rfl, q G1 H1 x1 R1⟩
    · cases hf
theorem chain_imp {K : PySem.W.Frag} {f g h : M PyData} {k k' : PyData → PyData → Option PyData} {σ : St} {H : Hp} {Q : VK} (hh : eD K (eChain f g h k k') σ H Q) : tChain (rD K k) (rD K k') (eD K f) (eD K g) (eD K h) σ H Q := by
  obtain ⟨F, G0, G, ρ, d, ρ', R, hf, q⟩ := hh
  unfold eChain at hf
  cases e1 : f ρ with
  | none => rw [e1] at hf; cases hf
  | some p =>
    rw [e1] at hf
    simp only [Option.bind_some] at hf
    cases e2 : g p.2 with
    | none => rw [e2] at hf; cases hf
    | some p2 =>
      rw [e2] at hf
      simp only [Option.bind_some] at hf
      cases e3 : k p.1 p2.1 with
      | none => rw [e3] at hf; cases hf
      | some z =>
        rw [e3] at hf
        simp only [Option.bind_some] at hf
        refine ⟨F, G0, G, ρ, p.1, p.2, R, e1, fun v G1 H1 x1 R1 r1 => ⟨F, G0, G1, p.2, p2.1, p2.2, R1, e2, fun u G2 H2 x2 R2 r2 => ?_⟩⟩
        refine ⟨F, G0, G2, σ, p2.2, p.1, p2.1, z, R2, (Rp.sub x2.sub _ _ r1).top R2.sub, r2.top R2.sub, e3, fun v' G3 H3 x3 R3 r3 => ?_⟩
        split at hf
        · cases e4 : h p2.2 with
          | none => rw [e4] at hf; cases hf
          | some p4 =>
            rw [e4] at hf
            simp only [Option.bind_some] at hf
            cases e5 : k' p2.1 p4.1 with
            | none => rw [e5] at hf; cases hf
            | some w =>
              rw [e5] at hf; cases hf
              cases r3
              refine ⟨true, rfl, ?_⟩
              rw [if_pos rfl]
              refine ⟨F, G0, G3, p2.2, p4.1, p4.2, R3, e4, fun v4 G4 H4 x4 R4 r4 => ?_⟩
              exact ⟨F, G0, G4, σ, p4.2, p2.1, p4.1, d, R4, (Rp.sub (x3.trans x4).sub _ _ r2).top R4.sub, r4.top R4.sub, e5, fun v' G' H' x5 R5 r5 => q v' G' H' (x1.trans (x2.trans (x3.trans (x4.trans x5)))) R5 r5⟩
        · cases hf
          cases r3
          refine ⟨false, rfl, ?_⟩
          rw [if_neg Bool.false_ne_true]
          exact q (.bl false) G3 H3 (x1.trans (x2.trans x3)) R3 (.bl false)
        · cases hf
section
variable {X : Cx}
theorem db_cmp {a b : Expr} {op : CmpOp} {pos : Pos} {f g : Opd} {k : PyData → PyData → Option PyData} (ho : OpR X (compareOp op) (rD X.K k)) (ha : PE X a (oD X.K f)) (hb : PE X b (oD X.K g)) (hm : behindInMarks op b = false := by first | exact nomark _ | rfl) : PT X (.Compare a [op] [b] pos) (bD X.K (bT (e2 f g k))) :=
  (pt_cmpR ho ha hb hm).imp fun σ H Q h => op_imp (bT_imp h)
theorem db_chain {a b c : Expr} {op op' : CmpOp} {pos : Pos} {f g h : M PyData} {k k' : PyData → PyData → Option PyData} (ho : OpR X (compareOp op) (rD X.K k)) (ho' : OpR X (compareOp op') (rD X.K k')) (ha : PE X a (eD X.K f)) (hb : PE X b (eD X.K g)) (hc : PE X c (eD X.K h))
    (hm : lastMarks [op, op'] [b, c] = false := by with_unfolding_all rfl) : PT X (.Compare a [op, op'] [b, c] pos) (bD X.K (bT (eChain f g h k k'))) :=
  (pt_chain ho ho' ha hb hc hm).imp fun σ H Q h => chain_imp (bT_imp h)
end
theorem bt_isinstance : bootBuiltins "isinstance" = some (.builtin "isinstance") := PyProof.Rows.boot_isinstance
theorem bt_type_int : bootBuiltins "int" = some (.type "int") := bt_int
end PD
namespace PD
open PySem PySem.Spec PyProof.Rows L2
theorem bt_bool : bootBuiltins "bool" = some (.type "bool") := by decide +kernel
theorem bt_str : bootBuiltins "str" = some (.type "str") := by decide +kernel
theorem bt_dict : bootBuiltins "dict" = some (.type "dict") := by decide +kernel
/-! the parts that all laws have: printed by gen.py -/
def body__law_mixed : MS := (sSeq (sSet 2 (e2 (oE (e1 (oE (e2 (oE (e2 (oE (e2 (oE (eVar 0)) (oE (eC (.int 48271))) dMul)) (oE (e2 (oE (eVar 1)) (oE (eC (.int 69621))) dMul)) dAdd)) (oE (eC (.int 11))) dAdd)) dInt)) (oE (eC (.int 618970019642690137449562111))) dMod)) (sSeq (sSet 3 (e2 (oE (e1 (oE (e2 (oE (e2 (oE (e2 (oE (eVar 2)) (oE (eVar 2)) dMul)) (oE (e2 (oE (eC (.int 7))) (oE (eVar 2)) dMul)) dAdd)) (oE (eVar 1)) dAdd)) dInt)) (oE (eC (.int 162259276829213363391578010288127))) dMod)) (sSeq (sSet 4 (e2 (oE (e1 (oE (e2 (oE (e2 (oE (eVar 3)) (oE (eVar 3)) dMul)) (oE (eVar 2)) dAdd)) dInt)) (oE (eC (.int 618970019642690137449562111))) dMod)) (sRet (e2 (oE (e2 (oE (eVar 3)) (oE (eC (.int 618970019642690137449562111))) dMul)) (oE (eVar 4)) dAdd)))))
def _law_mixed_D : List PyData → Option PyData := runD 2 5 body__law_mixed
theorem len__law_mixed {ds : List PyData} {d : PyData} (h : _law_mixed_D ds = some d) : ds.length = 2 := runD_len h
def body__law_rest : MS := (sSeq (sSet 3 (eC (.int 0))) (sSeq (sIf (bT (e2 (oE (e1 (oE (eVar 0)) dLen)) (oE (eC (.int 0))) dGt)) (sSet 3 (e1 (oE (e2 (oE (eVar 0)) (oE (e2 (oE (e1 (oE (eVar 1)) dInt)) (oE (e1 (oE (eVar 0)) dLen)) dMod)) dIdx)) dInt)) sNil) (sSeq (sIf (bT (e2 (oE (eVar 3)) (oE (eC (.int 0))) dLt)) (sSet 3 (e2 (oE (eC (.int 1))) (oE (e2 (oE (eC (.int 2))) (oE (eVar 3)) dMul)) dSub)) sNil) (sSeq (sIf (bAnd (bT (e2 (oE (eVar 2)) (oE (eC (.int 0))) dEq)) (bAnd (bT (e2 (oE (eVar 1)) (oE (e1 (oE (eVar 0)) dLen)) dLt)) (bT (e2 (oE (eVar 3)) (oE (e2 (oE (eC (.int 10))) (oE (eC (.int 18))) dPow)) dGe)))) (sRet (e2 (oE (eVar 3)) (oE (e2 (oE (eC (.int 10))) (oE (eC (.int 18))) dPow)) dSub)) sNil) (sRet (eCall (aCons (e2 (oE (eVar 3)) (oE (e2 (oE (eVar 2)) (oE (eC (.int 1000003))) dMul)) dAdd) (aCons (eVar 1) aNil)) _law_mixed_D))))))
def _law_rest_D : List PyData → Option PyData := runD 3 4 body__law_rest
theorem len__law_rest {ds : List PyData} {d : PyData} (h : _law_rest_D ds = some d) : ds.length = 3 := runD_len h
def body__law_pool : MS := (sRetN (nLst (aCons (eVar 0) (aCons (eC (.int 0)) (aCons (eCall (aCons (eVar 0) (aCons (eC (.int 0)) (aCons (eC (.int 0)) aNil))) _law_rest_D) (aCons (eC (.int 0)) aNil))))))
def _law_pool_D : List PyData → Option (List PyData) := runN 1 1 body__law_pool
theorem len__law_pool {ds : List PyData} {d : List PyData} (h : _law_pool_D ds = some d) : ds.length = 1 := runN_len h
def body__law_next : MS := (sSeq (sSetIx 0 (e2 (oE (e2 (oOwn 0) (oE (eC (.int 1))) dIdx)) (oE (eC (.int 1))) dAdd) (eC (.int 1))) (sSeq (sSetIx 0 (eCall (aCons (e2 (oOwn 0) (oE (eC (.int 0))) dIdx) (aCons (e2 (oOwn 0) (oE (eC (.int 1))) dIdx) (aCons (eC (.int 0)) aNil))) _law_rest_D) (eC (.int 2))) (sSetIx 0 (eC (.int 0)) (eC (.int 3)))))
def _law_next_D : List PyData → List PyData → Option (PyData × List PyData) := runP 0 1 body__law_next
theorem len__law_next {ps ds : List PyData} {d : PyData × List PyData} (h : _law_next_D ps ds = some d) : ds.length = 0 := runP_len h
def body__law_draw : MS := (sSeq (sIf (bT (e2 (oE (e2 (oOwn 0) (oE (eC (.int 2))) dIdx)) (oE (eC (.int 1))) dLe)) (sSeq (sSetIx 0 (e2 (oE (e2 (oOwn 0) (oE (eC (.int 3))) dIdx)) (oE (eC (.int 1))) dAdd) (eC (.int 3))) (sSetIx 0 (eCall (aCons (e2 (oOwn 0) (oE (eC (.int 0))) dIdx) (aCons (e2 (oOwn 0) (oE (eC (.int 1))) dIdx) (aCons (e2 (oOwn 0) (oE (eC (.int 3))) dIdx) aNil))) _law_rest_D) (eC (.int 2)))) sNil) (sSeq (sSet 2 (e2 (oE (e1 (oE (e2 (oOwn 0) (oE (eC (.int 2))) dIdx)) dInt)) (oE (eVar 1)) dMod)) (sSeq (sSetIx 0 (e2 (oE (e1 (oE (e2 (oOwn 0) (oE (eC (.int 2))) dIdx)) dInt)) (oE (eVar 1)) dDiv) (eC (.int 2))) (sRet (eVar 2)))))
def _law_draw_D : List PyData → List PyData → Option (PyData × List PyData) := runP 1 3 body__law_draw
theorem len__law_draw {ps ds : List PyData} {d : PyData × List PyData} (h : _law_draw_D ps ds = some d) : ds.length = 1 := runP_len h
def body__law_same (rec : List PyData → Option PyData) : MS := (sSeq (sIf (bT (e2 (oE (eVar 1)) (oE (eC .none)) (dIsN true))) (sRet (e2 (oE (eVar 0)) (oE (eC .none)) (dIsN true))) sNil) (sSeq (sIf (bT (e2 (oE (eVar 1)) (oE (eC (.bool true))) (dIsN true))) (sRet (e2 (oE (eVar 0)) (oE (eC (.bool true))) (dIsN true))) sNil) (sSeq (sIf (bT (e2 (oE (eVar 1)) (oE (eC (.bool false))) (dIsN true))) (sRet (e2 (oE (eVar 0)) (oE (eC (.bool false))) (dIsN true))) sNil) (sSeq (sIf (b1 (oE (e1 (oE (eVar 1)) (dIsi "int"))) dTru) (sRet (eAnd (e1 (oE (eVar 0)) (dIsi "int")) (eAnd (eNot (oE (e1 (oE (eVar 0)) (dIsi "bool")))) (e2 (oE (eVar 0)) (oE (eVar 1)) dEq)))) sNil) (sSeq (sIf (b1 (oE (e1 (oE (eVar 1)) (dIsi "str"))) dTru) (sRet (eAnd (e1 (oE (eVar 0)) (dIsi "str")) (e2 (oE (eVar 0)) (oE (eVar 1)) dEq))) sNil) (sSeq (sIf (b1 (oE (e1 (oE (eVar 1)) (dIsi "dict"))) dTru) sNever sNil) (sSeq (sIf (bOr (bT (e2 (oE (e1 (oE (eVar 0)) (dIsi "tuple"))) (oE (e1 (oE (eVar 1)) (dIsi "tuple"))) dNe)) (bT (e2 (oE (e1 (oE (eVar 0)) (dIsi "list"))) (oE (e1 (oE (eVar 1)) (dIsi "list"))) dNe))) (sRet (eC (.bool false))) sNil) (sSeq (sIf (bT (e2 (oE (e1 (oE (eVar 0)) dLen)) (oE (e1 (oE (eVar 1)) dLen)) dNe)) (sRet (eC (.bool false))) sNil) (sSeq (sFor (iRange dRange1 (aCons (e1 (oE (eVar 1)) dLen) aNil)) (asName 2) (sIf (bNot (b1 (oE (eCall (aCons (e2 (oE (eVar 0)) (oE (eVar 2)) dIdx) (aCons (e2 (oE (eVar 1)) (oE (eVar 2)) dIdx) aNil)) rec)) dTru)) (sRet (eC (.bool false))) sNil)) (sRet (eC (.bool true))))))))))))
def _law_same_D : Nat → List PyData → Option PyData
  | 0 => fun _ => none
  | n + 1 => runD 2 4 (body__law_same (_law_same_D n))
theorem len__law_same {n : Nat} {ds : List PyData} {d : PyData} (h : _law_same_D n ds = some d) : ds.length = 2 := by cases n with
  | zero => cases h
  | succ n => exact runD_len h
def body__law_pick : MS := (sRet (e2 (oE (eVar 1)) (oE (eCallP 0 (aCons (e1 (oE (eVar 1)) dLen) aNil) _law_draw_D)) dIdx))
def _law_pick_D : List PyData → List PyData → Option (PyData × List PyData) := runP 1 2 body__law_pick
theorem len__law_pick {ps ds : List PyData} {d : PyData × List PyData} (h : _law_pick_D ps ds = some d) : ds.length = 1 := runP_len h
end PD
namespace PD
open PySem PySem.Spec PyProof.Rows L2
/-! ### xs[lo:hi:st] of a list: a new list -/
def pickD {α : Type} (xs : List α) (lo hi st : Option Int) : List α := (sliceRange (sliceBounds lo hi st xs.length).1 (sliceBounds lo hi st xs.length).2.1 (sliceBounds lo hi st xs.length).2.2).filterMap (xs[·]?)
def dStp (d : PyData) (lo hi st : Option Int) : Option (List PyData) := match d with
  | .list ds => if st ≠ some 0 ∧ (pickD ds lo hi st).length ≤ sizeLine then some (pickD ds lo hi st) else none
  | _ => none
theorem RpAll.pick0 {K : PySem.W.Frag} {G : Hp} {vs : List V} {ds : List PyData} (h : RpAll K G vs ds) : ∀ (is : List Nat), RpAll K G (is.filterMap (vs[·]?)) (is.filterMap (ds[·]?))
  | [] => .nil
  | i :: is => by
    have hl := h.length
    by_cases hi : i < vs.length
    · have e1 : vs[i]? = some vs[i] := List.getElem?_eq_getElem hi
      have e2 : ds[i]? = some (ds[i]'(by omega)) := List.getElem?_eq_getElem (by omega)
      rw [List.filterMap_cons_some e1, List.filterMap_cons_some e2]
      exact .cons ((RpAll.iff.mp h).2 i _ _ e1 e2) (RpAll.pick0 h is)
    · have e1 : vs[i]? = none := List.getElem?_eq_none (by omega)
      have e2 : ds[i]? = none := List.getElem?_eq_none (by omega)
      rw [List.filterMap_cons_none e1, List.filterMap_cons_none e2]
      exact RpAll.pick0 h is
theorem Vals.pick0 {xs : List V} {us : List Value} (h : Vals xs us) : ∀ (is : List Nat), Vals (is.filterMap (xs[·]?)) (is.filterMap (us[·]?))
  | [] => .nil
  | i :: is => by
    have hl := h.length
    by_cases hi : i < xs.length
    · have e1 : xs[i]? = some xs[i] := List.getElem?_eq_getElem hi
      obtain ⟨u, e2, r⟩ := h.get e1
      rw [List.filterMap_cons_some e1, List.filterMap_cons_some e2]
      exact .cons r (Vals.pick0 h is)
    · have e1 : xs[i]? = none := List.getElem?_eq_none (by omega)
      have e2 : us[i]? = none := List.getElem?_eq_none (by omega)
      rw [List.filterMap_cons_none e1, List.filterMap_cons_none e2]
      exact Vals.pick0 h is
section
variable {X : Cx}
def tStp (te : TE) (tl th ts : TO) (K : PySem.W.Frag) : TE := fun σ H Q => te σ H fun x H1 => tl σ H1 fun l H2 => th σ H2 fun u H3 => ts σ H3 fun st H4 => ∃ a xs, x = .ref a ∧ SqL K H4 a xs ∧ st ≠ some 0 ∧ (pickD xs l u st).length ≤ sizeLine ∧
  ∀ p, H4 p = none → Q (.ref p) (upd H4 p (.lst (pickD xs l u st)))
theorem pe_stp {e : Expr} {te : TE} {tl th ts : TO} {lo hi : Option Expr} {st : Expr} {p2 pos : Pos} (he : PE X e te) (hl : PO X lo tl) (hu : PO X hi th) (hs : PO X (some st) ts) : PE X (.Subscript e (.Slice lo hi (some st) p2) pos) (tStp te tl th ts X.K) := by
  refine ⟨fun pins s σ H Q I h => ?_⟩
  refine Subscript_ (thn (he.run pins s σ H _ I h) fun v s1 ⟨x, H1, I1, r1, q1⟩ => ?_)
  refine wpAny_Slice (thn (hl.run pins s1 σ H1 _ I1 q1) fun vl s2 ⟨l, H2, I2, pl, q2⟩ => thn (hu.run pins s2 σ H2 _ I2 q2) fun vu s3 ⟨u, H3, I3, pu, q3⟩ => thn (hs.run pins s3 σ H3 _ I3 q3) fun vs s4 ⟨o, H4, I4, ps, q4⟩ => ?_)
  obtain ⟨a, xs, ex, hx, h0, hz', q⟩ := q4
  subst ex
  cases r1
  have I5 : Inv X pins σ H4 { s4 with heap := s4.heap.push { cls := .type "slice", data := .fields #[vl, vu, vs] } } := I4.kept (t' := s4.toks) fun b ob q => Heap.get?_push_of_some _ q
  obtain ⟨its, r, ht, hz⟩ := I5.list hx
  have hlen := r.length
  show wpAny (model X.prog X.w) X.A (subscriptTail e (.Slice lo hi (some st) p2) (.ref a) (.ref s4.heap.objs.size)) (EP X pins σ Q) X.xe { s4 with heap := s4.heap.push { cls := .type "slice", data := .fields #[vl, vu, vs] } }
  refine tail_any (ops := [.ref a, .ref s4.heap.objs.size]) ht.isList.typeIs (PySem.slot_list_getitem.lookup) ?_ (by with_unfolding_all rfl)
  refine wpAny_getItem_list_slice ht.isList (Heap.IsSliceOf.new _ vl vu vs) pl pu ps h0 ?_ (by rw [List.size_toArray]; omega)
  have ep : slicePick its.toArray l u o = (pickD its l u o).toArray := by
    unfold slicePick pickD
    rw [List.size_toArray]
    congr 2
    funext i
    simp
  rw [ep]
  have hv : Vals (pickD xs l u o) (pickD its l u o) := by
    unfold pickD
    rw [← hlen]
    exact Vals.pick0 r _
  refine ⟨.ref _, _, I5.laid (t' := s4.toks) (o := .lst (pickD xs l u o)) (fun b ob q => Heap.get?_push_of_some _ q) (Nat.le_refl _) ?_, rfl, q _ (I5.hok.fresh (Nat.le_refl _))⟩
  exact ⟨hz', _, 0, hv, Heap.get?_push_size _ rfl⟩
def nStp (f : Opd) (lo hi st : MO) : M (List PyData) := fun ρ => (f ρ).bind fun p => (lo p.2).bind fun l => (hi l.2).bind fun h => (st h.2).bind fun s => (p.1 s.2).bind fun d => (dStp d l.1 h.1 s.1).bind fun z => some (z, s.2)
theorem stp_imp {K : PySem.W.Frag} {f : Opd} {lo hi st : MO} {σ : St} {H : Hp} {Q : VK} (h : nD K (nStp f lo hi st) σ H Q) : tStp (oD K f) (poD K lo) (poD K hi) (poD K st) K σ H Q := by
  obtain ⟨F, G0, G, ρ, d, ρ', R, hf, q⟩ := h
  unfold nStp at hf
  cases e1 : f ρ with
  | none => rw [e1] at hf; cases hf
  | some p =>
    rw [e1] at hf; simp only [Option.bind_some] at hf
    cases e2 : lo p.2 with
    | none => rw [e2] at hf; cases hf
    | some l =>
      rw [e2] at hf; simp only [Option.bind_some] at hf
      cases e3 : hi l.2 with
      | none => rw [e3] at hf; cases hf
      | some u =>
        rw [e3] at hf; simp only [Option.bind_some] at hf
        cases e4 : st u.2 with
        | none => rw [e4] at hf; cases hf
        | some s =>
          rw [e4] at hf; simp only [Option.bind_some] at hf
          cases e5 : p.1 s.2 with
          | none => rw [e5] at hf; cases hf
          | some x =>
            rw [e5] at hf; simp only [Option.bind_some] at hf
            cases e6 : dStp x l.1 u.1 s.1 with
            | none => rw [e6] at hf; cases hf
            | some z =>
              rw [e6] at hf; cases hf
              refine ⟨F, G0, G, ρ, p.1, p.2, R, e1, fun v G1 H1 x1 R1 t1 => ⟨F, G0, G1, p.2, l.1, l.2, R1, e2, fun G2 H2 x2 R2 => ⟨F, G0, G2, l.2, u.1, u.2, R2, e3, fun G3 H3 x3 R3 => ⟨F, G0, G3, u.2, s.1, s.2, R3, e4, fun G4 H4 x4 R4 => ?_⟩⟩⟩⟩
              have t := t1 G4 H4 s.2 x (x2.trans (x3.trans x4)) R4 e5
              unfold dStp at e6
              split at e6
              · rename_i ds
                split at e6
                · rename_i hc
                  cases e6
                  obtain ⟨a, xs, rfl, h1, h2⟩ := t
                  have el : pickD xs l.1 u.1 s.1 = (sliceRange (sliceBounds l.1 u.1 s.1 ds.length).1 (sliceBounds l.1 u.1 s.1 ds.length).2.1 (sliceBounds l.1 u.1 s.1 ds.length).2.2).filterMap (xs[·]?) := by unfold pickD; rw [h2.length]
                  have hr : RpAll K G4 (pickD xs l.1 u.1 s.1) (pickD ds l.1 u.1 s.1) := by rw [el]; exact RpAll.pick0 h2 _
                  exact ⟨a, xs, rfl, h1, hc.1, by rw [hr.length]; exact hc.2, fun p' hp => q p' _ G4 _ (x1.trans (x2.trans (x3.trans x4))) (R4.laid hp) upd_same (R4.loose hp) hr⟩
                · cases e6
              · cases e6
theorem dn_stp {e : Expr} {lo hi : Option Expr} {st : Expr} {p2 pos : Pos} {f : Opd} {g h k : MO} (he : PE X e (oD X.K f)) (hl : PO X lo (poD X.K g)) (hh : PO X hi (poD X.K h)) (hs : PO X (some st) (poD X.K k)) : PE X (.Subscript e (.Slice lo hi (some st) p2) pos) (nD X.K (nStp f g h k)) :=
  (pe_stp he hl hh hs).imp fun σ H Q h => stp_imp h
/-! ### a + b of lists as a new list -/
def n2 (f g : Opd) (k : PyData → PyData → Option (List PyData)) : M (List PyData) := fun ρ => (f ρ).bind fun p => (g p.2).bind fun q => (p.1 q.2).bind fun x => (q.1 q.2).bind fun y => (k x y).bind fun z => some (z, q.2)
def rNl (K : PySem.W.Frag) (k : PyData → PyData → Option (List PyData)) : R2 := fun x y H Q => ∃ F G0 G σ ρ dx dy zs, Rel K F G0 G H σ ρ ∧ RpTop K G H x dx ∧ RpTop K G H y dy ∧ k dx dy = some zs ∧
  ∀ a ys G' H', Ext G G' → Rel K F G0 G' H' σ ρ → H' a = some (.lst ys) → Loose F G' σ ρ a → RpAll K G' ys zs → Q (.ref a) H'
theorem n2_imp {K : PySem.W.Frag} {f g : Opd} {k : PyData → PyData → Option (List PyData)} {σ : St} {H : Hp} {Q : VK} (h : nD K (n2 f g k) σ H Q) : tOp (rNl K k) (oD K f) (oD K g) σ H Q := by
  obtain ⟨F, G0, G, ρ, d, ρ', R, hf, q⟩ := h
  unfold n2 at hf
  cases e1 : f ρ with
  | none => rw [e1] at hf; cases hf
  | some p =>
    rw [e1] at hf; simp only [Option.bind_some] at hf
    cases e2 : g p.2 with
    | none => rw [e2] at hf; cases hf
    | some r =>
      rw [e2] at hf; simp only [Option.bind_some] at hf
      cases e3 : p.1 r.2 with
      | none => rw [e3] at hf; cases hf
      | some x =>
        rw [e3] at hf; simp only [Option.bind_some] at hf
        cases e4 : r.1 r.2 with
        | none => rw [e4] at hf; cases hf
        | some y =>
          rw [e4] at hf; simp only [Option.bind_some] at hf
          cases e5 : k x y with
          | none => rw [e5] at hf; cases hf
          | some z =>
            rw [e5] at hf; cases hf
            refine ⟨F, G0, G, ρ, p.1, p.2, R, e1, fun v G1 H1 x1 R1 t1 => ⟨F, G0, G1, p.2, r.1, r.2, R1, e2, fun u G2 H2 x2 R2 t2 => ?_⟩⟩
            exact ⟨F, G0, G2, σ, r.2, x, y, _, R2, t1 G2 H2 r.2 x x2 R2 e3, t2 G2 H2 r.2 y (Ext.refl _) R2 e4, e5, fun a ys G' H' x3 R3 hH l r => q a ys G' H' (x1.trans (x2.trans x3)) R3 hH l r⟩
def dCat : PyData → PyData → Option (List PyData)
  | .list a, .list b => if a.length + b.length ≤ sizeLine then some (a ++ b) else none
  | _, _ => none
theorem op_cat_ : OpR X (binaryOp .Add) (rNl X.K dCat) := by
  intro pins s σ H x y v u Q I rx ry h
  obtain ⟨F, G0, G, σ', ρ, dx, dy, dz, R, tx, ty, hk, q⟩ := h
  unfold dCat at hk
  split at hk
  · obtain ⟨a, xs, rfl, h1, h2⟩ := tx
    obtain ⟨b, ys, rfl, h3, h4⟩ := ty
    split at hk
    · rename_i hz
      cases hk
      cases rx; cases ry
      exact op_catL I h1 h3 (by rw [h2.length, h4.length]; exact hz) fun p hp => q p _ G _ (Ext.refl _) (R.laid hp) upd_same (R.loose hp) (h2.append h4)
    · cases hk
  · cases hk
theorem dn_add {a b : Expr} {pos : Pos} {f g : Opd} (ha : PE X a (oD X.K f)) (hb : PE X b (oD X.K g)) : PE X (.BinOp a .Add b pos) (nD X.K (n2 f g dCat)) :=
  (pe_op op_cat_ ha hb).imp fun σ H Q h => n2_imp h
/-! ### [..] * n -/
def nRep (f : M (List PyData)) (g : M PyData) : M (List PyData) := fun ρ => (f ρ).bind fun p => (g p.2).bind fun q => match q.1 with
  | .int k => if -(2 ^ 63) ≤ k ∧ k < 2 ^ 63 ∧ p.1.length * k.toNat ≤ sizeLine then some ((List.replicate k.toNat p.1).flatten, q.2) else none
  | _ => none
theorem RpAll.rep {K : PySem.W.Frag} {G : Hp} {vs : List V} {ds : List PyData} (h : RpAll K G vs ds) : ∀ n : Nat, RpAll K G (List.replicate n vs).flatten (List.replicate n ds).flatten
  | 0 => .nil
  | n + 1 => by rw [List.replicate_succ, List.replicate_succ, List.flatten_cons, List.flatten_cons]; exact h.append (RpAll.rep h n)
theorem rep_imp {K : PySem.W.Frag} {f : M (List PyData)} {g : M PyData} {σ : St} {H : Hp} {Q : VK} (h : nD K (nRep f g) σ H Q) : tOp rRep (nD K f) (eD K g) σ H Q := by
  obtain ⟨F, G0, G, ρ, d, ρ', R, hf, q⟩ := h
  unfold nRep at hf
  cases e1 : f ρ with
  | none => rw [e1] at hf; cases hf
  | some p =>
    rw [e1] at hf; simp only [Option.bind_some] at hf
    cases e2 : g p.2 with
    | none => rw [e2] at hf; cases hf
    | some r =>
      rw [e2] at hf; simp only [Option.bind_some] at hf
      split at hf
      · rename_i k hk
        split at hf
        · rename_i hc
          cases hf
          refine ⟨F, G0, G, ρ, p.1, p.2, R, e1, fun a xs G1 H1 x1 R1 hH L r1 => ?_⟩
          refine ⟨F.put a (.lst xs), G0, G1, p.2, r.1, r.2, R1.guard hH L.1 L.2.2, e2, fun v G2 H2 x2 R2 r2 => ?_⟩
          rw [hk] at r2
          cases r2
          have hk2 : H2 a = some (.lst xs) := R2.keep a _ (by show upd F.hp a (.lst xs) a = _; exact upd_same)
          have R3 := R2.unguard L.2.1
          refine ⟨a, k, xs, rfl, rfl, hk2, hc.1, hc.2.1, by rw [r1.length]; exact hc.2.2, fun p' hp => ?_⟩
          exact q p' _ G2 _ (x1.trans x2) (R3.laid hp) upd_same (R3.loose hp) ((RpAll.sub x2.sub _ _ r1).rep _)
        · cases hf
      · cases hf
theorem dn_rep {a b : Expr} {pos : Pos} {f : M (List PyData)} {g : M PyData} (ha : PE X a (nD X.K f)) (hb : PE X b (eD X.K g)) : PE X (.BinOp a .Mult b pos) (nD X.K (nRep f g)) :=
  (pe_op op_rep ha hb).imp fun σ H Q h => rep_imp h
end
end PD
namespace PD
open PySem PySem.Spec PyProof.Rows L2
def spLaw (K : PySem.W.Frag) : Sp := fun vs H Q _ => ∃ (a : Addr) (ns : List Int), vs = [.ref a] ∧ SqL K H a (ns.map V.int) ∧ ns.length ≤ 63 ∧ ∀ H', Q (.bl true) H'
theorem law_imp {K : PySem.W.Frag} {f : List PyData → Option PyData} (h : ∀ ns : List Int, ns.length ≤ 63 → f [.list (ns.map .int)] = some (.bool true)) : ∀ vs H Q E, spLaw K vs H Q E → spD K 1 f vs H Q E := by
  intro vs H Q E ⟨a, ns, e, hs, hl, q⟩
  subst e
  refine ⟨H, [.list (ns.map .int)], .bool true, rfl, .cons (.lst hs (ints_rp ns)) .nil, fun _ _ x => x, h ns hl, fun v G' H' _ _ _ _ r => ?_⟩
  cases r
  exact q H'
theorem walk {k : Nat} {l : PySem.W.OpenLaw} {q : Program} {loose : List Str} {XP : (Str → Option Value) → Heap → Prop} {YP : World → Heap → Prop} {d : DefRec} {K : Params → PySem.W.Frag} (hr : Room k callerA) (hn : l.most = some 63) (hdf : d.params.defaults = [])
    (hY : ∀ (w : World) (h : Heap), YP w h → (K w.params).In h)
    (F : ∀ (w : World) (mg : Str → Option Value) (fa : Addr) (h : Heap), (K w.params).In h → h.Ns mainGlobals mg → mg d.name = some (.ref fa) →
      ∃ fd : FuncData, (∀ (s : Shared) (u : Value), BindsTo s fd ⟨[u], []⟩ [("script", u)]) ∧ ∀ base : Heap, (K w.params).In base → base.Ns mainGlobals mg → FnOk l.prog w (K w.params) mg base CX0 k fa fd ["script"] (spLaw (K w.params))) :
    PySem.W.WalkO q loose XP YP l.row.toRowW d [] (fun f vs => PySem.call f vs) :=
  L2.walk_of (n := 63) (k := k) (x := "script") (CX := fun _ => CX0) (sp := fun w => spLaw (K w.params)) hn (by decide) hdf hr hY F (fun _ _ a ns hl _ hS => ⟨a, ns, rfl, hS, hl, fun _ => rfl⟩) fun _ _ _ _ _ z => z
end PD
namespace PD
open PySem PySem.Spec L2

/-! ### stepping through the shallow functions by simp -/
/-- the next step with what was found; its continuation stands unapplied, so that simp leaves it alone until its turn -/
def kb {α β : Type} (r : Option (α × Rho)) (k : α → Rho → Option β) : Option β := r.bind fun p => k p.1 p.2
@[simp] theorem kb_some {α β : Type} (a : α) (ρ : Rho) (k : α → Rho → Option β) : kb (some (a, ρ)) k = k a ρ := (rfl)
@[simp] theorem kb_none {α β : Type} (k : α → Rho → Option β) : kb none k = none := (rfl)
def kv {α β : Type} (r : Option α) (k : α → Option β) : Option β := r.bind k
@[simp] theorem kv_some {α β : Type} (a : α) (k : α → Option β) : kv (some a) k = k a := (rfl)
@[simp] theorem kv_none {α β : Type} (k : α → Option β) : kv none k = none := (rfl)
/-- a condition's two roads, untouched until it is known -/
def kIf {α : Type} (c : Bool) (f g : Rho → Option α) (ρ : Rho) : Option α := if c then f ρ else g ρ
@[simp] theorem kIf_tt {α : Type} (f g : Rho → Option α) (ρ : Rho) : kIf true f g ρ = f ρ := (rfl)
@[simp] theorem kIf_ff {α : Type} (f g : Rho → Option α) (ρ : Rho) : kIf false f g ρ = g ρ := (rfl)
def kGd {α : Type} (c : Prop) [Decidable c] (r : Option α) : Option α := if c then r else none
theorem kGd_of {α : Type} {c : Prop} [Decidable c] {r : Option α} (h : c) : kGd c r = r := if_pos h
@[simp] theorem kGd_true {α : Type} [Decidable True] (r : Option α) : kGd True r = r := if_pos trivial
def frOf (ρ : Rho) : Option (Option EV) → Option (PyData × Rho)
  | some (some (.fr d)) => some (d, ρ)
  | _ => none
@[simp] theorem frOf_fr (ρ d) : frOf ρ (some (some (.fr d))) = some (d, ρ) := (rfl)
@[simp] theorem eVar_app (i ρ) : eVar i ρ = frOf ρ ρ[i]? := by unfold eVar frOf; rcases ρ[i]? with _ | _ | _ | _ <;> rfl
@[simp] theorem eC_app (d ρ) : eC d ρ = some (d, ρ) := (rfl)
@[simp] theorem aNil_app (ρ) : aNil ρ = some ([], ρ) := (rfl)
def aConsK2 (x : PyData) (y : List PyData) (ρ : Rho) : Option (List PyData × Rho) := some (x :: y, ρ)
@[simp] theorem aConsK2_app (x y ρ) : aConsK2 x y ρ = some (x :: y, ρ) := (rfl)
def aConsK (g : M (List PyData)) (x : PyData) (ρ : Rho) : Option (List PyData × Rho) := kb (g ρ) (aConsK2 x)
@[simp] theorem aConsK_app (g x ρ) : aConsK g x ρ = kb (g ρ) (aConsK2 x) := (rfl)
@[simp] theorem aCons_app (f g ρ) : aCons f g ρ = kb (f ρ) (aConsK g) := (rfl)
def eNK (ds : List PyData) (ρ : Rho) : Option (PyData × Rho) := some (.list ds, ρ)
@[simp] theorem eNK_app (ds ρ) : eNK ds ρ = some (.list ds, ρ) := (rfl)
@[simp] theorem eN_app (f ρ) : eN f ρ = kb (f ρ) eNK := (rfl)
def oEK (d : PyData) (ρ : Rho) : Option ((Rho → Option PyData) × Rho) := some (fun _ => some d, ρ)
@[simp] theorem oEK_app (d ρ) : oEK d ρ = some (fun _ => some d, ρ) := (rfl)
@[simp] theorem oE_app (f ρ) : oE f ρ = kb (f ρ) oEK := (rfl)
def owOf : Option (Option EV) → Option PyData
  | some (some e) => if e.own then some e.dat else none
  | _ => none
@[simp] theorem owOf_ol (d) : owOf (some (some (.ol d))) = some (.list d) := (rfl)
@[simp] theorem owOf_io (d) : owOf (some (some (.io d))) = some (.list d) := (rfl)
@[simp] theorem ownD_app (i : Nat) (ρ) : ownD ρ i = owOf ρ[i]? := by unfold ownD owOf; rcases ρ[i]? with _ | _ | _ <;> rfl
def oOwnK (i : Nat) (ρ : Rho) (_ : PyData) : Option ((Rho → Option PyData) × Rho) := some (fun ρ2 => ownD ρ2 i, ρ)
@[simp] theorem oOwnK_app (i ρ d) : oOwnK i ρ d = some (fun ρ2 => ownD ρ2 i, ρ) := (rfl)
@[simp] theorem oOwn_app (i : Nat) (ρ) : oOwn i ρ = kv (owOf ρ[i]?) (oOwnK i ρ) := by rw [← ownD_app]; rfl
def eTupK (ds : List PyData) (ρ : Rho) : Option (PyData × Rho) := kGd (ds.length ≤ sizeLine) (some (.tuple ds, ρ))
@[simp] theorem eTupK_app (ds ρ) : eTupK ds ρ = kGd (ds.length ≤ sizeLine) (some (.tuple ds, ρ)) := (rfl)
@[simp] theorem eTup_app (f ρ) : eTup f ρ = kb (f ρ) eTupK := (rfl)
def nLstK (ds : List PyData) (ρ : Rho) : Option (List PyData × Rho) := kGd (ds.length ≤ sizeLine) (some (ds, ρ))
@[simp] theorem nLstK_app (ds ρ) : nLstK ds ρ = kGd (ds.length ≤ sizeLine) (some (ds, ρ)) := (rfl)
@[simp] theorem nLst_app (f ρ) : nLst f ρ = kb (f ρ) nLstK := (rfl)
def retK {β : Type} (ρ : Rho) (z : β) : Option (β × Rho) := some (z, ρ)
@[simp] theorem retK_app {β : Type} (ρ : Rho) (z : β) : retK ρ z = some (z, ρ) := (rfl)
def e2K4 (k : PyData → PyData → Option PyData) (ρ : Rho) (x y : PyData) : Option (PyData × Rho) := kv (k x y) (retK ρ)
@[simp] theorem e2K4_app (k ρ x y) : e2K4 k ρ x y = kv (k x y) (retK ρ) := (rfl)
def e2K3 (k : PyData → PyData → Option PyData) (ρ : Rho) (q : Rho → Option PyData) (x : PyData) : Option (PyData × Rho) := kv (q ρ) (e2K4 k ρ x)
@[simp] theorem e2K3_app (k ρ q x) : e2K3 k ρ q x = kv (q ρ) (e2K4 k ρ x) := (rfl)
def e2K2 (k : PyData → PyData → Option PyData) (p q : Rho → Option PyData) (ρ : Rho) : Option (PyData × Rho) := kv (p ρ) (e2K3 k ρ q)
@[simp] theorem e2K2_app (k p q ρ) : e2K2 k p q ρ = kv (p ρ) (e2K3 k ρ q) := (rfl)
def e2K (k : PyData → PyData → Option PyData) (g : Opd) (p : Rho → Option PyData) (ρ : Rho) : Option (PyData × Rho) := kb (g ρ) (e2K2 k p)
@[simp] theorem e2K_app (k g p ρ) : e2K k g p ρ = kb (g ρ) (e2K2 k p) := (rfl)
@[simp] theorem e2_app (f g : Opd) (k ρ) : e2 f g k ρ = kb (f ρ) (e2K k g) := (rfl)
def e1K2 {β : Type} (k : PyData → Option β) (ρ : Rho) (x : PyData) : Option (β × Rho) := kv (k x) (retK ρ)
@[simp] theorem e1K2_app {β : Type} (k : PyData → Option β) (ρ x) : e1K2 k ρ x = kv (k x) (retK ρ) := (rfl)
def e1K {β : Type} (k : PyData → Option β) (p : Rho → Option PyData) (ρ : Rho) : Option (β × Rho) := kv (p ρ) (e1K2 k ρ)
@[simp] theorem e1K_app {β : Type} (k : PyData → Option β) (p ρ) : e1K k p ρ = kv (p ρ) (e1K2 k ρ) := (rfl)
@[simp] theorem e1_app (f : Opd) (k ρ) : e1 f k ρ = kb (f ρ) (e1K k) := (rfl)
@[simp] theorem b1_app (f : Opd) (k ρ) : b1 f k ρ = kb (f ρ) (e1K k) := (rfl)
@[simp] theorem n1_app (f : Opd) (k ρ) : n1 f k ρ = kb (f ρ) (e1K k) := (rfl)
def callK {α β : Type} (k : α → Option β) (ds : α) (ρ : Rho) : Option (β × Rho) := kv (k ds) (retK ρ)
@[simp] theorem callK_app {α β : Type} (k : α → Option β) (ds ρ) : callK k ds ρ = kv (k ds) (retK ρ) := (rfl)
@[simp] theorem eN__app (f k ρ) : eN_ f k ρ = kb (f ρ) (callK k) := (rfl)
@[simp] theorem eCall_app (f) (k : List PyData → Option PyData) (ρ) : eCall f k ρ = kb (f ρ) (callK k) := (rfl)
@[simp] theorem nCall_app (f) (k : List PyData → Option (List PyData)) (ρ) : nCall f k ρ = kb (f ρ) (callK k) := (rfl)
def bNotK (b : Bool) (ρ : Rho) : Option (Bool × Rho) := some (!b, ρ)
@[simp] theorem bNotK_app (b ρ) : bNotK b ρ = some (!b, ρ) := (rfl)
@[simp] theorem bNot_app (f : M Bool) (ρ) : bNot f ρ = kb (f ρ) bNotK := (rfl)
def ifK {α : Type} (f g : Rho → Option α) (c : Bool) (ρ : Rho) : Option α := kIf c f g ρ
@[simp] theorem ifK_app {α : Type} (f g : Rho → Option α) (c ρ) : ifK f g c ρ = kIf c f g ρ := (rfl)
def cB (b : Bool) (ρ : Rho) : Option (Bool × Rho) := some (b, ρ)
@[simp] theorem cB_app (b ρ) : cB b ρ = some (b, ρ) := (rfl)
@[simp] theorem bAnd_app (f g : M Bool) (ρ) : bAnd f g ρ = kb (f ρ) (ifK g (cB false)) := (rfl)
@[simp] theorem bOr_app (f g : M Bool) (ρ) : bOr f g ρ = kb (f ρ) (ifK (cB true) g) := (rfl)
def bTK (d : PyData) (ρ : Rho) : Option (Bool × Rho) := match d with
  | .bool b => some (b, ρ)
  | _ => none
@[simp] theorem bTK_app (b ρ) : bTK (.bool b) ρ = some (b, ρ) := (rfl)
@[simp] theorem bT_app (f : M PyData) (ρ) : bT f ρ = kb (f ρ) bTK := by
  unfold bT kb; rcases f ρ with _ | ⟨d, ρ'⟩
  · rfl
  · cases d <;> rfl
@[simp] theorem bYes_app (ρ) : bYes ρ = some (true, ρ) := (rfl)
def rtD (d : PyData) (ρ : Rho) : Option (PyData × Rho) := some (d, ρ)
@[simp] theorem rtD_app (d ρ) : rtD d ρ = some (d, ρ) := (rfl)
def eAndK2 (g : M PyData) (d : PyData) (ρ : Rho) (t : Bool) : Option (PyData × Rho) := kIf t g (rtD d) ρ
@[simp] theorem eAndK2_app (g d ρ t) : eAndK2 g d ρ t = kIf t g (rtD d) ρ := (rfl)
def eAndK (g : M PyData) (d : PyData) (ρ : Rho) : Option (PyData × Rho) := kv (dTru d) (eAndK2 g d ρ)
@[simp] theorem eAndK_app (g d ρ) : eAndK g d ρ = kv (dTru d) (eAndK2 g d ρ) := (rfl)
@[simp] theorem eAnd_app (f g : M PyData) (ρ) : eAnd f g ρ = kb (f ρ) (eAndK g) := (rfl)
def eOrK2 (g : M PyData) (d : PyData) (ρ : Rho) (t : Bool) : Option (PyData × Rho) := kIf t (rtD d) g ρ
@[simp] theorem eOrK2_app (g d ρ t) : eOrK2 g d ρ t = kIf t (rtD d) g ρ := (rfl)
def eOrK (g : M PyData) (d : PyData) (ρ : Rho) : Option (PyData × Rho) := kv (dTru d) (eOrK2 g d ρ)
@[simp] theorem eOrK_app (g d ρ) : eOrK g d ρ = kv (dTru d) (eOrK2 g d ρ) := (rfl)
@[simp] theorem eOr_app (f g : M PyData) (ρ) : eOr f g ρ = kb (f ρ) (eOrK g) := (rfl)
def dNotB (x : PyData) : Option PyData := (dTru x).bind fun t => some (.bool !t)
@[simp] theorem dNotB_bool (b) : dNotB (.bool b) = some (.bool !b) := (rfl)
@[simp] theorem eNot_app (f : Opd) (ρ) : eNot f ρ = e1 f dNotB ρ := (rfl)
@[simp] theorem eIf_app (c : M Bool) (f g : M PyData) (ρ) : eIf c f g ρ = kb (c ρ) (ifK f g) := (rfl)
def eChK4 (k' : PyData → PyData → Option PyData) (y z : PyData) (ρ : Rho) : Option (PyData × Rho) := kv (k' y z) (retK ρ)
@[simp] theorem eChK4_app (k' y z ρ) : eChK4 k' y z ρ = kv (k' y z) (retK ρ) := (rfl)
def eChK3a (h : M PyData) (k' : PyData → PyData → Option PyData) (y : PyData) (ρ : Rho) : Option (PyData × Rho) := kb (h ρ) (eChK4 k' y)
@[simp] theorem eChK3a_app (h k' y ρ) : eChK3a h k' y ρ = kb (h ρ) (eChK4 k' y) := (rfl)
def eChK3 (h : M PyData) (k' : PyData → PyData → Option PyData) (y : PyData) (ρ : Rho) (z : PyData) : Option (PyData × Rho) := match z with
  | .bool b => kIf b (eChK3a h k' y) (rtD (.bool false)) ρ
  | _ => none
@[simp] theorem eChK3_app (h k' y ρ b) : eChK3 h k' y ρ (.bool b) = kIf b (eChK3a h k' y) (rtD (.bool false)) ρ := (rfl)
def eChK2 (h : M PyData) (k k' : PyData → PyData → Option PyData) (x y : PyData) (ρ : Rho) : Option (PyData × Rho) := kv (k x y) (eChK3 h k' y ρ)
@[simp] theorem eChK2_app (h k k' x y ρ) : eChK2 h k k' x y ρ = kv (k x y) (eChK3 h k' y ρ) := (rfl)
def eChK (g h : M PyData) (k k' : PyData → PyData → Option PyData) (x : PyData) (ρ : Rho) : Option (PyData × Rho) := kb (g ρ) (eChK2 h k k' x)
@[simp] theorem eChK_app (g h k k' x ρ) : eChK g h k k' x ρ = kb (g ρ) (eChK2 h k k' x) := (rfl)
@[simp] theorem eChain_app (f g h k k' ρ) : eChain f g h k k' ρ = kb (f ρ) (eChK g h k k') := by
  unfold eChain kb
  rcases f ρ with _ | ⟨x, ρ1⟩
  · rfl
  · simp only [Option.bind_some]
    unfold eChK kb
    rcases g ρ1 with _ | ⟨y, ρ2⟩
    · rfl
    · simp only [Option.bind_some]
      unfold eChK2 kv
      rcases k x y with _ | z
      · rfl
      · cases z <;> try rfl
        rename_i b; cases b <;> rfl
@[simp] theorem pNo_app (ρ) : pNo ρ = some (none, ρ) := (rfl)
def pSoK (d : PyData) (ρ : Rho) : Option (Option Int × Rho) := match d with
  | .int i => some (some i, ρ)
  | _ => none
@[simp] theorem pSoK_app (i ρ) : pSoK (.int i) ρ = some (some i, ρ) := (rfl)
@[simp] theorem pSo_app (f ρ) : pSo f ρ = kb (f ρ) pSoK := by
  unfold pSo kb; rcases f ρ with _ | ⟨d, ρ'⟩
  · rfl
  · cases d <;> rfl
def eSlK4 (l h : Option Int) (ρ : Rho) (d : PyData) : Option (PyData × Rho) := kv (dSl d l h) (retK ρ)
@[simp] theorem eSlK4_app (l h ρ d) : eSlK4 l h ρ d = kv (dSl d l h) (retK ρ) := (rfl)
def eSlK3 (p : Rho → Option PyData) (l h : Option Int) (ρ : Rho) : Option (PyData × Rho) := kv (p ρ) (eSlK4 l h ρ)
@[simp] theorem eSlK3_app (p l h ρ) : eSlK3 p l h ρ = kv (p ρ) (eSlK4 l h ρ) := (rfl)
def eSlK2 (hi : MO) (p : Rho → Option PyData) (l : Option Int) (ρ : Rho) : Option (PyData × Rho) := kb (hi ρ) (eSlK3 p l)
@[simp] theorem eSlK2_app (hi p l ρ) : eSlK2 hi p l ρ = kb (hi ρ) (eSlK3 p l) := (rfl)
def eSlK (lo hi : MO) (p : Rho → Option PyData) (ρ : Rho) : Option (PyData × Rho) := kb (lo ρ) (eSlK2 hi p)
@[simp] theorem eSlK_app (lo hi p ρ) : eSlK lo hi p ρ = kb (lo ρ) (eSlK2 hi p) := (rfl)
@[simp] theorem eSl_app (f : Opd) (lo hi : MO) (ρ) : eSl f lo hi ρ = kb (f ρ) (eSlK lo hi) := (rfl)
@[simp] theorem iSeq_app (f ρ) : iSeq f ρ = kb (f ρ) (callK dIter) := (rfl)
@[simp] theorem iRange_app (k f ρ) : iRange k f ρ = kb (f ρ) (callK k) := (rfl)
def dEnumI (d : PyData) : Option (List PyData) := (dItems d).bind fun ds => some (enumD ds)
@[simp] theorem dEnumI_list (ds) : dEnumI (.list ds) = some (enumD ds) := (rfl)
@[simp] theorem dEnumI_tuple (ds) : dEnumI (.tuple ds) = some (enumD ds) := (rfl)
@[simp] theorem iEnumD_app (f ρ) : iEnumD f ρ = kb (f ρ) (callK dEnumI) := by
  unfold iEnumD kb callK kv dEnumI; rcases f ρ with _ | ⟨d, ρ'⟩
  · rfl
  · simp only [Option.bind_some]; rcases dItems d with _ | _ <;> rfl
def dRg1 (d : PyData) : Option (List PyData) := match d with
  | .int j => kGd (rgB j = true) (some (rgD 0 1 j.toNat))
  | _ => none
@[simp] theorem dRg1_int (j) : dRg1 (.int j) = kGd (rgB j = true) (some (rgD 0 1 j.toNat)) := (rfl)
@[simp] theorem nRg1_app (f ρ) : nRg1 f ρ = kb (f ρ) (callK dRg1) := by
  unfold nRg1 kb callK kv dRg1; rcases f ρ with _ | ⟨d, ρ'⟩
  · rfl
  · cases d <;> try rfl
    rename_i j
    simp only [Option.bind_some, kGd]
    split <;> rfl
def dRg2 (d e : PyData) : Option (List PyData) := match d, e with
  | .int i, .int j => kGd ((rgB i && rgB j) = true) (some (rgD i 1 (j - i).toNat))
  | _, _ => none
@[simp] theorem dRg2_int (i j) : dRg2 (.int i) (.int j) = kGd ((rgB i && rgB j) = true) (some (rgD i 1 (j - i).toNat)) := (rfl)
def rg2K2 (d e : PyData) (ρ : Rho) : Option (List PyData × Rho) := kv (dRg2 d e) (retK ρ)
@[simp] theorem rg2K2_app (d e ρ) : rg2K2 d e ρ = kv (dRg2 d e) (retK ρ) := (rfl)
def rg2K (g : M PyData) (d : PyData) (ρ : Rho) : Option (List PyData × Rho) := kb (g ρ) (rg2K2 d)
@[simp] theorem rg2K_app (g d ρ) : rg2K g d ρ = kb (g ρ) (rg2K2 d) := (rfl)
@[simp] theorem nRg2_app (f g ρ) : nRg2 f g ρ = kb (f ρ) (rg2K g) := by
  unfold nRg2 kb; rcases f ρ with _ | ⟨d, ρ'⟩
  · rfl
  · simp only [Option.bind_some]
    unfold rg2K kb; rcases g ρ' with _ | ⟨e, ρ2⟩
    · rfl
    · simp only [Option.bind_some]
      unfold rg2K2 dRg2 kv retK kGd
      cases d <;> cases e <;> try rfl
      simp only; split <;> rfl
@[simp] theorem asName_app (i d ρ) : asName i d ρ = some (ρ.set i (some (.fr d))) := (rfl)
@[simp] theorem asNil_app (ρ) : asNil [] ρ = some ρ := (rfl)
@[simp] theorem asCons_app (f g d ds ρ) : asCons f g (d :: ds) ρ = kv (f d ρ) (g ds) := (rfl)
@[simp] theorem asTup_app (n f ds ρ) : asTup n f (.tuple ds) ρ = kGd (ds.length = n) (f ds ρ) := (rfl)
@[simp] theorem sNil_app (ρ) : sNil ρ = some (.nx, ρ) := (rfl)
def seqK (g : MS) (o : Out) (ρ : Rho) : Option (Out × Rho) := match o with
  | .nx => g ρ
  | o => some (o, ρ)
@[simp] theorem seqK_nx (g ρ) : seqK g .nx ρ = g ρ := (rfl)
@[simp] theorem seqK_rt (g d ρ) : seqK g (.rt d) ρ = some (.rt d, ρ) := (rfl)
@[simp] theorem seqK_rn (g d ρ) : seqK g (.rn d) ρ = some (.rn d, ρ) := (rfl)
@[simp] theorem seqK_bk (g ρ) : seqK g .bk ρ = some (.bk, ρ) := (rfl)
@[simp] theorem seqK_ct (g ρ) : seqK g .ct ρ = some (.ct, ρ) := (rfl)
@[simp] theorem sSeq_app (f g ρ) : sSeq f g ρ = kb (f ρ) (seqK g) := by
  unfold sSeq kb; rcases f ρ with _ | ⟨o, ρ'⟩
  · rfl
  · cases o <;> rfl
@[simp] theorem sBrk_app (ρ) : sBrk ρ = some (.bk, ρ) := (rfl)
@[simp] theorem sCnt_app (ρ) : sCnt ρ = some (.ct, ρ) := (rfl)
def frzOf (i : Nat) (ρ : Rho) : Option (Option EV) → Rho
  | some (some e) => ρ.set i (some (.fr e.dat))
  | _ => ρ
@[simp] theorem frzOf_some (i ρ e) : frzOf i ρ (some (some e)) = ρ.set i (some (.fr e.dat)) := (rfl)
@[simp] theorem frzOf_none (i ρ) : frzOf i ρ (some none) = ρ := (rfl)
@[simp] theorem frzR_app (i : Nat) (ρ) : frzR i ρ = frzOf i ρ ρ[i]? := by unfold frzR frzOf; rcases ρ[i]? with _ | _ | _ <;> rfl
@[simp] theorem sFrz_app (i f ρ) : sFrz i f ρ = f (frzR i ρ) := (rfl)
def setK (i : Nat) (d : PyData) (ρ : Rho) : Option (Out × Rho) := some (.nx, ρ.set i (some (.fr d)))
@[simp] theorem setK_app (i d ρ) : setK i d ρ = some (.nx, ρ.set i (some (.fr d))) := (rfl)
@[simp] theorem sSet_app (i f ρ) : sSet i f ρ = kb (f ρ) (setK i) := (rfl)
def setNK (i : Nat) (ds : List PyData) (ρ : Rho) : Option (Out × Rho) := some (.nx, ρ.set i (some (.ol ds)))
@[simp] theorem setNK_app (i d ρ) : setNK i d ρ = some (.nx, ρ.set i (some (.ol d))) := (rfl)
@[simp] theorem sSetN_app (i f ρ) : sSetN i f ρ = kb (f ρ) (setNK i) := (rfl)
def nxK (ρ : Rho) : Option (Out × Rho) := some (.nx, ρ)
@[simp] theorem nxK_app (ρ) : nxK ρ = some (.nx, ρ) := (rfl)
def asgK (as : PyData → Rho → Option Rho) (d : PyData) (ρ : Rho) : Option (Out × Rho) := kv (as d ρ) nxK
@[simp] theorem asgK_app (as d ρ) : asgK as d ρ = kv (as d ρ) nxK := (rfl)
@[simp] theorem sAsg_app (f as ρ) : sAsg f as ρ = kb (f ρ) (asgK as) := (rfl)
def rtK (d : PyData) (ρ : Rho) : Option (Out × Rho) := some (.rt d, ρ)
@[simp] theorem rtK_app (d ρ) : rtK d ρ = some (.rt d, ρ) := (rfl)
@[simp] theorem sRet_app (f ρ) : sRet f ρ = kb (f ρ) rtK := (rfl)
def rnK (d : List PyData) (ρ : Rho) : Option (Out × Rho) := some (.rn d, ρ)
@[simp] theorem rnK_app (d ρ) : rnK d ρ = some (.rn d, ρ) := (rfl)
@[simp] theorem sRetN_app (f ρ) : sRetN f ρ = kb (f ρ) rnK := (rfl)
@[simp] theorem sRet0_app (ρ) : sRet0 ρ = some (.rt .none, ρ) := (rfl)
def exK (_ : PyData) (ρ : Rho) : Option (Out × Rho) := some (.nx, ρ)
@[simp] theorem exK_app (d ρ) : exK d ρ = some (.nx, ρ) := (rfl)
@[simp] theorem sExpr_app (f ρ) : sExpr f ρ = kb (f ρ) exK := (rfl)
def olOf : Option (Option EV) → Option (List PyData)
  | some (some (.ol ds)) => some ds
  | some (some (.io ds)) => some ds
  | _ => none
@[simp] theorem olOf_ol (d) : olOf (some (some (.ol d))) = some d := (rfl)
@[simp] theorem olOf_io (d) : olOf (some (some (.io d))) = some d := (rfl)
@[simp] theorem ownL_app (i : Nat) (ρ) : ownL ρ i = olOf ρ[i]? := by unfold ownL olOf; rcases ρ[i]? with _ | _ | _ | _ <;> rfl
def stOf (i : Nat) (ds : List PyData) (ρ : Rho) : Option (Option EV) → Rho
  | some (some (.io _)) => ρ.set i (some (.io ds))
  | _ => ρ.set i (some (.ol ds))
@[simp] theorem stOf_ol (i ds ρ d) : stOf i ds ρ (some (some (.ol d))) = ρ.set i (some (.ol ds)) := (rfl)
@[simp] theorem stOf_io (i ds ρ d) : stOf i ds ρ (some (some (.io d))) = ρ.set i (some (.io ds)) := (rfl)
@[simp] theorem setL_app (i : Nat) (ds ρ) : setL ρ i ds = stOf i ds ρ ρ[i]? := by unfold setL stOf; rcases ρ[i]? with _ | _ | _ | _ <;> rfl
def ownK4 (i : Nat) (ρ : Rho) (r : PyData × List PyData) : Option (PyData × Rho) := some (r.1, setL ρ i r.2)
@[simp] theorem ownK4_app (i ρ d qs) : ownK4 i ρ (d, qs) = some (d, stOf i qs ρ ρ[i]?) := by show some (d, setL ρ i qs) = _; rw [setL_app]
def ownK3 (i : Nat) (k : List PyData → List PyData → Option (PyData × List PyData)) (as : List PyData) (ρ : Rho) (ds : List PyData) : Option (PyData × Rho) := kv (k ds as) (ownK4 i ρ)
@[simp] theorem ownK3_app (i k as ρ ds) : ownK3 i k as ρ ds = kv (k ds as) (ownK4 i ρ) := (rfl)
def ownK2 (i : Nat) (k : List PyData → List PyData → Option (PyData × List PyData)) (as : List PyData) (ρ : Rho) : Option (PyData × Rho) := kv (ownL ρ i) (ownK3 i k as ρ)
@[simp] theorem ownK2_app (i k as ρ) : ownK2 i k as ρ = kv (olOf ρ[i]?) (ownK3 i k as ρ) := by rw [← ownL_app]; rfl
def ownK (i : Nat) (f : M (List PyData)) (k : List PyData → List PyData → Option (PyData × List PyData)) (ρ : Rho) (_ : List PyData) : Option (PyData × Rho) := kb (f ρ) (ownK2 i k)
@[simp] theorem ownK_app (i f k ρ ds) : ownK i f k ρ ds = kb (f ρ) (ownK2 i k) := (rfl)
@[simp] theorem eOwn_app (i f k ρ) : eOwn i f k ρ = kv (olOf ρ[i]?) (ownK i f k ρ) := by rw [← ownL_app]; rfl
@[simp] theorem eCallP_app (i f k ρ) : eCallP i f k ρ = kv (olOf ρ[i]?) (ownK i f k ρ) := by rw [← ownL_app]; rfl
@[simp] theorem kAppend_app (ds d) : kAppend ds [d] = kGd (ds.length < sizeLine) (some (.none, ds ++ [d])) := (rfl)
@[simp] theorem sIf_app (c f g ρ) : sIf c f g ρ = kb (c ρ) (ifK f g) := (rfl)
def forK (as : PyData → Rho → Option Rho) (body : MS) (ds : List PyData) (ρ : Rho) : Option (Out × Rho) := forGo as body ds ρ
@[simp] theorem forK_app (as body ds ρ) : forK as body ds ρ = forGo as body ds ρ := (rfl)
@[simp] theorem sFor_app (it as body ρ) : sFor it as body ρ = kb (it ρ) (forK as body) := (rfl)
@[simp] theorem forGo_nil (as body ρ) : forGo as body [] ρ = some (.nx, ρ) := (rfl)
def sixK5 (i : Nat) (d : PyData) (ρ : Rho) (ds : List PyData) (j : Nat) : Option (Out × Rho) := some (.nx, setL ρ i (ds.set j d))
@[simp] theorem sixK5_app (i d ρ ds j) : sixK5 i d ρ ds j = some (.nx, stOf i (ds.set j d) ρ ρ[i]?) := by show some (Out.nx, setL ρ i (ds.set j d)) = _; rw [setL_app]
def sixK4 (i : Nat) (d q : PyData) (ρ : Rho) (ds : List PyData) : Option (Out × Rho) := match q with
  | .int k => kv (ixN ds.length k) (sixK5 i d ρ ds)
  | _ => none
@[simp] theorem sixK4_app (i d k ρ ds) : sixK4 i d (.int k) ρ ds = kv (ixN ds.length k) (sixK5 i d ρ ds) := (rfl)
def sixK3 (i : Nat) (d q : PyData) (ρ : Rho) : Option (Out × Rho) := kv (ownL ρ i) (sixK4 i d q ρ)
@[simp] theorem sixK3_app (i d q ρ) : sixK3 i d q ρ = kv (olOf ρ[i]?) (sixK4 i d q ρ) := by rw [← ownL_app]; rfl
def sixK2 (i : Nat) (g : M PyData) (d : PyData) (ρ : Rho) (_ : List PyData) : Option (Out × Rho) := kb (g ρ) (sixK3 i d)
@[simp] theorem sixK2_app (i g d ρ ds) : sixK2 i g d ρ ds = kb (g ρ) (sixK3 i d) := (rfl)
def sixK (i : Nat) (g : M PyData) (d : PyData) (ρ : Rho) : Option (Out × Rho) := kv (ownL ρ i) (sixK2 i g d ρ)
@[simp] theorem sixK_app (i g d ρ) : sixK i g d ρ = kv (olOf ρ[i]?) (sixK2 i g d ρ) := by rw [← ownL_app]; rfl
@[simp] theorem sSetIx_app (i f g ρ) : sSetIx i f g ρ = kb (f ρ) (sixK i g) := by
  unfold sSetIx kb; rcases f ρ with _ | ⟨d, ρ1⟩
  · rfl
  · simp only [Option.bind_some]
    unfold sixK kv; rcases ownL ρ1 i with _ | ds0
    · rfl
    · simp only [Option.bind_some]
      unfold sixK2 kb; rcases g ρ1 with _ | ⟨q, ρ2⟩
      · rfl
      · simp only [Option.bind_some]
        unfold sixK3 kv; rcases ownL ρ2 i with _ | ds
        · rfl
        · cases q <;> rfl
@[simp] theorem runD_app (np n : Nat) (body : MS) (ds) : runD np n body ds = kGd (ds.length = np) (kv (body (rho0 n ds)) endOf) := (rfl)
@[simp] theorem runN_app (np n : Nat) (body : MS) (ds) : runN np n body ds = kGd (ds.length = np) (kv (body (rho0 n ds)) rnOf) := (rfl)
def runPK3 (d : PyData) (qs : List PyData) : Option (PyData × List PyData) := some (d, qs)
@[simp] theorem runPK3_app (d qs) : runPK3 d qs = some (d, qs) := (rfl)
def runPK2 (ρ : Rho) (d : PyData) : Option (PyData × List PyData) := kv (ioOf ρ) (runPK3 d)
@[simp] theorem runPK2_app (ρ d) : runPK2 ρ d = kv (ioOf ρ) (runPK3 d) := (rfl)
def runPK (p : Out × Rho) : Option (PyData × List PyData) := kv (endOf p) (runPK2 p.2)
@[simp] theorem runPK_app (p) : runPK p = kv (endOf p) (runPK2 p.2) := (rfl)
@[simp] theorem runP_app (np n : Nat) (body : MS) (ps ds) : runP np n body ps ds = kGd (ds.length = np) (kv (body (some (.io ps) :: rho0 (n - 1) ds)) runPK) := (rfl)
@[simp] theorem rho0_app (n : Nat) (ds : List PyData) : rho0 n ds = ds.map (fun d => some (.fr d)) ++ List.replicate (n - ds.length) none := (rfl)
@[simp] theorem own_fr (d) : (EV.fr d).own = false := (rfl)
@[simp] theorem own_ol (d) : (EV.ol d).own = true := (rfl)
@[simp] theorem own_io (d) : (EV.io d).own = true := (rfl)
@[simp] theorem dat_fr (d) : (EV.fr d).dat = d := (rfl)
@[simp] theorem dat_ol (d) : (EV.ol d).dat = .list d := (rfl)
@[simp] theorem dat_io (d) : (EV.io d).dat = .list d := (rfl)
@[simp] theorem endOf_nx (ρ) : endOf (.nx, ρ) = some .none := (rfl)
@[simp] theorem endOf_rt (d ρ) : endOf (.rt d, ρ) = some d := (rfl)
@[simp] theorem endOf_rn (d ρ) : endOf (.rn d, ρ) = some (.list d) := (rfl)
@[simp] theorem rnOf_rn (d ρ) : rnOf (.rn d, ρ) = some d := (rfl)
@[simp] theorem ioOf_cons (d ρ) : ioOf (some (.io d) :: ρ) = some d := (rfl)
/-- the operators at data of a known kind -/
@[simp] theorem dAdd_int (i j) : dAdd (.int i) (.int j) = some (.int (i + j)) := (rfl)
@[simp] theorem dAdd_list (a b) : dAdd (.list a) (.list b) = kGd (a.length + b.length ≤ sizeLine) (some (.list (a ++ b))) := (rfl)
@[simp] theorem dAdd_tuple (a b) : dAdd (.tuple a) (.tuple b) = kGd (a.length + b.length ≤ sizeLine) (some (.tuple (a ++ b))) := (rfl)
@[simp] theorem dSub_int (i j) : dSub (.int i) (.int j) = some (.int (i - j)) := (rfl)
@[simp] theorem dMul_int (i j) : dMul (.int i) (.int j) = kGd (mulOk i j = true) (some (.int (i * j))) := (rfl)
@[simp] theorem dMod_int (i j) : dMod (.int i) (.int j) = kGd (0 < j) (some (.int (i % j))) := (rfl)
theorem dDiv_int {i j} (h : divOk j = true) : dDiv (.int i) (.int j) = some (.int (i / j)) := if_pos h
@[simp] theorem dNeg_int (i) : dNeg (.int i) = some (.int (-i)) := (rfl)
@[simp] theorem dLe_int (i j) : dLe (.int i) (.int j) = some (.bool (decide (i ≤ j))) := (rfl)
@[simp] theorem dGt_int (i j) : dGt (.int i) (.int j) = some (.bool (decide (j < i))) := (rfl)
@[simp] theorem dGe_int (i j) : dGe (.int i) (.int j) = some (.bool (decide (j ≤ i))) := (rfl)
@[simp] theorem dLt_int (i j) : dLt (.int i) (.int j) = some (.bool (decide (i < j))) := (rfl)
@[simp] theorem dIsN_none (b x) : dIsN b x .none = some (.bool (b == isNoneD x)) := by cases x <;> rfl
@[simp] theorem dIsN_bool (b x y) : dIsN b x (.bool y) = some (.bool (b == isBlD y x)) := by cases x <;> rfl
@[simp] theorem isNoneD_none : isNoneD .none = true := (rfl)
@[simp] theorem isNoneD_int (i) : isNoneD (.int i) = false := (rfl)
@[simp] theorem isNoneD_bool (i) : isNoneD (.bool i) = false := (rfl)
@[simp] theorem isNoneD_str (i) : isNoneD (.str i) = false := (rfl)
@[simp] theorem isNoneD_list (i) : isNoneD (.list i) = false := (rfl)
@[simp] theorem isNoneD_tuple (i) : isNoneD (.tuple i) = false := (rfl)
@[simp] theorem isBlD_bool (y x) : isBlD y (.bool x) = (x == y) := (rfl)
@[simp] theorem isBlD_none (y) : isBlD y .none = false := (rfl)
@[simp] theorem isBlD_int (y i) : isBlD y (.int i) = false := (rfl)
@[simp] theorem isBlD_str (y i) : isBlD y (.str i) = false := (rfl)
@[simp] theorem isBlD_list (y i) : isBlD y (.list i) = false := (rfl)
@[simp] theorem isBlD_tuple (y i) : isBlD y (.tuple i) = false := (rfl)
@[simp] theorem dIdx_list (ds i) : dIdx (.list ds) (.int i) = atI ds i := (rfl)
@[simp] theorem dIdx_tuple (ds i) : dIdx (.tuple ds) (.int i) = atI ds i := (rfl)
@[simp] theorem dTru_bool (b) : dTru (.bool b) = some b := (rfl)
@[simp] theorem dTru_int (i) : dTru (.int i) = some (i != 0) := (rfl)
@[simp] theorem dTru_none : dTru .none = some false := (rfl)
@[simp] theorem dTru_list (ds) : dTru (.list ds) = some (!ds.isEmpty) := (rfl)
@[simp] theorem dTru_tuple (ds) : dTru (.tuple ds) = some (!ds.isEmpty) := (rfl)
@[simp] theorem dSl_list (ds lo hi) : dSl (.list ds) lo hi = some (.list (cutD ds lo hi)) := (rfl)
@[simp] theorem dSl_tuple (ds lo hi) : dSl (.tuple ds) lo hi = some (.tuple (cutD ds lo hi)) := (rfl)
@[simp] theorem dLen_list (ds) : dLen (.list ds) = some (.int ds.length) := (rfl)
@[simp] theorem dLen_tuple (ds) : dLen (.tuple ds) = some (.int ds.length) := (rfl)
@[simp] theorem dInt_int (i) : dInt (.int i) = some (.int i) := (rfl)
@[simp] theorem dInt_bool (b) : dInt (.bool b) = some (.int (if b then 1 else 0)) := (rfl)
@[simp] theorem dItems_list (ds) : dItems (.list ds) = some ds := (rfl)
@[simp] theorem dItems_tuple (ds) : dItems (.tuple ds) = some ds := (rfl)
@[simp] theorem dTuple_list (ds) : dTuple (.list ds) = some (.tuple ds) := (rfl)
@[simp] theorem dTuple_tuple (ds) : dTuple (.tuple ds) = some (.tuple ds) := (rfl)
@[simp] theorem dIter_list (ds) : dIter (.list ds) = some ds := (rfl)
@[simp] theorem dIter_tuple (ds) : dIter (.tuple ds) = some ds := (rfl)
@[simp] theorem dMax2_int (i j) : dMax2 [.int i, .int j] = some (.int (if j > i then j else i)) := (rfl)
@[simp] theorem dMin2_int (i j) : dMin2 [.int i, .int j] = some (.int (if j < i then j else i)) := (rfl)
@[simp] theorem dRange1_int (j) : dRange1 [.int j] = kGd (rgOk j = true) (some (rgD 0 1 j.toNat)) := (rfl)
@[simp] theorem dRange2_int (i j) : dRange2 [.int i, .int j] = kGd ((rgOk i && rgOk j) = true) (some (rgD i 1 (j - i).toNat)) := (rfl)
@[simp] theorem eqv_int (i j) : PyData.eqv (.int i) (.int j) = (i == j) := (rfl)
@[simp] theorem dEq_int (i j : Int) : dEq (.int i) (.int j) = some (.bool (i == j)) := (rfl)
@[simp] theorem dNe_int (i j : Int) : dNe (.int i) (.int j) = some (.bool (i != j)) := (rfl)
end PD
namespace PD
open PySem PySem.Spec L2
abbrev il (ns : List Int) : PyData := .list (ns.map .int)
abbrev it (ns : List Int) : PyData := .tuple (ns.map .int)
theorem sizeLine_ge : 1000 ≤ sizeLine := by rw [sizeLine_eq]; decide
theorem le_size {n : Nat} (h : n ≤ 1000) : n ≤ sizeLine := Nat.le_trans h sizeLine_ge
theorem lt_size {n : Nat} (h : n < 1000) : n < sizeLine := Nat.lt_of_lt_of_le h sizeLine_ge
theorem log2_lt {n k : Nat} (h : n < 2 ^ k) (hk : 0 < k) : n.log2 < k := by
  by_cases e : n = 0
  · subst e; simpa using hk
  · exact (Nat.log2_lt e).mpr h
theorem mulOk_of {i j : Int} (h1 : i.natAbs < 2 ^ 1000) (h2 : j.natAbs < 2 ^ 1000) : mulOk i j = true := by
  have a := log2_lt h1 (by decide)
  have b := log2_lt h2 (by decide)
  have : i.natAbs.log2 + j.natAbs.log2 < 1000000 := by omega
  simp [mulOk, this]
theorem mulOk_r {i j : Int} (h : j.natAbs < 2 ^ 64) : mulOk i j = true := by
  have a : -(2 ^ 64) < j := by omega
  have b : j < 2 ^ 64 := by omega
  simp only [mulOk, a, b, decide_true, Bool.and_true, Bool.or_true, Bool.true_or]
theorem mulOk_l {i j : Int} (h : i.natAbs < 2 ^ 64) : mulOk i j = true := by
  have a : -(2 ^ 64) < i := by omega
  have b : i < 2 ^ 64 := by omega
  simp only [mulOk, a, b, decide_true, Bool.and_true, Bool.or_true, Bool.true_or]
theorem divOk_of {j : Int} (h : 0 < j) (h2 : j < 2 ^ 64) : divOk j = true := by
  have a : j.natAbs.log2 < 64 := log2_lt (by omega) (by decide)
  simp [divOk, h]; omega
theorem ixN_of {n : Nat} {i : Int} (h : 0 ≤ i) (h2 : i < n) : ixN n i = some i.toNat := by
  unfold ixN; rw [if_pos h, if_pos h2]
theorem ixN_nat {n k : Nat} (h : k < n) : ixN n (k : Int) = some k := by
  rw [ixN_of (by omega) (by omega)]; rfl
theorem atI_of {α : Type} {xs : List α} {i : Int} (h : 0 ≤ i) (h2 : i < xs.length) : atI xs i = xs[i.toNat]? := by
  unfold atI; rw [ixN_of h h2]; rfl
theorem atI_nat {α : Type} {xs : List α} {k : Nat} : k < xs.length → atI xs (k : Int) = xs[k]? := fun h => by
  unfold atI; rw [ixN_nat h]; rfl
theorem rgD_map (lo : Int) (n : Nat) : rgD lo 1 n = (List.range n).map fun (k : Nat) => PyData.int (lo + k) := by
  unfold rgD; apply List.map_congr_left; intro k _; simp
theorem rgD0 (n : Nat) : rgD 0 1 n = (List.range n).map fun (k : Nat) => PyData.int (k : Int) := by
  rw [rgD_map]; apply List.map_congr_left; intro k _; simp
@[simp] theorem rgOk_nat' {i : Int} (h : 0 ≤ i) (h2 : i < 2 ^ 62) : rgOk i = true := by
  have : -(2 ^ 62) ≤ i := by omega
  simp only [rgOk, this, h2, decide_true, Bool.and_true]

/-! ### comprehensions -/
@[simp] theorem wipeR_nil (ρ : Rho) : wipeR ρ [] = ρ := (rfl)
@[simp] theorem wipeR_cons (ρ : Rho) (v : Nat) (vs : List Nat) : wipeR ρ (v :: vs) = (wipeR ρ vs).set v none := (rfl)

theorem wipeR_get? {ρ : Rho} {i : Nat} : ∀ {vs : List Nat}, i ∉ vs → (wipeR ρ vs)[i]? = ρ[i]?
  | [], _ => rfl
  | v :: vs, h => by
    unfold wipeR
    rw [List.getElem?_set_ne (by intro z; subst z; simp at h), wipeR_get? (fun z => h (List.mem_cons_of_mem _ z))]
theorem backR_wipe (ρ : Rho) (vs : List Nat) : backR ρ (wipeR ρ vs) vs = ρ := by
  apply List.ext_getElem?
  intro i
  unfold backR
  rw [List.getElem?_map]
  by_cases hi : i < ρ.length
  · rw [List.getElem?_range hi]
    simp only [Option.map_some]
    have e : ρ[i]? = some ρ[i] := List.getElem?_eq_getElem hi
    split
    · simp [List.getD, e]
    · rename_i hv
      have hv' : i ∉ vs := by simpa using hv
      simp [List.getD, wipeR_get? hv', e]
  · rw [List.getElem?_eq_none (by simpa using hi), List.getElem?_eq_none (by omega)]
    rfl
theorem lcGo_map {α : Type} {vs : List Nat} {as : PyData → Rho → Option Rho} {tt : M Bool} {el : M PyData} {e : α → PyData} {b : α → Bool} {g : α → PyData} {ρw : Rho} : ∀ (xs : List α),
    (∀ x ∈ xs, ∃ ρ1, as (e x) ρw = some ρ1 ∧ tt ρ1 = some (b x, ρ1) ∧ (b x = true → el ρ1 = some (g x, ρ1)) ∧ wipeR ρ1 vs = ρw) → lcGo vs as tt el (xs.map e) ρw = some ((xs.filter b).map g, ρw)
  | [], _ => rfl
  | x :: xs, h => by
    obtain ⟨ρ1, h1, h2, h3, h4⟩ := h x (by simp)
    have ih := lcGo_map xs fun y hy => h y (List.mem_cons_of_mem _ hy)
    rw [List.map_cons]
    unfold lcGo
    rw [h1]; simp only [Option.bind_some]
    rw [h2]; simp only [Option.bind_some]
    cases hb : b x with
    | true =>
      rw [if_pos rfl, h3 hb]; simp only [Option.bind_some]
      rw [h4, ih]
      simp [List.filter_cons, hb]
    | false =>
      rw [if_neg Bool.false_ne_true, h4, ih]
      simp [List.filter_cons, hb]
theorem lcD_map {α : Type} {vs : List Nat} {it : M (List PyData)} {as : PyData → Rho → Option Rho} {tt : M Bool} {el : M PyData} (e : α → PyData) (b : α → Bool) (g : α → PyData) {ρ : Rho} (xs : List α) (hi : it ρ = some (xs.map e, ρ)) (hno : noOwn ρ vs = true) (hl : xs.length ≤ sizeLine)
    (h : ∀ x ∈ xs, ∃ ρ1, as (e x) (wipeR ρ vs) = some ρ1 ∧ tt ρ1 = some (b x, ρ1) ∧ (b x = true → el ρ1 = some (g x, ρ1)) ∧ wipeR ρ1 vs = wipeR ρ vs) : lcD vs it as tt el ρ = some ((xs.filter b).map g, ρ) := by
  unfold lcD
  rw [hi]
  simp only [Option.bind_some]
  rw [hno, lcGo_map xs h]
  simp [hl, backR_wipe]
theorem lcD_all {α : Type} {vs : List Nat} {it : M (List PyData)} {as : PyData → Rho → Option Rho} {el : M PyData} (e : α → PyData) (g : α → PyData) {ρ : Rho} (xs : List α) (hi : it ρ = some (xs.map e, ρ)) (hno : noOwn ρ vs = true) (hl : xs.length ≤ sizeLine)
    (h : ∀ x ∈ xs, ∃ ρ1, as (e x) (wipeR ρ vs) = some ρ1 ∧ el ρ1 = some (g x, ρ1) ∧ wipeR ρ1 vs = wipeR ρ vs) : lcD vs it as bYes el ρ = some (xs.map g, ρ) := by
  rw [lcD_map e (fun _ => true) g xs hi hno hl fun x hx => by obtain ⟨ρ1, a, c, d⟩ := h x hx; exact ⟨ρ1, a, rfl, fun _ => c, d⟩]
  rw [List.filter_eq_self.mpr (by simp)]

/-! ### loops -/
theorem forGo_inv {as : PyData → Rho → Option Rho} {body : MS} {I : Nat → Rho → Prop} : ∀ (ds : List PyData) (k : Nat) (ρ : Rho), I k ρ →
    (∀ i d ρ, ds[i]? = some d → I (k + i) ρ → ∃ ρ1 o ρ2, as d ρ = some ρ1 ∧ body ρ1 = some (o, ρ2) ∧ (o = .nx ∨ o = .ct) ∧ I (k + i + 1) ρ2) → ∃ ρ', forGo as body ds ρ = some (.nx, ρ') ∧ I (k + ds.length) ρ'
  | [], k, ρ, h0, _ => ⟨ρ, rfl, h0⟩
  | d :: ds, k, ρ, h0, h => by
    obtain ⟨ρ1, o, ρ2, h1, h2, h3, h4⟩ := h 0 d ρ rfl h0
    obtain ⟨ρ', h5, h6⟩ := forGo_inv (I := I) ds (k + 1) ρ2 h4 fun i d' ρ3 hd hI => by
      have := h (i + 1) d' ρ3 (by simpa using hd) (by rwa [show k + (i + 1) = k + 1 + i by omega])
      rwa [show k + (i + 1) + 1 = k + 1 + i + 1 by omega] at this
    refine ⟨ρ', ?_, by rw [List.length_cons, show k + (ds.length + 1) = k + 1 + ds.length by omega]; exact h6⟩
    unfold forGo
    rw [h1]; simp only [Option.bind_some]
    rw [h2]; simp only [Option.bind_some]
    rcases h3 with rfl | rfl <;> exact h5
/-- a loop whose turns take one state into the next -/
theorem forGo_fold {σ α : Type} {as : PyData → Rho → Option Rho} {body : MS} (enc : σ → Rho) (e : α → PyData) (f : σ → α → σ) (P : σ → Prop) : ∀ (xs : List α) (s : σ), P s →
    (∀ s x, x ∈ xs → P s → P (f s x) ∧ ((as (e x) (enc s)).bind body = some (.nx, enc (f s x)) ∨ (as (e x) (enc s)).bind body = some (.ct, enc (f s x)))) → forGo as body (xs.map e) (enc s) = some (.nx, enc (xs.foldl f s)) ∧ P (xs.foldl f s)
  | [], s, h0, _ => ⟨rfl, h0⟩
  | x :: xs, s, h0, h => by
    obtain ⟨h1, h2⟩ := h s x (by simp) h0
    have ih := forGo_fold enc e f P xs (f s x) h1 fun s y hy => h s y (List.mem_cons_of_mem _ hy)
    refine ⟨?_, ih.2⟩
    rw [List.map_cons]
    unfold forGo
    cases e1 : as (e x) (enc s) with
    | none => rw [e1] at h2; rcases h2 with h2 | h2 <;> cases h2
    | some ρ1 =>
      rw [e1] at h2
      simp only [Option.bind_some] at h2 ⊢
      rcases h2 with h2 | h2 <;> (rw [h2]; exact ih.1)

/-! ### the laws' own draws -/
/-- a pool of drawn numbers -/
def Pool (ps : List PyData) : Prop := ∃ (ns : List Int) (a b c : Int), ps = [il ns, .int a, .int b, .int c] ∧ 0 ≤ a ∧ 0 ≤ b ∧ 0 ≤ c
theorem mixed_ok (n p : Int) (hp : 0 ≤ p) : ∃ r, _law_mixed_D [.int n, .int p] = some (.int r) ∧ 0 ≤ r := by
  let first := (n * 48271 + p * 69621 + 11) % 618970019642690137449562111
  have f0 : 0 ≤ first := Int.emod_nonneg _ (by decide)
  have f1 : first < 618970019642690137449562111 := Int.emod_lt_of_pos _ (by decide)
  let second := (first * first + 7 * first + p) % 162259276829213363391578010288127
  have s0 : 0 ≤ second := Int.emod_nonneg _ (by decide)
  have s1 : second < 162259276829213363391578010288127 := Int.emod_lt_of_pos _ (by decide)
  let third := (second * second + first) % 618970019642690137449562111
  have t0 : 0 ≤ third := Int.emod_nonneg _ (by decide)
  have k1 : mulOk n 48271 = true := mulOk_r (by decide)
  have k2 : mulOk p 69621 = true := mulOk_r (by decide)
  have k3 : mulOk first first = true := mulOk_of (by omega) (by omega)
  have k4 : mulOk 7 first = true := mulOk_l (by decide)
  have k5 : mulOk second second = true := mulOk_of (by omega) (by omega)
  have k6 : mulOk second 618970019642690137449562111 = true := mulOk_of (by omega) (by decide)
  refine ⟨second * 618970019642690137449562111 + third, ?_, Int.add_nonneg (Int.mul_nonneg s0 (by decide)) t0⟩
  simp only [first, second, third] at k3 k4 k5 k6 ⊢
  simp [_law_mixed_D, body__law_mixed, k1, k2, k3, k4, k5, k6]

theorem pow18 : dPow (.int 10) (.int 18) = some (.int 1000000000000000000) := rfl
theorem rest_ok (ns : List Int) (p f : Int) (hp : 0 ≤ p) (hf : 0 ≤ f) : ∃ r, _law_rest_D [il ns, .int p, .int f] = some (.int r) ∧ 0 ≤ r := by
  have k1 : mulOk f 1000003 = true := mulOk_r (by decide)
  have k2 : ∀ n, mulOk 2 n = true := fun n => mulOk_l (by decide)
  have fin : ∀ n : Int, 0 ≤ n → ∃ r, kv (kb (kb (kIf (f == 0) (bAnd (bT (e2 (oE (eVar 1)) (oE (e1 (oE (eVar 0)) dLen)) dLt)) (bT (e2 (oE (eVar 3)) (oE (e2 (oE (eC (.int 10))) (oE (eC (.int 18))) dPow)) dGe))) (cB false) [some (.fr (il ns)), some (.fr (.int p)), some (.fr (.int f)), some (.fr (.int n))]) (ifK (sRet (e2 (oE (eVar 3)) (oE (e2 (oE (eC (.int 10))) (oE (eC (.int 18))) dPow)) dSub)) sNil)) (seqK (sRet (eCall (aCons (e2 (oE (eVar 3)) (oE (e2 (oE (eVar 2)) (oE (eC (.int 1000003))) dMul)) dAdd) (aCons (eVar 1) aNil)) _law_mixed_D)))) endOf = some (.int r) ∧ 0 ≤ r := by
    intro n hn
    obtain ⟨r, hr, h0⟩ := mixed_ok (n + f * 1000003) p hp
    by_cases q1 : f = 0
    · by_cases q2 : p < ns.length
      · by_cases q3 : 1000000000000000000 ≤ n
        · exact ⟨n - 1000000000000000000, by simp [q1, q2, q3, pow18], by omega⟩
        · exact ⟨r, by subst q1; simp [q2, q3, pow18, k1] at hr ⊢; simp [hr], h0⟩
      · exact ⟨r, by subst q1; simp [q2, pow18, k1] at hr ⊢; simp [hr], h0⟩
    · have q1' : (f == 0) = false := by simpa using q1
      exact ⟨r, by simp [q1', hr, k1], h0⟩
  by_cases hl : 0 < ns.length
  · have hm0 : 0 ≤ p % (ns.length : Int) := Int.emod_nonneg _ (by omega)
    have hm1 : p % (ns.length : Int) < ns.length := Int.emod_lt_of_pos _ (by omega)
    have hx : (p % (ns.length : Int)).toNat < ns.length := by omega
    have e1 : atI (ns.map PyData.int) (p % (ns.length : Int)) = some (.int (ns[(p % (ns.length : Int)).toNat])) := by
      rw [atI_of hm0 (by simpa using hm1)]
      rw [List.getElem?_map, List.getElem?_eq_getElem hx]; rfl
    generalize hx' : ns[(p % (ns.length : Int)).toNat] = x at e1
    have hl' : (0 : Int) < ns.length := by omega
    by_cases c : x < 0
    · obtain ⟨r, hr, h0⟩ := fin (1 - 2 * x) (by omega)
      exact ⟨r, by rw [← hr]; simp [_law_rest_D, body__law_rest, hl', hl, e1, k2, c], h0⟩
    · obtain ⟨r, hr, h0⟩ := fin x (by omega)
      exact ⟨r, by rw [← hr]; simp [_law_rest_D, body__law_rest, hl', hl, e1, c], h0⟩
  · have hl' : ¬ ((0 : Int) < ns.length) := by omega
    obtain ⟨r, hr, h0⟩ := fin 0 (by omega)
    exact ⟨r, by rw [← hr]; simp [_law_rest_D, body__law_rest, hl', hl], h0⟩
theorem pool_ok (ns : List Int) : ∃ ps, _law_pool_D [il ns] = some ps ∧ Pool ps := by
  obtain ⟨r, hr, h0⟩ := rest_ok ns 0 0 (by omega) (by omega)
  exact ⟨_, by simp [_law_pool_D, body__law_pool, hr, le_size], ns, 0, r, 0, rfl, by omega, h0, by omega⟩
theorem next_ok {ps : List PyData} (h : Pool ps) : ∃ ps', _law_next_D ps [] = some (.none, ps') ∧ Pool ps' := by
  obtain ⟨ns, a, b, c, rfl, ha, hb, hc⟩ := h
  obtain ⟨r, hr, h0⟩ := rest_ok ns (a + 1) 0 (by omega) (by omega)
  exact ⟨_, by simp [_law_next_D, body__law_next, hr, ixN, atI], ns, a + 1, r, 0, rfl, by omega, h0, by omega⟩
theorem draw_ok {ps : List PyData} (h : Pool ps) {n : Int} (hn : 0 < n) (hn2 : n < 2 ^ 64 := by omega) : ∃ v ps', _law_draw_D ps [.int n] = some (.int v, ps') ∧ Pool ps' ∧ 0 ≤ v ∧ v < n := by
  obtain ⟨ns, a, b, c, rfl, ha, hb, hc⟩ := h
  have d := divOk_of hn hn2
  by_cases q : b ≤ 1
  · obtain ⟨r, hr, h0⟩ := rest_ok ns a (c + 1) (by omega) (by omega)
    exact ⟨r % n, _, by simp [_law_draw_D, body__law_draw, hr, ixN, atI, q, hn, dDiv_int d], ⟨ns, a, r / n, c + 1, rfl, ha, Int.ediv_nonneg h0 (by omega), by omega⟩, Int.emod_nonneg _ (by omega), Int.emod_lt_of_pos _ hn⟩
  · exact ⟨b % n, _, by simp [_law_draw_D, body__law_draw, ixN, atI, q, hn, dDiv_int d], ⟨ns, a, b / n, c, rfl, ha, Int.ediv_nonneg hb (by omega), by omega⟩, Int.emod_nonneg _ (by omega), Int.emod_lt_of_pos _ hn⟩
theorem pick_ok {ps : List PyData} (h : Pool ps) {ds : List PyData} (hd : ds ≠ []) (hn2 : ds.length < 2 ^ 63 := by simp) : ∃ d ps', _law_pick_D ps [.list ds] = some (d, ps') ∧ Pool ps' ∧ d ∈ ds := by
  have hl : 0 < ds.length := List.length_pos_iff.mpr hd
  obtain ⟨v, ps', e, hp, h0, h1⟩ := draw_ok h (n := (ds.length : Int)) (by omega) (by omega)
  obtain ⟨ns, a, b, c, rfl, ha, hb, hc⟩ := h
  have hv : v.toNat < ds.length := by omega
  refine ⟨ds[v.toNat], ps', ?_, hp, List.getElem_mem hv⟩
  simp [_law_pick_D, body__law_pick, e, atI_of h0 h1, hv]

theorem isi_of {T t : String} {b : Bool} {d : PyData} (h : dTy d = some t) (k : kitB t T = some b) : dIsi T d = some (.bool b) := by
  unfold dIsi; rw [h]; simp only [Option.bind_some]; rw [k]; rfl
theorem k_NoneType_int : kitB "NoneType" "int" = some false := by decide +kernel
theorem k_NoneType_str : kitB "NoneType" "str" = some false := by decide +kernel
theorem k_NoneType_dict : kitB "NoneType" "dict" = some false := by decide +kernel
theorem k_NoneType_tuple : kitB "NoneType" "tuple" = some false := by decide +kernel
theorem k_NoneType_list : kitB "NoneType" "list" = some false := by decide +kernel
theorem k_NoneType_bool : kitB "NoneType" "bool" = some false := by decide +kernel
theorem k_bool_int : kitB "bool" "int" = some true := by decide +kernel
theorem k_bool_str : kitB "bool" "str" = some false := by decide +kernel
theorem k_bool_dict : kitB "bool" "dict" = some false := by decide +kernel
theorem k_bool_tuple : kitB "bool" "tuple" = some false := by decide +kernel
theorem k_bool_list : kitB "bool" "list" = some false := by decide +kernel
theorem k_bool_bool : kitB "bool" "bool" = some true := by decide +kernel
theorem k_int_int : kitB "int" "int" = some true := by decide +kernel
theorem k_int_str : kitB "int" "str" = some false := by decide +kernel
theorem k_int_dict : kitB "int" "dict" = some false := by decide +kernel
theorem k_int_tuple : kitB "int" "tuple" = some false := by decide +kernel
theorem k_int_list : kitB "int" "list" = some false := by decide +kernel
theorem k_int_bool : kitB "int" "bool" = some false := by decide +kernel
theorem k_str_int : kitB "str" "int" = some false := by decide +kernel
theorem k_str_str : kitB "str" "str" = some true := by decide +kernel
theorem k_str_dict : kitB "str" "dict" = some false := by decide +kernel
theorem k_str_tuple : kitB "str" "tuple" = some false := by decide +kernel
theorem k_str_list : kitB "str" "list" = some false := by decide +kernel
theorem k_str_bool : kitB "str" "bool" = some false := by decide +kernel
theorem k_list_int : kitB "list" "int" = some false := by decide +kernel
theorem k_list_str : kitB "list" "str" = some false := by decide +kernel
theorem k_list_dict : kitB "list" "dict" = some false := by decide +kernel
theorem k_list_tuple : kitB "list" "tuple" = some false := by decide +kernel
theorem k_list_list : kitB "list" "list" = some true := by decide +kernel
theorem k_list_bool : kitB "list" "bool" = some false := by decide +kernel
theorem k_tuple_int : kitB "tuple" "int" = some false := by decide +kernel
theorem k_tuple_str : kitB "tuple" "str" = some false := by decide +kernel
theorem k_tuple_dict : kitB "tuple" "dict" = some false := by decide +kernel
theorem k_tuple_tuple : kitB "tuple" "tuple" = some true := by decide +kernel
theorem k_tuple_list : kitB "tuple" "list" = some false := by decide +kernel
theorem k_tuple_bool : kitB "tuple" "bool" = some false := by decide +kernel
@[simp] theorem isi_NoneType_int : dIsi "int" .none = some (.bool false) := isi_of rfl k_NoneType_int
@[simp] theorem isi_NoneType_str : dIsi "str" .none = some (.bool false) := isi_of rfl k_NoneType_str
@[simp] theorem isi_NoneType_dict : dIsi "dict" .none = some (.bool false) := isi_of rfl k_NoneType_dict
@[simp] theorem isi_NoneType_tuple : dIsi "tuple" .none = some (.bool false) := isi_of rfl k_NoneType_tuple
@[simp] theorem isi_NoneType_list : dIsi "list" .none = some (.bool false) := isi_of rfl k_NoneType_list
@[simp] theorem isi_NoneType_bool : dIsi "bool" .none = some (.bool false) := isi_of rfl k_NoneType_bool
@[simp] theorem isi_bool_int (x) : dIsi "int" (.bool x) = some (.bool true) := isi_of rfl k_bool_int
@[simp] theorem isi_bool_str (x) : dIsi "str" (.bool x) = some (.bool false) := isi_of rfl k_bool_str
@[simp] theorem isi_bool_dict (x) : dIsi "dict" (.bool x) = some (.bool false) := isi_of rfl k_bool_dict
@[simp] theorem isi_bool_tuple (x) : dIsi "tuple" (.bool x) = some (.bool false) := isi_of rfl k_bool_tuple
@[simp] theorem isi_bool_list (x) : dIsi "list" (.bool x) = some (.bool false) := isi_of rfl k_bool_list
@[simp] theorem isi_bool_bool (x) : dIsi "bool" (.bool x) = some (.bool true) := isi_of rfl k_bool_bool
@[simp] theorem isi_int_int (x) : dIsi "int" (.int x) = some (.bool true) := isi_of rfl k_int_int
@[simp] theorem isi_int_str (x) : dIsi "str" (.int x) = some (.bool false) := isi_of rfl k_int_str
@[simp] theorem isi_int_dict (x) : dIsi "dict" (.int x) = some (.bool false) := isi_of rfl k_int_dict
@[simp] theorem isi_int_tuple (x) : dIsi "tuple" (.int x) = some (.bool false) := isi_of rfl k_int_tuple
@[simp] theorem isi_int_list (x) : dIsi "list" (.int x) = some (.bool false) := isi_of rfl k_int_list
@[simp] theorem isi_int_bool (x) : dIsi "bool" (.int x) = some (.bool false) := isi_of rfl k_int_bool
@[simp] theorem isi_str_int (x) : dIsi "int" (.str x) = some (.bool false) := isi_of rfl k_str_int
@[simp] theorem isi_str_str (x) : dIsi "str" (.str x) = some (.bool true) := isi_of rfl k_str_str
@[simp] theorem isi_str_dict (x) : dIsi "dict" (.str x) = some (.bool false) := isi_of rfl k_str_dict
@[simp] theorem isi_str_tuple (x) : dIsi "tuple" (.str x) = some (.bool false) := isi_of rfl k_str_tuple
@[simp] theorem isi_str_list (x) : dIsi "list" (.str x) = some (.bool false) := isi_of rfl k_str_list
@[simp] theorem isi_str_bool (x) : dIsi "bool" (.str x) = some (.bool false) := isi_of rfl k_str_bool
@[simp] theorem isi_list_int (x) : dIsi "int" (.list x) = some (.bool false) := isi_of rfl k_list_int
@[simp] theorem isi_list_str (x) : dIsi "str" (.list x) = some (.bool false) := isi_of rfl k_list_str
@[simp] theorem isi_list_dict (x) : dIsi "dict" (.list x) = some (.bool false) := isi_of rfl k_list_dict
@[simp] theorem isi_list_tuple (x) : dIsi "tuple" (.list x) = some (.bool false) := isi_of rfl k_list_tuple
@[simp] theorem isi_list_list (x) : dIsi "list" (.list x) = some (.bool true) := isi_of rfl k_list_list
@[simp] theorem isi_list_bool (x) : dIsi "bool" (.list x) = some (.bool false) := isi_of rfl k_list_bool
@[simp] theorem isi_tuple_int (x) : dIsi "int" (.tuple x) = some (.bool false) := isi_of rfl k_tuple_int
@[simp] theorem isi_tuple_str (x) : dIsi "str" (.tuple x) = some (.bool false) := isi_of rfl k_tuple_str
@[simp] theorem isi_tuple_dict (x) : dIsi "dict" (.tuple x) = some (.bool false) := isi_of rfl k_tuple_dict
@[simp] theorem isi_tuple_tuple (x) : dIsi "tuple" (.tuple x) = some (.bool true) := isi_of rfl k_tuple_tuple
@[simp] theorem isi_tuple_list (x) : dIsi "list" (.tuple x) = some (.bool false) := isi_of rfl k_tuple_list
@[simp] theorem isi_tuple_bool (x) : dIsi "bool" (.tuple x) = some (.bool false) := isi_of rfl k_tuple_bool

/-- data that _law_same finds alike itself -/
def nice : Nat → PyData → Bool
  | 0, _ => false
  | _ + 1, .none => true
  | _ + 1, .bool _ => true
  | _ + 1, .int _ => true
  | _ + 1, .str _ => true
  | n + 1, .list ds => decide (ds.length ≤ 1000000000) && ds.all (nice n)
  | n + 1, .tuple ds => decide (ds.length ≤ 1000000000) && ds.all (nice n)
  | _ + 1, .dict _ => false
@[simp] theorem dNe_bool (a b : Bool) : dNe (.bool a) (.bool b) = some (.bool (a != b)) := by cases a <;> cases b <;> rfl
@[simp] theorem dEq_bool (a b : Bool) : dEq (.bool a) (.bool b) = some (.bool (a == b)) := by cases a <;> cases b <;> rfl
theorem dEq_str (a : Str) : dEq (.str a) (.str a) = some (.bool true) := by
  unfold dEq dEqv
  simp [PyData.plain, PyData.depth, PyData.eqv]
theorem same_list (n : Nat) (ds : List PyData) (h1 : ds.length ≤ 1000000000) (h2 : ∀ x ∈ ds, _law_same_D n [x, x] = some (.bool true)) : _law_same_D (n + 1) [.list ds, .list ds] = some (.bool true) := by
  have hr : rgOk (ds.length : Int) = true := rgOk_nat' (by omega) (by omega)
  obtain ⟨ρ', e, x, rfl⟩ := forGo_inv (as := asName 2) (body := (sIf (bNot (b1 (oE (eCall (aCons (e2 (oE (eVar 0)) (oE (eVar 2)) dIdx) (aCons (e2 (oE (eVar 1)) (oE (eVar 2)) dIdx) aNil)) (_law_same_D n))) dTru)) (sRet (eC (.bool false))) sNil))
      (I := fun _ ρ => ∃ x, ρ = [some (.fr (.list ds)), some (.fr (.list ds)), x, none]) (rgD 0 1 ds.length) 0 [some (.fr (.list ds)), some (.fr (.list ds)), none, none] ⟨_, rfl⟩
      (by
        rintro i d ρ hd ⟨x, rfl⟩
        obtain ⟨hi, rfl⟩ := rgD_get hd
        have e2 : atI ds ((i : Int)) = some ds[i] := by rw [atI_nat hi, List.getElem?_eq_getElem hi]
        have ih := h2 _ (List.getElem_mem hi)
        exact ⟨_, .nx, _, rfl, (by simp [e2, ih]; rfl), .inl rfl, _, rfl⟩)
  simp [_law_same_D, body__law_same, hr, e]
theorem same_tuple (n : Nat) (ds : List PyData) (h1 : ds.length ≤ 1000000000) (h2 : ∀ x ∈ ds, _law_same_D n [x, x] = some (.bool true)) : _law_same_D (n + 1) [.tuple ds, .tuple ds] = some (.bool true) := by
  have hr : rgOk (ds.length : Int) = true := rgOk_nat' (by omega) (by omega)
  obtain ⟨ρ', e, x, rfl⟩ := forGo_inv (as := asName 2) (body := (sIf (bNot (b1 (oE (eCall (aCons (e2 (oE (eVar 0)) (oE (eVar 2)) dIdx) (aCons (e2 (oE (eVar 1)) (oE (eVar 2)) dIdx) aNil)) (_law_same_D n))) dTru)) (sRet (eC (.bool false))) sNil))
      (I := fun _ ρ => ∃ x, ρ = [some (.fr (.tuple ds)), some (.fr (.tuple ds)), x, none]) (rgD 0 1 ds.length) 0 [some (.fr (.tuple ds)), some (.fr (.tuple ds)), none, none] ⟨_, rfl⟩
      (by
        rintro i d ρ hd ⟨x, rfl⟩
        obtain ⟨hi, rfl⟩ := rgD_get hd
        have e2 : atI ds ((i : Int)) = some ds[i] := by rw [atI_nat hi, List.getElem?_eq_getElem hi]
        have ih := h2 _ (List.getElem_mem hi)
        exact ⟨_, .nx, _, rfl, (by simp [e2, ih]; rfl), .inl rfl, _, rfl⟩)
  simp [_law_same_D, body__law_same, hr, e]
theorem same_refl (n : Nat) : ∀ d : PyData, nice n d = true → _law_same_D n [d, d] = some (.bool true) := by
  induction n with
  | zero => intro d h; cases h
  | succ n ih =>
    intro d h
    cases d with
    | none => simp [_law_same_D, body__law_same]
    | bool b => cases b <;> simp [_law_same_D, body__law_same]
    | int i => simp [_law_same_D, body__law_same]
    | str i => simp [_law_same_D, body__law_same, dEq_str]
    | list ds =>
      unfold nice at h
      simp only [Bool.and_eq_true, decide_eq_true_eq, List.all_eq_true] at h
      exact same_list n ds h.1 fun x hx => ih x (h.2 x hx)
    | tuple ds =>
      unfold nice at h
      simp only [Bool.and_eq_true, decide_eq_true_eq, List.all_eq_true] at h
      exact same_tuple n ds h.1 fun x hx => ih x (h.2 x hx)
    | dict ds => cases h
end PD
namespace PD
open PySem PySem.Spec L2
theorem ints_get (ns : List Int) (k : Nat) : (ns.map PyData.int)[k]? = (ns[k]?).map PyData.int := List.getElem?_map
theorem plainAll_ints : ∀ ns : List Int, PyData.plainAll (ns.map .int) = true
  | [] => by simp [PyData.plainAll]
  | n :: ns => by simp [PyData.plainAll, PyData.plain, plainAll_ints ns]
theorem depthAll_ints : ∀ ns : List Int, PyData.depthAll (ns.map .int) = 0
  | [] => by simp [PyData.depthAll]
  | n :: ns => by simp [PyData.depthAll, PyData.depth, depthAll_ints ns]
theorem any_ints (x : Int) (ns : List Int) : ((ns.map PyData.int).any fun y => PyData.eqv y (.int x)) = ns.contains x := by
  rw [List.any_map, List.contains_eq_any_beq]
  congr 1
  funext y
  show (y == x) = (x == y)
  rw [Bool.eq_iff_iff, beq_iff_eq, beq_iff_eq]
  exact ⟨Eq.symm, Eq.symm⟩
theorem inOk_ints (x : Int) (ns : List Int) : inOk (.int x) (ns.map .int) = true := by
  simp [inOk, plainAll_ints, PyData.plain, depthAll_ints]
theorem dIn_tints (neg : Bool) (x : Int) (ns : List Int) : dIn neg (.int x) (.tuple (ns.map .int)) = some (.bool (neg != ns.contains x)) := by
  show (if inOk (.int x) (ns.map .int) then some (PyData.bool (neg != (ns.map PyData.int).any fun y => PyData.eqv y (.int x))) else none) = _
  rw [if_pos (inOk_ints x ns), any_ints]
theorem dIn_lints (neg : Bool) (x : Int) (ns : List Int) : dIn neg (.int x) (.list (ns.map .int)) = some (.bool (neg != ns.contains x)) := by
  show (if inOk (.int x) (ns.map .int) then some (PyData.bool (neg != (ns.map PyData.int).any fun y => PyData.eqv y (.int x))) else none) = _
  rw [if_pos (inOk_ints x ns), any_ints]
@[simp] theorem dIn_t2 (neg : Bool) (x i j : Int) : dIn neg (.int x) (.tuple [.int i, .int j]) = some (.bool (neg != (decide (x = i) || decide (x = j)))) := by
  have := dIn_tints neg x [i, j]
  simpa [List.contains_cons] using this
@[simp] theorem dIn_l2 (neg : Bool) (x i j : Int) : dIn neg (.int x) (.list [.int i, .int j]) = some (.bool (neg != (decide (x = i) || decide (x = j)))) := by
  have := dIn_lints neg x [i, j]
  simpa [List.contains_cons] using this
open PySem.W in
theorem dataLe_int (i j : Int) : dataLe false id (.int i) (.int j) = decide (i ≤ j) := by
  show (!PyProof.Rows.lexLt PyProof.Rows.itemOrd [.inl j] [.inl i]) = _
  rw [PyProof.Rows.lex_cons]
  show (!(decide (j < i) || (!decide (i < j) && false))) = _
  by_cases h : i ≤ j
  · have : ¬ j < i := by omega
    simp [h, this]
  · have : j < i := by omega
    simp [h, this]
theorem sortD_ints {ns : List Int} (h : ns.Nodup) : sortD (ns.map .int) = (sset ns).map .int := by
  unfold sortD
  rw [← List.map_mergeSort (r := fun i j => decide (i ≤ j)) (f := PyData.int) fun a _ b _ => (dataLe_int a b).symm]
  congr 1
  have p := List.pairwise_mergeSort (le := fun (i j : Int) => decide (i ≤ j)) (fun a b c h1 h2 => by simp at *; omega) (fun a b => by simp; omega) ns
  have pm := List.mergeSort_perm ns (fun (i j : Int) => decide (i ≤ j))
  have nd : (ns.mergeSort fun i j => decide (i ≤ j)).Nodup := (pm.nodup_iff).mpr h
  refine ris_ext ?_ ris_sset fun k => by rw [pm.mem_iff, mem_sset]
  refine List.Pairwise.imp₂ (R := fun a b => decide (a ≤ b) = true) (S := fun a b => a ≠ b) ?_ p nd
  intro a b h1 h2
  simp at h1
  omega
open PySem.W in
theorem sortOk_ints {ns : List Int} (h : ns.length ≤ 1000) : sortOk (ns.map .int) = true := by
  have h3 : ns.length ≤ sizeLine := le_size h
  simp only [sortOk, plainAll_ints, List.length_map, h3, decide_true, Bool.and_true, Bool.and_eq_true, Bool.or_eq_true, List.all_map, List.all_eq_true]
  refine ⟨⟨fun x _ => ?_, .inr fun x _ => ?_⟩, fun x _ => ?_⟩
  · simp [alike]
  · simp
  · simp [PyData.depth]
theorem dSorted_ints {ns : List Int} (h : ns.Nodup) (hl : ns.length ≤ 1000) : dSorted (.list (ns.map .int)) = some ((sset ns).map .int) := by
  show (if sortOk (ns.map .int) then some (sortD (ns.map .int)) else none) = _
  rw [if_pos (sortOk_ints hl), sortD_ints h]
theorem dSortedSet_ints {ns : List Int} (hl : ns.length < 64) : dSortedSet (.tuple (ns.map .int)) = some ((sset ns).map .int) := by
  show ((intsOf (ns.map .int)).bind fun ns => if ns.length < 64 then some ((sset ns).map PyData.int) else none) = _
  rw [intsOf_map]; simp [hl]
theorem enumD_map {α : Type} (f : α → PyData) (xs : List α) : enumD (xs.map f) = xs.zipIdx.map fun p => .tuple [.int (p.2 : Nat), f p.1] := by
  unfold enumD
  rw [List.zipIdx_map, List.map_map]
  apply List.map_congr_left
  intro p _
  rfl
theorem dAll_bools (bs : List Bool) : dAll (.list (bs.map .bool)) = some (.bool (bs.all id)) := by
  show (boolsOf (bs.map .bool)).bind _ = _
  rw [boolsOf_map]; rfl
theorem dAny_bools (bs : List Bool) : dAny (.list (bs.map .bool)) = some (.bool (bs.any id)) := by
  show (boolsOf (bs.map .bool)).bind _ = _
  rw [boolsOf_map]; rfl
theorem dSum_ints (ns : List Int) : dSum (.list (ns.map .int)) = some (.int ns.sum) := by
  show (intsOf (ns.map .int)).bind _ = _
  rw [intsOf_map]; rfl
theorem len_sset (ns : List Int) : (sset ns).length ≤ ns.length := by
  induction ns with
  | nil => simp [sset]
  | cons n ns ih =>
    have : ∀ xs : List Int, (insS n xs).length ≤ xs.length + 1 := by
      intro xs
      induction xs with
      | nil => simp [insS]
      | cons x xs ih2 => unfold insS; split <;> (try split) <;> simp <;> omega
    have := this (sset ns)
    show (insS n (sset ns)).length ≤ _
    simp; omega
theorem ris_len0 {n : Int} : ∀ (ns : List Int) (a : Int), ns.Pairwise (· < ·) → (∀ x ∈ ns, a ≤ x ∧ x < n) → ns.length ≤ (n - a).toNat
  | [], _, _, _ => Nat.zero_le _
  | x :: xs, a, h, hm => by
    obtain ⟨h1, h2⟩ := List.pairwise_cons.mp h
    obtain ⟨b1, b2⟩ := hm x (by simp)
    have := ris_len0 xs (x + 1) h2 fun y hy => ⟨by have := h1 y hy; omega, (hm y (List.mem_cons_of_mem _ hy)).2⟩
    simp; omega
/-- an ascending list within [0, n) is no longer than n -/
theorem ris_len {ns : List Int} {n : Nat} (h : ns.Pairwise (· < ·)) (hm : ∀ x ∈ ns, 0 ≤ x ∧ x < n) : ns.length ≤ n := by
  have := ris_len0 ns 0 h hm
  omega
/-- a loop that takes one state into the next, with whatever else lies in the slots -/
theorem forGo_st {σ α : Type} {as : PyData → Rho → Option Rho} {body : MS} (e : α → PyData) (f : σ → α → σ) (R : σ → Rho → Prop) : ∀ (xs : List α) (s : σ) (ρ : Rho), R s ρ →
    (∀ s x ρ, x ∈ xs → R s ρ → ∃ o ρ', kv (as (e x) ρ) body = some (o, ρ') ∧ (o = .nx ∨ o = .ct) ∧ R (f s x) ρ') → ∃ ρ', forGo as body (xs.map e) ρ = some (.nx, ρ') ∧ R (xs.foldl f s) ρ'
  | [], s, ρ, h0, _ => ⟨ρ, rfl, h0⟩
  | x :: xs, s, ρ, h0, h => by
    obtain ⟨o, ρ1, h1, h2, h3⟩ := h s x ρ (by simp) h0
    obtain ⟨ρ', h4, h5⟩ := forGo_st e f R xs (f s x) ρ1 h3 fun s y ρ hy => h s y ρ (List.mem_cons_of_mem _ hy)
    refine ⟨ρ', ?_, h5⟩
    rw [List.map_cons]
    unfold forGo
    cases e1 : as (e x) ρ with
    | none => rw [e1] at h1; cases h1
    | some ρ0 =>
      rw [e1] at h1
      rw [kv_some] at h1
      simp only [Option.bind_some]
      rw [h1]
      rcases h2 with rfl | rfl <;> exact h4
@[simp] theorem rgD_zero (lo c : Int) : rgD lo c 0 = [] := (rfl)
theorem cutD_take {α : Type} (xs : List α) {k : Nat} (h : k ≤ xs.length) : cutD xs none (some (k : Int)) = xs.take k := by
  unfold cutD
  rw [HT.sIx_none, HT.sIx_nat, Nat.min_eq_left h]
  simp
theorem cutD_drop {α : Type} (xs : List α) {k : Nat} (h : k ≤ xs.length) : cutD xs (some (k : Int)) none = xs.drop k := by
  unfold cutD
  rw [HT.sIx_none, HT.sIx_nat, Nat.min_eq_left h]
  rw [List.take_of_length_le (by simp)]
theorem cutD_mid {α : Type} (xs : List α) {j k : Nat} (h : k ≤ xs.length) (hj : j ≤ xs.length) : cutD xs (some (j : Int)) (some (k : Int)) = (xs.drop j).take (k - j) := by
  unfold cutD
  rw [HT.sIx_nat, HT.sIx_nat, Nat.min_eq_left h, Nat.min_eq_left hj]
/-- a slot that holds data, or nothing -/
def fz (x : Option PyData) : Option EV := x.map EV.fr
@[simp] theorem fz_none : fz none = none := (rfl)
theorem fz_some (d : PyData) : fz (some d) = some (.fr d) := (rfl)
def okO : Option (Option EV) → Bool
  | some (some (.fr _)) => true
  | some (some _) => false
  | _ => true
@[simp] theorem okO_none : okO (some none) = true := (rfl)
@[simp] theorem okO_fr (d) : okO (some (some (.fr d))) = true := (rfl)
@[simp] theorem okO_fz (x) : okO (some (fz x)) = true := by cases x <;> rfl
@[simp] theorem noOwn_nil (ρ : Rho) : noOwn ρ [] = true := (rfl)
@[simp] theorem noOwn_cons (ρ : Rho) (v : Nat) (vs : List Nat) : noOwn ρ (v :: vs) = (okO ρ[v]? && noOwn ρ vs) := by
  first
    | rfl
    | (unfold noOwn okO; rw [List.all_cons]; done)
    | (unfold noOwn okO; rw [List.all_cons]; congr 1; all_goals (rcases ρ[v]? with _ | _ | _ | _ <;> rfl))
theorem eqvAll_map {α : Type} [DecidableEq α] {f : α → PyData} (h : ∀ a b, PyData.eqv (f a) (f b) = decide (a = b)) : ∀ (xs ys : List α), PyData.eqvAll (xs.map f) (ys.map f) = decide (xs = ys)
  | [], [] => by simp [PyData.eqvAll]
  | [], y :: ys => by simp [PyData.eqvAll]
  | x :: xs, [] => by simp [PyData.eqvAll]
  | x :: xs, y :: ys => by
    simp only [List.map_cons, PyData.eqvAll, h, eqvAll_map h xs ys]
    by_cases c : x = y <;> by_cases d : xs = ys <;> simp [c, d]
theorem eqv_i (i j : Int) : PyData.eqv (.int i) (.int j) = decide (i = j) := by
  rw [eqv_int, Bool.eq_iff_iff]; simp
theorem eqv_il (a b : List Int) : PyData.eqv (il a) (il b) = decide (a = b) := by
  exact eqvAll_map eqv_i a b
theorem eqv_it (a b : List Int) : PyData.eqv (it a) (it b) = decide (a = b) := by
  exact eqvAll_map eqv_i a b
theorem eqv_lbs (a b : List (List Int)) : PyData.eqv (.list (a.map il)) (.list (b.map il)) = decide (a = b) := by
  exact eqvAll_map eqv_il a b
theorem plainAll_map {α : Type} {f : α → PyData} (h : ∀ a, (f a).plain = true) : ∀ xs : List α, PyData.plainAll (xs.map f) = true
  | [] => by simp [PyData.plainAll]
  | x :: xs => by simp [PyData.plainAll, h, plainAll_map h xs]
theorem depthAll_map {α : Type} {f : α → PyData} {n : Nat} (h : ∀ a, (f a).depth ≤ n) : ∀ xs : List α, PyData.depthAll (xs.map f) ≤ n
  | [] => by simp [PyData.depthAll]
  | x :: xs => by
    have := depthAll_map h xs
    have := h x
    simp [PyData.depthAll]; omega
theorem plain_il (a : List Int) : (il a).plain = true := by simp [PyData.plain, plainAll_ints]
theorem depth_il (a : List Int) : (il a).depth = 1 := by simp [PyData.depth, depthAll_ints]
theorem plain_it (a : List Int) : (it a).plain = true := by simp [PyData.plain, plainAll_ints]
theorem depth_it (a : List Int) : (it a).depth = 1 := by simp [PyData.depth, depthAll_ints]
theorem plain_lbs (a : List (List Int)) : (PyData.list (a.map il)).plain = true := by simp [PyData.plain, plainAll_map plain_il]
theorem depth_lbs (a : List (List Int)) : (PyData.list (a.map il)).depth ≤ 2 := by
  have := depthAll_map (n := 1) (fun a => Nat.le_of_eq (depth_il a)) a
  simp [PyData.depth]; omega
/-- x in [..], by a code of the things -/
theorem dIn_map {α : Type} [DecidableEq α] {f : α → PyData} {n : Nat} (he : ∀ a b, PyData.eqv (f a) (f b) = decide (a = b)) (hp : ∀ a, (f a).plain = true) (hd : ∀ a, (f a).depth ≤ n) (hn : n ≤ 60) (neg : Bool) (x : α) (xs : List α) :
    dIn neg (f x) (.list (xs.map f)) = some (.bool (neg != decide (x ∈ xs))) := by
  have h1 : inOk (f x) (xs.map f) = true := by
    have := depthAll_map hd xs
    simp [inOk, hp, plainAll_map hp]
    omega
  have h2 : ((xs.map f).any fun y => PyData.eqv y (f x)) = decide (x ∈ xs) := by
    rw [List.any_map, Bool.eq_iff_iff, List.any_eq_true, decide_eq_true_iff]
    constructor
    · rintro ⟨y, hy, e⟩
      simp [he] at e
      subst e; exact hy
    · exact fun h => ⟨x, h, by simp [he]⟩
  have : dIn neg (f x) (.list (xs.map f)) = (if inOk (f x) (xs.map f) then some (PyData.bool (neg != (xs.map f).any fun y => PyData.eqv y (f x))) else none) := by
    cases f x <;> rfl
  rw [this, if_pos h1, h2]
theorem dIn_mapT {α : Type} [DecidableEq α] {f : α → PyData} {n : Nat} (he : ∀ a b, PyData.eqv (f a) (f b) = decide (a = b)) (hp : ∀ a, (f a).plain = true) (hd : ∀ a, (f a).depth ≤ n) (hn : n ≤ 60) (neg : Bool) (x : α) (xs : List α) :
    dIn neg (f x) (.tuple (xs.map f)) = some (.bool (neg != decide (x ∈ xs))) := by
  have := dIn_map he hp hd hn neg x xs
  rw [← this]
  cases f x <;> rfl
theorem forGo_lst {α : Type} {as : PyData → Rho → Option Rho} {body : MS} (e : α → PyData) (xs : List α) (R : Nat → Rho → Prop) {ρ : Rho} (h0 : R 0 ρ)
    (step : ∀ k x ρ, xs[k]? = some x → R k ρ → ∃ o ρ', kv (as (e x) ρ) body = some (o, ρ') ∧ (o = .nx ∨ o = .ct) ∧ R (k + 1) ρ') : ∃ ρ', forGo as body (xs.map e) ρ = some (.nx, ρ') ∧ R xs.length ρ' := by
  obtain ⟨ρ', h1, h2⟩ := forGo_inv (as := as) (body := body) (I := R) (xs.map e) 0 ρ h0 fun i d ρ hd hI => by
    rw [List.getElem?_map] at hd
    cases hx : xs[i]? with
    | none => rw [hx] at hd; cases hd
    | some x =>
      rw [hx] at hd
      cases hd
      rw [Nat.zero_add] at hI ⊢
      obtain ⟨o, ρ', h1, h2, h3⟩ := step i x ρ hx hI
      cases e1 : as (e x) ρ with
      | none => rw [e1] at h1; cases h1
      | some ρ1 => rw [e1] at h1; exact ⟨ρ1, o, ρ', rfl, h1, h2, h3⟩
  exact ⟨ρ', h1, by simpa using h2⟩
theorem forGo_rng {as : PyData → Rho → Option Rho} {body : MS} (n : Nat) (R : Nat → Rho → Prop) {ρ : Rho} (h0 : R 0 ρ)
    (step : ∀ k ρ, k < n → R k ρ → ∃ o ρ', kv (as (.int (k : Int)) ρ) body = some (o, ρ') ∧ (o = .nx ∨ o = .ct) ∧ R (k + 1) ρ') : ∃ ρ', forGo as body (rgD 0 1 n) ρ = some (.nx, ρ') ∧ R n ρ' := by
  rw [rgD0]
  obtain ⟨ρ', h1, h2⟩ := forGo_lst (as := as) (body := body) (fun k : Nat => PyData.int (k : Int)) (List.range n) R h0 fun k x ρ hx hI => by
    have hk : k < n := by have := (List.getElem?_eq_some_iff.mp hx).1; simpa using this
    rw [List.getElem?_range hk] at hx
    cases hx
    exact step k ρ hk hI
  exact ⟨ρ', h1, by simpa using h2⟩
theorem range_fold {σ : Type} (f : σ → Nat → σ) (s : σ) (k : Nat) : (List.range (k + 1)).foldl f s = f ((List.range k).foldl f s) k := by
  rw [List.range_succ, List.foldl_append]; rfl
theorem take_fold {σ α : Type} (f : σ → α → σ) (s : σ) {xs : List α} {k : Nat} {x : α} (h : xs[k]? = some x) : (xs.take (k + 1)).foldl f s = f ((xs.take k).foldl f s) x := by
  rw [List.take_add_one, h, List.foldl_append]; rfl
/-- a comprehension whose element draws -/
theorem lcGo_inv {α : Type} {vs : List Nat} {as : PyData → Rho → Option Rho} {el : M PyData} (e : α → PyData) (P : PyData → Prop) (R : Rho → Prop) : ∀ (xs : List α) (ρ : Rho), R ρ →
    (∀ x ρ, x ∈ xs → R ρ → ∃ ρ1 d ρ2, as (e x) ρ = some ρ1 ∧ el ρ1 = some (d, ρ2) ∧ P d ∧ R (wipeR ρ2 vs)) → ∃ ds ρ', lcGo vs as bYes el (xs.map e) ρ = some (ds, ρ') ∧ ds.length = xs.length ∧ (∀ d ∈ ds, P d) ∧ R ρ'
  | [], ρ, h0, _ => ⟨[], ρ, rfl, rfl, fun d h => (by cases h), h0⟩
  | x :: xs, ρ, h0, h => by
    obtain ⟨ρ1, d, ρ2, h1, h2, h3, h4⟩ := h x ρ (by simp) h0
    obtain ⟨ds, ρ', h5, h6, h7, h8⟩ := lcGo_inv e P R xs (wipeR ρ2 vs) h4 fun y ρ hy => h y ρ (List.mem_cons_of_mem _ hy)
    refine ⟨d :: ds, ρ', ?_, by simp [h6], fun d' hd => ?_, h8⟩
    · rw [List.map_cons]
      unfold lcGo
      rw [h1]; simp only [Option.bind_some, bYes_app, if_true]
      rw [h2]; simp only [Option.bind_some]
      rw [h5]; rfl
    · rcases List.mem_cons.mp hd with rfl | q
      · exact h3
      · exact h7 d' q
theorem lcD_inv {α : Type} {vs : List Nat} {it : M (List PyData)} {as : PyData → Rho → Option Rho} {el : M PyData} (e : α → PyData) (P : PyData → Prop) (R : Rho → Prop) {ρ ρ1 : Rho} (xs : List α) (hi : it ρ = some (xs.map e, ρ1)) (hno : noOwn ρ1 vs = true) (hl : xs.length ≤ sizeLine) (h0 : R (wipeR ρ1 vs))
    (h : ∀ x ρ, x ∈ xs → R ρ → ∃ ρ1 d ρ2, as (e x) ρ = some ρ1 ∧ el ρ1 = some (d, ρ2) ∧ P d ∧ R (wipeR ρ2 vs)) : ∃ ds ρ', lcD vs it as bYes el ρ = some (ds, backR ρ1 ρ' vs) ∧ ds.length = xs.length ∧ (∀ d ∈ ds, P d) ∧ R ρ' := by
  obtain ⟨ds, ρ', h1, h2, h3, h4⟩ := lcGo_inv e P R xs _ h0 h
  refine ⟨ds, ρ', ?_, h2, h3, h4⟩
  unfold lcD
  rw [hi]
  simp only [Option.bind_some]
  rw [hno, h1]
  simp [hl]
theorem ints_of : ∀ {ds : List PyData}, (∀ d ∈ ds, ∃ i, d = .int i) → ∃ is : List Int, ds = is.map .int
  | [], _ => ⟨[], rfl⟩
  | d :: ds, h => by
    obtain ⟨i, rfl⟩ := h d (by simp)
    obtain ⟨is, rfl⟩ := ints_of fun d hd => h d (List.mem_cons_of_mem _ hd)
    exact ⟨i :: is, rfl⟩
end PD
namespace K89
open PySem PySem.Spec L2 PD
def top (i : Nat) : Stmt := PySem.Challenge.pw_crosswire_k89_whole_mergers.main.body.getD i (.Pass ⟨0, 0, 0, 0⟩)
structure Txt (mg : Str → Option Value) : Prop where
  bool : mg "bool" = none
  dict : mg "dict" = none
  enumerate : mg "enumerate" = none
  int : mg "int" = none
  isinstance : mg "isinstance" = none
  len : mg "len" = none
  list : mg "list" = none
  max : mg "max" = none
  min : mg "min" = none
  range : mg "range" = none
  sorted : mg "sorted" = none
  str : mg "str" = none
  tuple : mg "tuple" = none
abbrev s_merger_of : Stmt := top 1
theorem sc_merger_of : FnScope ["one", "other", "wires", "last", "first", "even", "second", "odd", "at", "wire"] ["one", "other"] (defScope s_merger_of) := ⟨rfl, rfl, rfl, by decide +kernel, rfl, by decide +kernel, by decide +kernel⟩
def body_merger_of (rec : List PyData → Option PyData) : MS := (sSeq (sIf (bOr (bNot (b1 (oE (eVar 0)) dTru)) (bNot (b1 (oE (eVar 1)) dTru))) (sRet (eTup (aCons (eN (nLst aNil)) (aCons (e2 (oE (eVar 0)) (oE (eVar 1)) dAdd) aNil)))) sNil) (sSeq (sIf (bAnd (bT (e2 (oE (e1 (oE (eVar 0)) dLen)) (oE (eC (.int 1))) dEq)) (bT (e2 (oE (e1 (oE (eVar 1)) dLen)) (oE (eC (.int 1))) dEq))) (sRet (eTup (aCons (eN (nLst (aCons (eTup (aCons (e2 (oE (eVar 0)) (oE (eC (.int 0))) dIdx) (aCons (e2 (oE (eVar 1)) (oE (eC (.int 0))) dIdx) aNil))) aNil))) (aCons (eN (nLst (aCons (e2 (oE (eVar 0)) (oE (eC (.int 0))) dIdx) (aCons (e2 (oE (eVar 1)) (oE (eC (.int 0))) dIdx) aNil)))) aNil)))) sNil) (sSeq (sAsg (eCall (aCons (eN (nStp (oE (eVar 0)) pNo pNo (pSo (eC (.int 2))))) (aCons (eN (nStp (oE (eVar 1)) pNo pNo (pSo (eC (.int 2))))) aNil)) rec) (asTup 2 (asCons (asName 4) (asCons (asName 5) asNil)))) (sSeq (sAsg (eCall (aCons (eN (nStp (oE (eVar 0)) (pSo (eC (.int 1))) pNo (pSo (eC (.int 2))))) (aCons (eN (nStp (oE (eVar 1)) (pSo (eC (.int 1))) pNo (pSo (eC (.int 2))))) aNil)) rec) (asTup 2 (asCons (asName 6) (asCons (asName 7) asNil)))) (sSeq (sSetN 2 (nLst aNil)) (sSeq (sFor (iEnumD (eVar 5)) (asTup 2 (asCons (asName 8) (asCons (asName 9) asNil))) (sSeq (sExpr (eOwn 2 (aCons (eVar 9) aNil) kAppend)) (sExpr (eOwn 2 (aCons (eSl (oE (eVar 7)) (pSo (eVar 8)) (pSo (e2 (oE (eVar 8)) (oE (eC (.int 1))) dAdd))) aNil) kExtend)))) (sSeq (sExpr (eOwn 2 (aCons (eSl (oE (eVar 7)) (pSo (e1 (oE (eVar 5)) dLen)) pNo) aNil) kExtend)) (sSeq (sSet 3 (eN (lcD [8] (iRange dRange3 (aCons (eC (.int 1)) (aCons (e2 (oE (e1 (oOwn 2) dLen)) (oE (eC (.int 1))) dSub) (aCons (eC (.int 2)) aNil)))) (asName 8) bYes (eTup (aCons (e2 (oOwn 2) (oE (eVar 8)) dIdx) (aCons (e2 (oOwn 2) (oE (e2 (oE (eVar 8)) (oE (eC (.int 1))) dAdd)) dIdx) aNil)))))) (sFrz 2 (sRet (eTup (aCons (e2 (oE (e2 (oE (eVar 4)) (oE (eVar 6)) dAdd)) (oE (eVar 3)) dAdd) (aCons (eVar 2) aNil)))))))))))))
def merger_of_D : Nat → List PyData → Option PyData
  | 0 => fun _ => none
  | n + 1 => runD 2 10 (body_merger_of (merger_of_D n))
theorem len_merger_of {n : Nat} {ds : List PyData} {d : PyData} (h : merger_of_D n ds = some d) : ds.length = 2 := by cases n with
  | zero => cases h
  | succ n => exact runD_len h
theorem ok_merger_of {P : Program} {w : World} {K : PySem.W.Frag} {mg : Str → Option Value} {base : Heap} {f : Addr} {fd : FuncData} (F : Fun K "merger_of" "merger_of" s_merger_of f fd) (T : Txt mg) (hmg : mg "merger_of" = some (.ref f)) (hb : Binds K fd ["one", "other"] []) : ∀ n : Nat, FnOk P w K mg base CX0 (0 + n) f fd ["one", "other"] (spD K 2 (merger_of_D n))
  | 0 => fn_none
  | n + 1 => by
    have C_merger_of : Cal P w K mg base "merger_of" ["one", "other"] (0 + n) (spD K 2 (merger_of_D n)) := ⟨⟨f, fd, ok_merger_of F T hmg hb n, hmg, F.kp, hb⟩⟩
    have nd := sc_merger_of.nd
    exact (fn_pure (k := 0 + n) F sc_merger_of fun cdv A outer s H E hr => by
      have hu := hr.units
      have hrec : ∀ ds d, (merger_of_D n) ds = some d → ds.length = 2 := fun ds d h => len_merger_of h
      exact (dss_cons (ds_if (PW.pt (dw_or (db_not (db_tru (do_e (de_var 0 (pv 0))))) (dw_or1 (db_not (db_tru (do_e (de_var 1 (pv 1)))))))) (dss_one (ds_ret (de_tup (da_cons (de_nd (dn_lst da_nil)) (da_cons (de_bin op_add_ (do_e (de_var 0 (pv 0))) (do_e (de_var 1 (pv 1)))) da_nil))))) dss_nil) (dss_cons (ds_if (PW.pt (dw_and (db_cmp (op_eq_ hu) (do_e (de_call1 call_len_ rfl T.len bt_len (do_e (de_var 0 (pv 0))))) (do_e de_int)) (dw_and1 (db_cmp (op_eq_ hu) (do_e (de_call1 call_len_ rfl T.len bt_len (do_e (de_var 1 (pv 1))))) (do_e de_int))))) (dss_one (ds_ret (de_tup (da_cons (de_nd (dn_lst (da_cons (de_tup (da_cons (de_sub ix_ (do_e (de_var 0 (pv 0))) (do_e de_int)) (da_cons (de_sub ix_ (do_e (de_var 1 (pv 1))) (do_e de_int)) da_nil))) da_nil))) (da_cons (de_nd (dn_lst (da_cons (de_sub ix_ (do_e (de_var 0 (pv 0))) (do_e de_int)) (da_cons (de_sub ix_ (do_e (de_var 1 (pv 1))) (do_e de_int)) da_nil)))) da_nil))))) dss_nil) (dss_cons (ds_asg (dc_call C_merger_of (fun _ _ h => hrec _ _ h) rfl (hr.mono (by first | decide | omega)) rfl (da_cons (de_nd (dn_stp (do_e (de_var 0 (pv 0))) dp_no dp_no (dp_so de_int))) (da_cons (de_nd (dn_stp (do_e (de_var 1 (pv 1))) dp_no dp_no (dp_so de_int))) da_nil))) (dg_tup (n := 2) rfl (dgs_cons (dg_name (i := 4) (pg_name (i := 4) nd rfl (by first | exact Or.inl rfl | exact Or.inr rfl))) (dgs_cons (dg_name (i := 5) (pg_name (i := 5) nd rfl (by first | exact Or.inl rfl | exact Or.inr rfl))) dgs_nil)))) (dss_cons (ds_asg (dc_call C_merger_of (fun _ _ h => hrec _ _ h) rfl (hr.mono (by first | decide | omega)) rfl (da_cons (de_nd (dn_stp (do_e (de_var 0 (pv 0))) (dp_so de_int) dp_no (dp_so de_int))) (da_cons (de_nd (dn_stp (do_e (de_var 1 (pv 1))) (dp_so de_int) dp_no (dp_so de_int))) da_nil))) (dg_tup (n := 2) rfl (dgs_cons (dg_name (i := 6) (pg_name (i := 6) nd rfl (by first | exact Or.inl rfl | exact Or.inr rfl))) (dgs_cons (dg_name (i := 7) (pg_name (i := 7) nd rfl (by first | exact Or.inl rfl | exact Or.inr rfl))) dgs_nil)))) (dss_cons (ds_setN (i := 2) (ps_set (i := 2) nd rfl (by first | exact Or.inl rfl | exact Or.inr rfl) (dn_lst da_nil))) (dss_cons (ds_for (ps_for PassesOwn.never rfl (di_enum rfl T.enumerate (de_var 5 (pv 5))) (dg_tup (n := 2) rfl (dgs_cons (dg_name (i := 8) (pg_name (i := 8) nd rfl (by first | exact Or.inl rfl | exact Or.inr rfl))) (dgs_cons (dg_name (i := 9) (pg_name (i := 9) nd rfl (by first | exact Or.inl rfl | exact Or.inr rfl))) dgs_nil))) (dss_cons (ds_expr (de_own (id := "") (i := 2) mo_append (pe_bm PySem.F.plainAttrs_list PySem.F.slot_list_append PySem.F.type_list_append mt_append (pv 2) (da_cons (de_var 9 (pv 9)) da_nil)))) (dss_one (ds_expr (de_extend (i := 2) (pe_bm PySem.F.plainAttrs_list PySem.F.slot_list_extend PySem.F.type_list_extend mt_extendD (pv 2) (da_cons (de_slice (do_e (de_var 7 (pv 7))) (dp_so (de_var 8 (pv 8))) (dp_so (de_bin op_add_ (do_e (de_var 8 (pv 8))) (do_e de_int)))) da_nil)))))))) (dss_cons (ds_expr (de_extend (i := 2) (pe_bm PySem.F.plainAttrs_list PySem.F.slot_list_extend PySem.F.type_list_extend mt_extendD (pv 2) (da_cons (de_slice (do_e (de_var 7 (pv 7))) (dp_so (de_call1 call_len_ rfl T.len bt_len (do_e (de_var 5 (pv 5))))) dp_no) da_nil)))) (dss_cons (ds_setF (i := 3) (ps_setLc_ (i := 3) (own := [("at", 8)]) rfl nd rfl rfl (sw_true rfl rfl rfl (by kernel_rfl)) (di_range3 rfl T.range (da_cons de_int (da_cons (de_bin op_sub_ (do_e (de_call1 call_len_ rfl T.len bt_len (do_own 2 (pv 2)))) (do_e de_int)) (da_cons de_int da_nil)))) (blkOk_by (by kernel_rfl)) (fun _ _ _ _ _ => (dv_name (i := 8) (pg_name (i := 8) nd rfl (by first | exact Or.inl rfl | exact Or.inr rfl)))) (fun _ _ _ _ _ => dts_nil) (fun _ _ _ _ _ => (de_tup (da_cons (de_sub ix_ (do_own 2 (pv 2)) (do_e (de_var 8 (pv 8)))) (da_cons (de_sub ix_ (do_own 2 (pv 2)) (do_e (de_bin op_add_ (do_e (de_var 8 (pv 8))) (do_e de_int)))) da_nil)))))) (dss_one (ds_frz 2 (ds_ret (de_tup (da_cons (de_bin op_add_ (do_e (de_bin op_add_ (do_e (de_var 4 (pv 4))) (do_e (de_var 6 (pv 6))))) (do_e (de_var 3 (pv 3)))) (da_cons (de_var 2 (pv 2)) da_nil)))))))))))))))
abbrev s_merging : Stmt := top 2
theorem sc_merging : FnScope ["p", "q", "switches", "wires"] ["p", "q"] (defScope s_merging) := ⟨rfl, rfl, rfl, by decide +kernel, rfl, by decide +kernel, by decide +kernel⟩
def body_merging : MS := (sSeq (sAsg (eCall (aCons (eN (nRg1 (eVar 0))) (aCons (eN (nRg2 (eVar 0) (e2 (oE (eVar 0)) (oE (eVar 1)) dAdd))) aNil)) (merger_of_D 20)) (asTup 2 (asCons (asName 2) (asCons (asName 3) asNil)))) (sRet (eTup (aCons (eTup (aCons (e2 (oE (eVar 0)) (oE (eVar 1)) dAdd) (aCons (eVar 2) aNil))) (aCons (eVar 3) aNil)))))
def merging_D : List PyData → Option PyData := runD 2 4 body_merging
theorem len_merging {ds : List PyData} {d : PyData} (h : merging_D ds = some d) : ds.length = 2 := runD_len h
theorem ok_merging {P : Program} {w : World} {K : PySem.W.Frag} {mg : Str → Option Value} {base : Heap} {f : Addr} {fd : FuncData} (F : Fun K "merging" "merging" s_merging f fd) (T : Txt mg) (C_merger_of : Cal P w K mg base "merger_of" ["one", "other"] 21 (spD K 2 (merger_of_D 20))) : FnOk P w K mg base CX0 22 f fd ["p", "q"] (spD K 2 merging_D) := by
  have nd := sc_merging.nd
  exact fn_pure F sc_merging fun cdv A outer s H E hr => by
    have hu := hr.units
    exact (dss_cons (ds_asg (dc_call C_merger_of (fun _ _ h => len_merger_of h) rfl (hr.mono (by decide)) rfl (da_cons (de_nd (dn_listRange1 rfl rfl T.list rfl T.range (de_var 0 (pv 0)))) (da_cons (de_nd (dn_listRange2 rfl rfl T.list rfl T.range (de_var 0 (pv 0)) (de_bin op_add_ (do_e (de_var 0 (pv 0))) (do_e (de_var 1 (pv 1)))))) da_nil))) (dg_tup (n := 2) rfl (dgs_cons (dg_name (i := 2) (pg_name (i := 2) nd rfl (by first | exact Or.inl rfl | exact Or.inr rfl))) (dgs_cons (dg_name (i := 3) (pg_name (i := 3) nd rfl (by first | exact Or.inl rfl | exact Or.inr rfl))) dgs_nil)))) (dss_one (ds_ret (de_tup (da_cons (de_tup (da_cons (de_bin op_add_ (do_e (de_var 0 (pv 0))) (do_e (de_var 1 (pv 1)))) (da_cons (de_var 2 (pv 2)) da_nil))) (da_cons (de_var 3 (pv 3)) da_nil))))))
abbrev s__law_mixed : Stmt := top 4
theorem sc__law_mixed : FnScope ["number", "place", "first", "second", "third"] ["number", "place"] (defScope s__law_mixed) := ⟨rfl, rfl, rfl, by decide +kernel, rfl, by decide +kernel, by decide +kernel⟩
theorem ok__law_mixed {P : Program} {w : World} {K : PySem.W.Frag} {mg : Str → Option Value} {base : Heap} {f : Addr} {fd : FuncData} (F : Fun K "_law_mixed" "_law_mixed" s__law_mixed f fd) (T : Txt mg) : FnOk P w K mg base CX0 1 f fd ["number", "place"] (spD K 2 _law_mixed_D) := by
  have nd := sc__law_mixed.nd
  exact fn_pure F sc__law_mixed fun cdv A outer s H E hr => by
    have hu := hr.units
    exact (dss_cons (ds_set (i := 2) (ps_set (i := 2) nd rfl (by first | exact Or.inl rfl | exact Or.inr rfl) (de_bin op_mod_ (do_e (de_callT1 call_int_ rfl T.int bt_int (do_e (de_bin op_add_ (do_e (de_bin op_add_ (do_e (de_bin op_mul_ (do_e (de_var 0 (pv 0))) (do_e de_int))) (do_e (de_bin op_mul_ (do_e (de_var 1 (pv 1))) (do_e de_int))))) (do_e de_int))))) (do_e de_int)))) (dss_cons (ds_set (i := 3) (ps_set (i := 3) nd rfl (by first | exact Or.inl rfl | exact Or.inr rfl) (de_bin op_mod_ (do_e (de_callT1 call_int_ rfl T.int bt_int (do_e (de_bin op_add_ (do_e (de_bin op_add_ (do_e (de_bin op_mul_ (do_e (de_var 2 (pv 2))) (do_e (de_var 2 (pv 2))))) (do_e (de_bin op_mul_ (do_e de_int) (do_e (de_var 2 (pv 2))))))) (do_e (de_var 1 (pv 1))))))) (do_e de_int)))) (dss_cons (ds_set (i := 4) (ps_set (i := 4) nd rfl (by first | exact Or.inl rfl | exact Or.inr rfl) (de_bin op_mod_ (do_e (de_callT1 call_int_ rfl T.int bt_int (do_e (de_bin op_add_ (do_e (de_bin op_mul_ (do_e (de_var 3 (pv 3))) (do_e (de_var 3 (pv 3))))) (do_e (de_var 2 (pv 2))))))) (do_e de_int)))) (dss_one (ds_ret (de_bin op_add_ (do_e (de_bin op_mul_ (do_e (de_var 3 (pv 3))) (do_e de_int))) (do_e (de_var 4 (pv 4)))))))))
abbrev s__law_rest : Stmt := top 5
theorem sc__law_rest : FnScope ["script", "place", "fills", "number"] ["script", "place", "fills"] (defScope s__law_rest) := ⟨rfl, rfl, rfl, by decide +kernel, rfl, by decide +kernel, by decide +kernel⟩
theorem ok__law_rest {P : Program} {w : World} {K : PySem.W.Frag} {mg : Str → Option Value} {base : Heap} {f : Addr} {fd : FuncData} (F : Fun K "_law_rest" "_law_rest" s__law_rest f fd) (T : Txt mg) (C__law_mixed : Cal P w K mg base "_law_mixed" ["number", "place"] 1 (spD K 2 _law_mixed_D)) : FnOk P w K mg base CX0 2 f fd ["script", "place", "fills"] (spD K 3 _law_rest_D) := by
  have nd := sc__law_rest.nd
  exact fn_pure F sc__law_rest fun cdv A outer s H E hr => by
    have hu := hr.units
    exact (dss_cons (ds_set (i := 3) (ps_set (i := 3) nd rfl (by first | exact Or.inl rfl | exact Or.inr rfl) de_int)) (dss_cons (ds_if (db_cmp op_gt_ (do_e (de_call1 call_len_ rfl T.len bt_len (do_e (de_var 0 (pv 0))))) (do_e de_int)) (dss_one (ds_set (i := 3) (ps_set (i := 3) nd rfl (by first | exact Or.inl rfl | exact Or.inr rfl) (de_callT1 call_int_ rfl T.int bt_int (do_e (de_sub ix_ (do_e (de_var 0 (pv 0))) (do_e (de_bin op_mod_ (do_e (de_callT1 call_int_ rfl T.int bt_int (do_e (de_var 1 (pv 1))))) (do_e (de_call1 call_len_ rfl T.len bt_len (do_e (de_var 0 (pv 0))))))))))))) dss_nil) (dss_cons (ds_if (db_cmp (op_lt2_ hu) (do_e (de_var 3 (pv 3))) (do_e de_int)) (dss_one (ds_set (i := 3) (ps_set (i := 3) nd rfl (by first | exact Or.inl rfl | exact Or.inr rfl) (de_bin op_sub_ (do_e de_int) (do_e (de_bin op_mul_ (do_e de_int) (do_e (de_var 3 (pv 3))))))))) dss_nil) (dss_cons (ds_if (PW.pt (dw_and (db_cmp (op_eq_ hu) (do_e (de_var 2 (pv 2))) (do_e de_int)) (dw_and (db_cmp (op_lt2_ hu) (do_e (de_var 1 (pv 1))) (do_e (de_call1 call_len_ rfl T.len bt_len (do_e (de_var 0 (pv 0)))))) (dw_and1 (db_cmp op_ge_ (do_e (de_var 3 (pv 3))) (do_e (de_bin op_pow_ (do_e de_int) (do_e de_int)))))))) (dss_one (ds_ret (de_bin op_sub_ (do_e (de_var 3 (pv 3))) (do_e (de_bin op_pow_ (do_e de_int) (do_e de_int)))))) dss_nil) (dss_one (ds_ret (dc_call C__law_mixed (fun _ _ h => len__law_mixed h) rfl (hr.mono (by decide)) rfl (da_cons (de_bin op_add_ (do_e (de_var 3 (pv 3))) (do_e (de_bin op_mul_ (do_e (de_var 2 (pv 2))) (do_e de_int)))) (da_cons (de_var 1 (pv 1)) da_nil)))))))))
abbrev s__law_pool : Stmt := top 6
theorem sc__law_pool : FnScope ["script"] ["script"] (defScope s__law_pool) := ⟨rfl, rfl, rfl, by decide +kernel, rfl, by decide +kernel, by decide +kernel⟩
theorem ok__law_pool {P : Program} {w : World} {K : PySem.W.Frag} {mg : Str → Option Value} {base : Heap} {f : Addr} {fd : FuncData} (F : Fun K "_law_pool" "_law_pool" s__law_pool f fd) (T : Txt mg) (C__law_rest : Cal P w K mg base "_law_rest" ["script", "place", "fills"] 2 (spD K 3 _law_rest_D)) : FnOk P w K mg base CX0 3 f fd ["script"] (spN K 1 _law_pool_D) := by
  have nd := sc__law_pool.nd
  exact fn_new F sc__law_pool fun cdv A outer s H E hr => by
    have hu := hr.units
    exact (dss_one (ds_retN (dn_lst (da_cons (de_var 0 (pv 0)) (da_cons de_int (da_cons (dc_call C__law_rest (fun _ _ h => len__law_rest h) rfl (hr.mono (by decide)) rfl (da_cons (de_var 0 (pv 0)) (da_cons de_int (da_cons de_int da_nil)))) (da_cons de_int da_nil)))))))
abbrev s__law_next : Stmt := top 7
theorem sc__law_next : FnScope ["pool"] ["pool"] (defScope s__law_next) := ⟨rfl, rfl, rfl, by decide +kernel, rfl, by decide +kernel, by decide +kernel⟩
theorem ok__law_next {P : Program} {w : World} {K : PySem.W.Frag} {mg : Str → Option Value} {base : Heap} {f : Addr} {fd : FuncData} (F : Fun K "_law_next" "_law_next" s__law_next f fd) (T : Txt mg) (C__law_rest : Cal P w K mg base "_law_rest" ["script", "place", "fills"] 2 (spD K 3 _law_rest_D)) : FnOk P w K mg base CX0 3 f fd ["pool"] (spP K 0 _law_next_D) := by
  have nd := sc__law_next.nd
  exact fn_pool F sc__law_next (by decide) (by decide) fun cdv A outer s H E hr => by
    have hu := hr.units
    exact (dss_cons (ds_setIx (i := 0) (ps_asg (de_bin op_add_ (do_e (de_sub ix_ (do_own 0 (pv 0)) (do_e de_int))) (do_e de_int)) (pg_sub (pv 0) de_int set_list))) (dss_cons (ds_setIx (i := 0) (ps_asg (dc_call C__law_rest (fun _ _ h => len__law_rest h) rfl (hr.mono (by decide)) rfl (da_cons (de_sub ix_ (do_own 0 (pv 0)) (do_e de_int)) (da_cons (de_sub ix_ (do_own 0 (pv 0)) (do_e de_int)) (da_cons de_int da_nil)))) (pg_sub (pv 0) de_int set_list))) (dss_one (ds_setIx (i := 0) (ps_asg de_int (pg_sub (pv 0) de_int set_list))))))
abbrev s__law_draw : Stmt := top 8
theorem sc__law_draw : FnScope ["pool", "limit", "value"] ["pool", "limit"] (defScope s__law_draw) := ⟨rfl, rfl, rfl, by decide +kernel, rfl, by decide +kernel, by decide +kernel⟩
theorem ok__law_draw {P : Program} {w : World} {K : PySem.W.Frag} {mg : Str → Option Value} {base : Heap} {f : Addr} {fd : FuncData} (F : Fun K "_law_draw" "_law_draw" s__law_draw f fd) (T : Txt mg) (C__law_rest : Cal P w K mg base "_law_rest" ["script", "place", "fills"] 2 (spD K 3 _law_rest_D)) : FnOk P w K mg base CX0 3 f fd ["pool", "limit"] (spP K 1 _law_draw_D) := by
  have nd := sc__law_draw.nd
  exact fn_pool F sc__law_draw (by decide) (by decide) fun cdv A outer s H E hr => by
    have hu := hr.units
    exact (dss_cons (ds_if (db_cmp op_le_ (do_e (de_sub ix_ (do_own 0 (pv 0)) (do_e de_int))) (do_e de_int)) (dss_cons (ds_setIx (i := 0) (ps_asg (de_bin op_add_ (do_e (de_sub ix_ (do_own 0 (pv 0)) (do_e de_int))) (do_e de_int)) (pg_sub (pv 0) de_int set_list))) (dss_one (ds_setIx (i := 0) (ps_asg (dc_call C__law_rest (fun _ _ h => len__law_rest h) rfl (hr.mono (by decide)) rfl (da_cons (de_sub ix_ (do_own 0 (pv 0)) (do_e de_int)) (da_cons (de_sub ix_ (do_own 0 (pv 0)) (do_e de_int)) (da_cons (de_sub ix_ (do_own 0 (pv 0)) (do_e de_int)) da_nil)))) (pg_sub (pv 0) de_int set_list))))) dss_nil) (dss_cons (ds_set (i := 2) (ps_set (i := 2) nd rfl (by first | exact Or.inl rfl | exact Or.inr rfl) (de_bin op_mod_ (do_e (de_callT1 call_int_ rfl T.int bt_int (do_e (de_sub ix_ (do_own 0 (pv 0)) (do_e de_int))))) (do_e (de_var 1 (pv 1)))))) (dss_cons (ds_setIx (i := 0) (ps_asg (de_bin op_div_ (do_e (de_callT1 call_int_ rfl T.int bt_int (do_e (de_sub ix_ (do_own 0 (pv 0)) (do_e de_int))))) (do_e (de_var 1 (pv 1)))) (pg_sub (pv 0) de_int set_list))) (dss_one (ds_ret (de_var 2 (pv 2)))))))
abbrev s__law_same : Stmt := top 9
theorem sc__law_same : FnScope ["actual", "due", "k", "key"] ["actual", "due"] (defScope s__law_same) := ⟨rfl, rfl, rfl, by decide +kernel, rfl, by decide +kernel, by decide +kernel⟩
theorem ok__law_same {P : Program} {w : World} {K : PySem.W.Frag} {mg : Str → Option Value} {base : Heap} {f : Addr} {fd : FuncData} (F : Fun K "_law_same" "_law_same" s__law_same f fd) (T : Txt mg) (hmg : mg "_law_same" = some (.ref f)) (hb : Binds K fd ["actual", "due"] []) : ∀ n : Nat, FnOk P w K mg base CX0 (0 + n) f fd ["actual", "due"] (spD K 2 (_law_same_D n))
  | 0 => fn_none
  | n + 1 => by
    have C__law_same : Cal P w K mg base "_law_same" ["actual", "due"] (0 + n) (spD K 2 (_law_same_D n)) := ⟨⟨f, fd, ok__law_same F T hmg hb n, hmg, F.kp, hb⟩⟩
    have nd := sc__law_same.nd
    exact (fn_pure (k := 0 + n) F sc__law_same fun cdv A outer s H E hr => by
      have hu := hr.units
      have hrec : ∀ ds d, (_law_same_D n) ds = some d → ds.length = 2 := fun ds d h => len__law_same h
      exact (dss_cons (ds_if (db_cmp op_is_ (do_e (de_var 1 (pv 1))) (do_e de_non)) (dss_one (ds_ret (de_cmp op_is_ (do_e (de_var 0 (pv 0))) (do_e de_non)))) dss_nil) (dss_cons (ds_if (db_cmp op_is_ (do_e (de_var 1 (pv 1))) (do_e de_bl)) (dss_one (ds_ret (de_cmp op_is_ (do_e (de_var 0 (pv 0))) (do_e de_bl)))) dss_nil) (dss_cons (ds_if (db_cmp op_is_ (do_e (de_var 1 (pv 1))) (do_e de_bl)) (dss_one (ds_ret (de_cmp op_is_ (do_e (de_var 0 (pv 0))) (do_e de_bl)))) dss_nil) (dss_cons (ds_if (db_tru (do_e (de_isi rfl rfl T.isinstance bt_isinstance (do_e (de_var 1 (pv 1))) rfl T.int bt_int))) (dss_one (ds_ret (de_and (de_isi rfl rfl T.isinstance bt_isinstance (do_e (de_var 0 (pv 0))) rfl T.int bt_int) (de_and (de_not (do_e (de_isi rfl rfl T.isinstance bt_isinstance (do_e (de_var 0 (pv 0))) rfl T.bool bt_bool))) (de_one (de_cmp (op_eq_ hu) (do_e (de_var 0 (pv 0))) (do_e (de_var 1 (pv 1))))))))) dss_nil) (dss_cons (ds_if (db_tru (do_e (de_isi rfl rfl T.isinstance bt_isinstance (do_e (de_var 1 (pv 1))) rfl T.str bt_str))) (dss_one (ds_ret (de_and (de_isi rfl rfl T.isinstance bt_isinstance (do_e (de_var 0 (pv 0))) rfl T.str bt_str) (de_one (de_cmp (op_eq_ hu) (do_e (de_var 0 (pv 0))) (do_e (de_var 1 (pv 1)))))))) dss_nil) (dss_cons (ds_if (db_tru (do_e (de_isi rfl rfl T.isinstance bt_isinstance (do_e (de_var 1 (pv 1))) rfl T.dict bt_dict))) dss_never dss_nil) (dss_cons (ds_if (PW.pt (dw_or (db_cmp (op_ne_ hu) (do_e (de_isi rfl rfl T.isinstance bt_isinstance (do_e (de_var 0 (pv 0))) rfl T.tuple bt_tuple)) (do_e (de_isi rfl rfl T.isinstance bt_isinstance (do_e (de_var 1 (pv 1))) rfl T.tuple bt_tuple))) (dw_or1 (db_cmp (op_ne_ hu) (do_e (de_isi rfl rfl T.isinstance bt_isinstance (do_e (de_var 0 (pv 0))) rfl T.list bt_list)) (do_e (de_isi rfl rfl T.isinstance bt_isinstance (do_e (de_var 1 (pv 1))) rfl T.list bt_list)))))) (dss_one (ds_ret de_bl)) dss_nil) (dss_cons (ds_if (db_cmp (op_ne_ hu) (do_e (de_call1 call_len_ rfl T.len bt_len (do_e (de_var 0 (pv 0))))) (do_e (de_call1 call_len_ rfl T.len bt_len (do_e (de_var 1 (pv 1)))))) (dss_one (ds_ret de_bl)) dss_nil) (dss_cons (ds_for (ps_for PassesOwn.never rfl (di_range1 rfl T.range (da_cons (de_call1 call_len_ rfl T.len bt_len (do_e (de_var 1 (pv 1)))) da_nil)) (dg_name (i := 2) (pg_name (i := 2) nd rfl (by first | exact Or.inl rfl | exact Or.inr rfl))) (dss_one (ds_if (db_not (db_tru (do_e (dc_call C__law_same (fun _ _ h => hrec _ _ h) rfl (hr.mono (by first | decide | omega)) rfl (da_cons (de_sub ix_ (do_e (de_var 0 (pv 0))) (do_e (de_var 2 (pv 2)))) (da_cons (de_sub ix_ (do_e (de_var 1 (pv 1))) (do_e (de_var 2 (pv 2)))) da_nil)))))) (dss_one (ds_ret de_bl)) dss_nil)))) (dss_one (ds_ret de_bl))))))))))))
abbrev s__law_bits : Stmt := top 10
theorem sc__law_bits : FnScope ["wires", "found", "k", "more", "row"] ["wires"] (defScope s__law_bits) := ⟨rfl, rfl, rfl, by decide +kernel, rfl, by decide +kernel, by decide +kernel⟩
def _law_bits_f1 : MS := (sSet 3 (e2 (oE (eVar 3)) (oE (eN (nLst (aCons (e2 (oE (eVar 4)) (oE (eN (nLst (aCons (eC (.int 0)) aNil)))) dAdd) (aCons (e2 (oE (eVar 4)) (oE (eN (nLst (aCons (eC (.int 1)) aNil)))) dAdd) aNil))))) dAdd))
def _law_bits_l1 : MS := (sFor (iSeq (eVar 1)) (asName 4) _law_bits_f1)
def _law_bits_f2 : MS := (sSeq (sSet 3 (eN (nLst aNil))) (sSeq _law_bits_l1 (sSet 1 (eVar 3))))
def _law_bits_l2 : MS := (sFor (iRange dRange1 (aCons (eVar 0) aNil)) (asName 2) _law_bits_f2)
def body__law_bits : MS := (sSeq (sSet 1 (eN (nLst (aCons (eN (nLst aNil)) aNil)))) (sSeq _law_bits_l2 (sRet (eVar 1))))
def _law_bits_D : List PyData → Option PyData := runD 1 5 body__law_bits
theorem len__law_bits {ds : List PyData} {d : PyData} (h : _law_bits_D ds = some d) : ds.length = 1 := runD_len h
theorem ok__law_bits {P : Program} {w : World} {K : PySem.W.Frag} {mg : Str → Option Value} {base : Heap} {f : Addr} {fd : FuncData} (F : Fun K "_law_bits" "_law_bits" s__law_bits f fd) (T : Txt mg) : FnOk P w K mg base CX0 1 f fd ["wires"] (spD K 1 _law_bits_D) := by
  have nd := sc__law_bits.nd
  exact fn_pure F sc__law_bits fun cdv A outer s H E hr => by
    have hu := hr.units
    exact (dss_cons (ds_set (i := 1) (ps_set (i := 1) nd rfl (by first | exact Or.inl rfl | exact Or.inr rfl) (de_nd (dn_lst (da_cons (de_nd (dn_lst da_nil)) da_nil))))) (dss_cons (ds_for (ps_for PassesOwn.never rfl (di_range1 rfl T.range (da_cons (de_var 0 (pv 0)) da_nil)) (dg_name (i := 2) (pg_name (i := 2) nd rfl (by first | exact Or.inl rfl | exact Or.inr rfl))) (dss_cons (ds_set (i := 3) (ps_set (i := 3) nd rfl (by first | exact Or.inl rfl | exact Or.inr rfl) (de_nd (dn_lst da_nil)))) (dss_cons (ds_for (ps_for PassesOwn.never rfl (di_seq (de_var 1 (pv 1))) (dg_name (i := 4) (pg_name (i := 4) nd rfl (by first | exact Or.inl rfl | exact Or.inr rfl))) (dss_one (ds_set (i := 3) (ps_set (i := 3) nd rfl (by first | exact Or.inl rfl | exact Or.inr rfl) (de_bin op_add_ (do_e (de_var 3 (pv 3))) (do_e (de_nd (dn_lst (da_cons (de_bin op_add_ (do_e (de_var 4 (pv 4))) (do_e (de_nd (dn_lst (da_cons de_int da_nil))))) (da_cons (de_bin op_add_ (do_e (de_var 4 (pv 4))) (do_e (de_nd (dn_lst (da_cons de_int da_nil))))) da_nil))))))))))) (dss_one (ds_set (i := 1) (ps_set (i := 1) nd rfl (by first | exact Or.inl rfl | exact Or.inr rfl) (de_var 3 (pv 3))))))))) (dss_one (ds_ret (de_var 1 (pv 1))))))
abbrev s__law_up : Stmt := top 11
theorem sc__law_up : FnScope ["row", "k"] ["row"] (defScope s__law_up) := ⟨rfl, rfl, rfl, by decide +kernel, rfl, by decide +kernel, by decide +kernel⟩
def body__law_up : MS := (sRet (e2 (oE (e1 (oE (eN (lcD [1] (iRange dRange2 (aCons (eC (.int 1)) (aCons (e1 (oE (eVar 0)) dLen) aNil))) (asName 1) (bT (e2 (oE (e2 (oE (eVar 0)) (oE (eVar 1)) dIdx)) (oE (e2 (oE (eVar 0)) (oE (e2 (oE (eVar 1)) (oE (eC (.int 1))) dSub)) dIdx)) dLt)) (eVar 1)))) dLen)) (oE (eC (.int 0))) dEq))
def _law_up_D : List PyData → Option PyData := runD 1 2 body__law_up
theorem len__law_up {ds : List PyData} {d : PyData} (h : _law_up_D ds = some d) : ds.length = 1 := runD_len h
theorem ok__law_up {P : Program} {w : World} {K : PySem.W.Frag} {mg : Str → Option Value} {base : Heap} {f : Addr} {fd : FuncData} (F : Fun K "_law_up" "_law_up" s__law_up f fd) (T : Txt mg) : FnOk P w K mg base CX0 1 f fd ["row"] (spD K 1 _law_up_D) := by
  have nd := sc__law_up.nd
  exact fn_pure F sc__law_up fun cdv A outer s H E hr => by
    have hu := hr.units
    exact (dss_one (ds_ret (de_cmp (op_eq_ hu) (do_e (de_call1 call_len_ rfl T.len bt_len (do_e (de_nd (dn_lc (own := [("k", 1)]) rfl nd (di_range2 rfl T.range (da_cons de_int (da_cons (de_call1 call_len_ rfl T.len bt_len (do_e (de_var 0 (pv 0)))) da_nil))) (blkOk_by (by kernel_rfl)) (fun _ _ _ _ _ => (dv_name (i := 1) (pg_name (i := 1) nd rfl (by first | exact Or.inl rfl | exact Or.inr rfl)))) (fun _ _ _ _ _ => (dts_one (db_cmp (op_lt2_ hu) (do_e (de_sub ix_ (do_e (de_var 0 (pv 0))) (do_e (de_var 1 (pv 1))))) (do_e (de_sub ix_ (do_e (de_var 0 (pv 0))) (do_e (de_bin op_sub_ (do_e (de_var 1 (pv 1))) (do_e de_int)))))))) (fun _ _ _ _ _ => (de_var 1 (pv 1)))))))) (do_e de_int))))
abbrev s__law_some_row : Stmt := top 12
theorem sc__law_some_row : FnScope ["pool", "wires", "most", "k"] ["pool", "wires", "most"] (defScope s__law_some_row) := ⟨rfl, rfl, rfl, by decide +kernel, rfl, by decide +kernel, by decide +kernel⟩
def body__law_some_row : MS := (sRet (eN (lcD [3] (iRange dRange1 (aCons (eVar 1) aNil)) (asName 3) bYes (e2 (oE (eCallP 0 (aCons (eVar 2) aNil) _law_draw_D)) (oE (e2 (oE (eVar 2)) (oE (eC (.int 2))) dDiv)) dSub))))
def _law_some_row_D : List PyData → List PyData → Option (PyData × List PyData) := runP 2 4 body__law_some_row
theorem len__law_some_row {ps ds : List PyData} {d : PyData × List PyData} (h : _law_some_row_D ps ds = some d) : ds.length = 2 := runP_len h
theorem ok__law_some_row {P : Program} {w : World} {K : PySem.W.Frag} {mg : Str → Option Value} {base : Heap} {f : Addr} {fd : FuncData} (F : Fun K "_law_some_row" "_law_some_row" s__law_some_row f fd) (T : Txt mg) (C__law_draw : Cal P w K mg base "_law_draw" ["pool", "limit"] 3 (spP K 1 _law_draw_D)) : FnOk P w K mg base CX0 4 f fd ["pool", "wires", "most"] (spP K 2 _law_some_row_D) := by
  have nd := sc__law_some_row.nd
  exact fn_pool F sc__law_some_row (by decide) (by decide) fun cdv A outer s H E hr => by
    have hu := hr.units
    exact (dss_one (ds_ret (de_nd (dn_lc (own := [("k", 3)]) rfl nd (di_range1 rfl T.range (da_cons (de_var 1 (pv 1)) da_nil)) (blkOk_by (by kernel_rfl)) (fun _ _ _ _ _ => (dv_name (i := 3) (pg_name (i := 3) nd rfl (by first | exact Or.inl rfl | exact Or.inr rfl)))) (fun _ _ _ _ _ => dts_nil) (fun _ _ _ _ _ => (de_bin op_sub_ (do_e (dc_callP C__law_draw (fun _ _ _ h => len__law_draw h) (hr.mono (by decide)) rfl (pv 0) (da_cons (de_var 2 (pv 2)) da_nil))) (do_e (de_bin op_div_ (do_e (de_var 2 (pv 2))) (do_e de_int)))))))))
abbrev s__law_pick : Stmt := top 13
theorem sc__law_pick : FnScope ["pool", "options"] ["pool", "options"] (defScope s__law_pick) := ⟨rfl, rfl, rfl, by decide +kernel, rfl, by decide +kernel, by decide +kernel⟩
theorem ok__law_pick {P : Program} {w : World} {K : PySem.W.Frag} {mg : Str → Option Value} {base : Heap} {f : Addr} {fd : FuncData} (F : Fun K "_law_pick" "_law_pick" s__law_pick f fd) (T : Txt mg) (C__law_draw : Cal P w K mg base "_law_draw" ["pool", "limit"] 3 (spP K 1 _law_draw_D)) : FnOk P w K mg base CX0 4 f fd ["pool", "options"] (spP K 1 _law_pick_D) := by
  have nd := sc__law_pick.nd
  exact fn_pool F sc__law_pick (by decide) (by decide) fun cdv A outer s H E hr => by
    have hu := hr.units
    exact (dss_one (ds_ret (de_sub ix_ (do_e (de_var 1 (pv 1))) (do_e (dc_callP C__law_draw (fun _ _ _ h => len__law_draw h) (hr.mono (by decide)) rfl (pv 0) (da_cons (de_call1 call_len_ rfl T.len bt_len (do_e (de_var 1 (pv 1)))) da_nil))))))
abbrev s__law_run : Stmt := top 14
theorem sc__law_run : FnScope ["network", "row", "found", "first", "second", "low", "high"] ["network", "row"] (defScope s__law_run) := ⟨rfl, rfl, rfl, by decide +kernel, rfl, by decide +kernel, by decide +kernel⟩
def _law_run_f1 : MS := (sSeq (sSet 5 (eN_ (aCons (e2 (oOwn 2) (oE (eVar 3)) dIdx) (aCons (e2 (oOwn 2) (oE (eVar 4)) dIdx) aNil)) dMin2)) (sSeq (sSet 6 (eN_ (aCons (e2 (oOwn 2) (oE (eVar 3)) dIdx) (aCons (e2 (oOwn 2) (oE (eVar 4)) dIdx) aNil)) dMax2)) (sSeq (sSetIx 2 (eVar 5) (eVar 3)) (sSetIx 2 (eVar 6) (eVar 4)))))
def _law_run_l1 : MS := (sFor (iSeq (e2 (oE (eVar 0)) (oE (eC (.int 1))) dIdx)) (asTup 2 (asCons (asName 3) (asCons (asName 4) asNil))) _law_run_f1)
def body__law_run : MS := (sSeq (sSetN 2 (n1 (oE (eVar 1)) dItems)) (sSeq _law_run_l1 (sFrz 2 (sRet (eVar 2)))))
def _law_run_D : List PyData → Option PyData := runD 2 7 body__law_run
theorem len__law_run {ds : List PyData} {d : PyData} (h : _law_run_D ds = some d) : ds.length = 2 := runD_len h
theorem ok__law_run {P : Program} {w : World} {K : PySem.W.Frag} {mg : Str → Option Value} {base : Heap} {f : Addr} {fd : FuncData} (F : Fun K "_law_run" "_law_run" s__law_run f fd) (T : Txt mg) : FnOk P w K mg base CX0 1 f fd ["network", "row"] (spD K 2 _law_run_D) := by
  have nd := sc__law_run.nd
  exact fn_pure F sc__law_run fun cdv A outer s H E hr => by
    have hu := hr.units
    exact (dss_cons (ds_setN (i := 2) (ps_set (i := 2) nd rfl (by first | exact Or.inl rfl | exact Or.inr rfl) (dn_callT1 call_list_ rfl T.list bt_list (do_e (de_var 1 (pv 1)))))) (dss_cons (ds_for (ps_for PassesOwn.never rfl (di_seq (de_sub ix_ (do_e (de_var 0 (pv 0))) (do_e de_int))) (dg_tup (n := 2) rfl (dgs_cons (dg_name (i := 3) (pg_name (i := 3) nd rfl (by first | exact Or.inl rfl | exact Or.inr rfl))) (dgs_cons (dg_name (i := 4) (pg_name (i := 4) nd rfl (by first | exact Or.inl rfl | exact Or.inr rfl))) dgs_nil))) (dss_cons (ds_set (i := 5) (ps_set (i := 5) nd rfl (by first | exact Or.inl rfl | exact Or.inr rfl) (de_callN (call_min2_ rfl) rfl T.min bt_min (da_cons (de_sub ix_ (do_own 2 (pv 2)) (do_e (de_var 3 (pv 3)))) (da_cons (de_sub ix_ (do_own 2 (pv 2)) (do_e (de_var 4 (pv 4)))) da_nil))))) (dss_cons (ds_set (i := 6) (ps_set (i := 6) nd rfl (by first | exact Or.inl rfl | exact Or.inr rfl) (de_callN (call_max2_ rfl) rfl T.max bt_max (da_cons (de_sub ix_ (do_own 2 (pv 2)) (do_e (de_var 3 (pv 3)))) (da_cons (de_sub ix_ (do_own 2 (pv 2)) (do_e (de_var 4 (pv 4)))) da_nil))))) (dss_cons (ds_setIx (i := 2) (ps_asg (de_var 5 (pv 5)) (pg_sub (pv 2) (de_var 3 (pv 3)) set_list))) (dss_one (ds_setIx (i := 2) (ps_asg (de_var 6 (pv 6)) (pg_sub (pv 2) (de_var 4 (pv 4)) set_list))))))))) (dss_one (ds_frz 2 (ds_ret (de_var 2 (pv 2)))))))
abbrev s__law_merger : Stmt := top 15
theorem sc__law_merger : FnScope ["one", "other", "wires", "k", "left", "last", "first", "even", "second", "odd", "own", "wire"] ["one", "other"] (defScope s__law_merger) := ⟨rfl, rfl, rfl, by decide +kernel, rfl, by decide +kernel, by decide +kernel⟩
def body__law_merger (rec : List PyData → Option PyData) : MS := (sSeq (sIf (bOr (bT (e2 (oE (eVar 0)) (oE (eN (nLst aNil))) dEq)) (bT (e2 (oE (eVar 1)) (oE (eN (nLst aNil))) dEq))) (sRet (eTup (aCons (eN (nLst aNil)) (aCons (e2 (oE (eVar 0)) (oE (eVar 1)) dAdd) aNil)))) sNil) (sSeq (sIf (bT (e2 (oE (e2 (oE (e1 (oE (eVar 0)) dLen)) (oE (e1 (oE (eVar 1)) dLen)) dAdd)) (oE (eC (.int 2))) dEq)) (sRet (eTup (aCons (eN (nLst (aCons (eTup (aCons (e2 (oE (eVar 0)) (oE (eC (.int 0))) dIdx) (aCons (e2 (oE (eVar 1)) (oE (eC (.int 0))) dIdx) aNil))) aNil))) (aCons (e2 (oE (eVar 0)) (oE (eVar 1)) dAdd) aNil)))) sNil) (sSeq (sAsg (eCall (aCons (eN (lcD [3] (iRange dRange3 (aCons (eC (.int 0)) (aCons (e1 (oE (eVar 0)) dLen) (aCons (eC (.int 2)) aNil)))) (asName 3) bYes (e2 (oE (eVar 0)) (oE (eVar 3)) dIdx))) (aCons (eN (lcD [3] (iRange dRange3 (aCons (eC (.int 0)) (aCons (e1 (oE (eVar 1)) dLen) (aCons (eC (.int 2)) aNil)))) (asName 3) bYes (e2 (oE (eVar 1)) (oE (eVar 3)) dIdx))) aNil)) rec) (asTup 2 (asCons (asName 6) (asCons (asName 7) asNil)))) (sSeq (sAsg (eCall (aCons (eN (lcD [3] (iRange dRange3 (aCons (eC (.int 1)) (aCons (e1 (oE (eVar 0)) dLen) (aCons (eC (.int 2)) aNil)))) (asName 3) bYes (e2 (oE (eVar 0)) (oE (eVar 3)) dIdx))) (aCons (eN (lcD [3] (iRange dRange3 (aCons (eC (.int 1)) (aCons (e1 (oE (eVar 1)) dLen) (aCons (eC (.int 2)) aNil)))) (asName 3) bYes (e2 (oE (eVar 1)) (oE (eVar 3)) dIdx))) aNil)) rec) (asTup 2 (asCons (asName 8) (asCons (asName 9) asNil)))) (sSeq (sSetN 2 (nLst aNil)) (sSeq (sFor (iRange dRange1 (aCons (e2 (oE (e1 (oE (eVar 7)) dLen)) (oE (e1 (oE (eVar 9)) dLen)) dAdd) aNil)) (asName 3) (sSeq (sSet 10 (eIf (bT (e2 (oE (e2 (oE (e1 (oE (eVar 3)) dInt)) (oE (eC (.int 2))) dMod)) (oE (eC (.int 0))) dEq)) (eVar 7) (eVar 9))) (sIf (bT (e2 (oE (e2 (oE (eVar 3)) (oE (eC (.int 2))) dDiv)) (oE (e1 (oE (eVar 10)) dLen)) dLt)) (sExpr (eOwn 2 (aCons (e2 (oE (eVar 10)) (oE (e2 (oE (eVar 3)) (oE (eC (.int 2))) dDiv)) dIdx) aNil) kAppend)) sNil))) (sSeq (sSet 4 (eN (lcD [11] (iSeq (e2 (oE (eVar 7)) (oE (eVar 9)) dAdd)) (asName 11) (bT (e2 (oE (eVar 11)) (oOwn 2) (dIn true))) (eVar 11)))) (sSeq (sSetN 2 (n2 (oOwn 2) (oE (eVar 4)) dCat)) (sSeq (sSet 5 (eN (lcD [3] (iRange dRange3 (aCons (eC (.int 1)) (aCons (e2 (oE (e1 (oOwn 2) dLen)) (oE (eC (.int 1))) dSub) (aCons (eC (.int 2)) aNil)))) (asName 3) bYes (eTup (aCons (e2 (oOwn 2) (oE (eVar 3)) dIdx) (aCons (e2 (oOwn 2) (oE (e2 (oE (eVar 3)) (oE (eC (.int 1))) dAdd)) dIdx) aNil)))))) (sFrz 2 (sRet (eTup (aCons (e2 (oE (e2 (oE (eVar 6)) (oE (eVar 8)) dAdd)) (oE (eVar 5)) dAdd) (aCons (eVar 2) aNil))))))))))))))
def _law_merger_D : Nat → List PyData → Option PyData
  | 0 => fun _ => none
  | n + 1 => runD 2 12 (body__law_merger (_law_merger_D n))
theorem len__law_merger {n : Nat} {ds : List PyData} {d : PyData} (h : _law_merger_D n ds = some d) : ds.length = 2 := by cases n with
  | zero => cases h
  | succ n => exact runD_len h
theorem ok__law_merger {P : Program} {w : World} {K : PySem.W.Frag} {mg : Str → Option Value} {base : Heap} {f : Addr} {fd : FuncData} (F : Fun K "_law_merger" "_law_merger" s__law_merger f fd) (T : Txt mg) (hmg : mg "_law_merger" = some (.ref f)) (hb : Binds K fd ["one", "other"] []) : ∀ n : Nat, FnOk P w K mg base CX0 (0 + n) f fd ["one", "other"] (spD K 2 (_law_merger_D n))
  | 0 => fn_none
  | n + 1 => by
    have C__law_merger : Cal P w K mg base "_law_merger" ["one", "other"] (0 + n) (spD K 2 (_law_merger_D n)) := ⟨⟨f, fd, ok__law_merger F T hmg hb n, hmg, F.kp, hb⟩⟩
    have nd := sc__law_merger.nd
    exact (fn_pure (k := 0 + n) F sc__law_merger fun cdv A outer s H E hr => by
      have hu := hr.units
      have hrec : ∀ ds d, (_law_merger_D n) ds = some d → ds.length = 2 := fun ds d h => len__law_merger h
      exact (dss_cons (ds_if (PW.pt (dw_or (db_cmp (op_eq_ hu) (do_e (de_var 0 (pv 0))) (do_e (de_nd (dn_lst da_nil)))) (dw_or1 (db_cmp (op_eq_ hu) (do_e (de_var 1 (pv 1))) (do_e (de_nd (dn_lst da_nil))))))) (dss_one (ds_ret (de_tup (da_cons (de_nd (dn_lst da_nil)) (da_cons (de_bin op_add_ (do_e (de_var 0 (pv 0))) (do_e (de_var 1 (pv 1)))) da_nil))))) dss_nil) (dss_cons (ds_if (db_cmp (op_eq_ hu) (do_e (de_bin op_add_ (do_e (de_call1 call_len_ rfl T.len bt_len (do_e (de_var 0 (pv 0))))) (do_e (de_call1 call_len_ rfl T.len bt_len (do_e (de_var 1 (pv 1))))))) (do_e de_int)) (dss_one (ds_ret (de_tup (da_cons (de_nd (dn_lst (da_cons (de_tup (da_cons (de_sub ix_ (do_e (de_var 0 (pv 0))) (do_e de_int)) (da_cons (de_sub ix_ (do_e (de_var 1 (pv 1))) (do_e de_int)) da_nil))) da_nil))) (da_cons (de_bin op_add_ (do_e (de_var 0 (pv 0))) (do_e (de_var 1 (pv 1)))) da_nil))))) dss_nil) (dss_cons (ds_asg (dc_call C__law_merger (fun _ _ h => hrec _ _ h) rfl (hr.mono (by first | decide | omega)) rfl (da_cons (de_nd (dn_lc (own := [("k", 3)]) rfl nd (di_range3 rfl T.range (da_cons de_int (da_cons (de_call1 call_len_ rfl T.len bt_len (do_e (de_var 0 (pv 0)))) (da_cons de_int da_nil)))) (blkOk_by (by kernel_rfl)) (fun _ _ _ _ _ => (dv_name (i := 3) (pg_name (i := 3) nd rfl (by first | exact Or.inl rfl | exact Or.inr rfl)))) (fun _ _ _ _ _ => dts_nil) (fun _ _ _ _ _ => (de_sub ix_ (do_e (de_var 0 (pv 0))) (do_e (de_var 3 (pv 3))))))) (da_cons (de_nd (dn_lc (own := [("k", 3)]) rfl nd (di_range3 rfl T.range (da_cons de_int (da_cons (de_call1 call_len_ rfl T.len bt_len (do_e (de_var 1 (pv 1)))) (da_cons de_int da_nil)))) (blkOk_by (by kernel_rfl)) (fun _ _ _ _ _ => (dv_name (i := 3) (pg_name (i := 3) nd rfl (by first | exact Or.inl rfl | exact Or.inr rfl)))) (fun _ _ _ _ _ => dts_nil) (fun _ _ _ _ _ => (de_sub ix_ (do_e (de_var 1 (pv 1))) (do_e (de_var 3 (pv 3))))))) da_nil))) (dg_tup (n := 2) rfl (dgs_cons (dg_name (i := 6) (pg_name (i := 6) nd rfl (by first | exact Or.inl rfl | exact Or.inr rfl))) (dgs_cons (dg_name (i := 7) (pg_name (i := 7) nd rfl (by first | exact Or.inl rfl | exact Or.inr rfl))) dgs_nil)))) (dss_cons (ds_asg (dc_call C__law_merger (fun _ _ h => hrec _ _ h) rfl (hr.mono (by first | decide | omega)) rfl (da_cons (de_nd (dn_lc (own := [("k", 3)]) rfl nd (di_range3 rfl T.range (da_cons de_int (da_cons (de_call1 call_len_ rfl T.len bt_len (do_e (de_var 0 (pv 0)))) (da_cons de_int da_nil)))) (blkOk_by (by kernel_rfl)) (fun _ _ _ _ _ => (dv_name (i := 3) (pg_name (i := 3) nd rfl (by first | exact Or.inl rfl | exact Or.inr rfl)))) (fun _ _ _ _ _ => dts_nil) (fun _ _ _ _ _ => (de_sub ix_ (do_e (de_var 0 (pv 0))) (do_e (de_var 3 (pv 3))))))) (da_cons (de_nd (dn_lc (own := [("k", 3)]) rfl nd (di_range3 rfl T.range (da_cons de_int (da_cons (de_call1 call_len_ rfl T.len bt_len (do_e (de_var 1 (pv 1)))) (da_cons de_int da_nil)))) (blkOk_by (by kernel_rfl)) (fun _ _ _ _ _ => (dv_name (i := 3) (pg_name (i := 3) nd rfl (by first | exact Or.inl rfl | exact Or.inr rfl)))) (fun _ _ _ _ _ => dts_nil) (fun _ _ _ _ _ => (de_sub ix_ (do_e (de_var 1 (pv 1))) (do_e (de_var 3 (pv 3))))))) da_nil))) (dg_tup (n := 2) rfl (dgs_cons (dg_name (i := 8) (pg_name (i := 8) nd rfl (by first | exact Or.inl rfl | exact Or.inr rfl))) (dgs_cons (dg_name (i := 9) (pg_name (i := 9) nd rfl (by first | exact Or.inl rfl | exact Or.inr rfl))) dgs_nil)))) (dss_cons (ds_setN (i := 2) (ps_set (i := 2) nd rfl (by first | exact Or.inl rfl | exact Or.inr rfl) (dn_lst da_nil))) (dss_cons (ds_for (ps_for PassesOwn.never rfl (di_range1 rfl T.range (da_cons (de_bin op_add_ (do_e (de_call1 call_len_ rfl T.len bt_len (do_e (de_var 7 (pv 7))))) (do_e (de_call1 call_len_ rfl T.len bt_len (do_e (de_var 9 (pv 9)))))) da_nil)) (dg_name (i := 3) (pg_name (i := 3) nd rfl (by first | exact Or.inl rfl | exact Or.inr rfl))) (dss_cons (ds_set (i := 10) (ps_set (i := 10) nd rfl (by first | exact Or.inl rfl | exact Or.inr rfl) (de_if (db_cmp (op_eq_ hu) (do_e (de_bin op_mod_ (do_e (de_callT1 call_int_ rfl T.int bt_int (do_e (de_var 3 (pv 3))))) (do_e de_int))) (do_e de_int)) (de_var 7 (pv 7)) (de_var 9 (pv 9))))) (dss_one (ds_if (db_cmp (op_lt2_ hu) (do_e (de_bin op_div_ (do_e (de_var 3 (pv 3))) (do_e de_int))) (do_e (de_call1 call_len_ rfl T.len bt_len (do_e (de_var 10 (pv 10)))))) (dss_one (ds_expr (de_own (id := "") (i := 2) mo_append (pe_bm PySem.F.plainAttrs_list PySem.F.slot_list_append PySem.F.type_list_append mt_append (pv 2) (da_cons (de_sub ix_ (do_e (de_var 10 (pv 10))) (do_e (de_bin op_div_ (do_e (de_var 3 (pv 3))) (do_e de_int)))) da_nil))))) dss_nil))))) (dss_cons (ds_setF (i := 4) (ps_setLc_ (i := 4) (own := [("wire", 11)]) rfl nd rfl rfl (sw_true rfl rfl rfl (by kernel_rfl)) (di_seq (de_bin op_add_ (do_e (de_var 7 (pv 7))) (do_e (de_var 9 (pv 9))))) (blkOk_by (by kernel_rfl)) (fun _ _ _ _ _ => (dv_name (i := 11) (pg_name (i := 11) nd rfl (by first | exact Or.inl rfl | exact Or.inr rfl)))) (fun _ _ _ _ _ => (dts_one (db_cmp (op_notin_ hu) (do_e (de_var 11 (pv 11))) (do_own 2 (pv 2))))) (fun _ _ _ _ _ => (de_var 11 (pv 11))))) (dss_cons (ds_setN (i := 2) (ps_set (i := 2) nd rfl (by first | exact Or.inl rfl | exact Or.inr rfl) (dn_add (do_own 2 (pv 2)) (do_e (de_var 4 (pv 4)))))) (dss_cons (ds_setF (i := 5) (ps_setLc_ (i := 5) (own := [("k", 3)]) rfl nd rfl rfl (sw_true rfl rfl rfl (by kernel_rfl)) (di_range3 rfl T.range (da_cons de_int (da_cons (de_bin op_sub_ (do_e (de_call1 call_len_ rfl T.len bt_len (do_own 2 (pv 2)))) (do_e de_int)) (da_cons de_int da_nil)))) (blkOk_by (by kernel_rfl)) (fun _ _ _ _ _ => (dv_name (i := 3) (pg_name (i := 3) nd rfl (by first | exact Or.inl rfl | exact Or.inr rfl)))) (fun _ _ _ _ _ => dts_nil) (fun _ _ _ _ _ => (de_tup (da_cons (de_sub ix_ (do_own 2 (pv 2)) (do_e (de_var 3 (pv 3)))) (da_cons (de_sub ix_ (do_own 2 (pv 2)) (do_e (de_bin op_add_ (do_e (de_var 3 (pv 3))) (do_e de_int)))) da_nil)))))) (dss_one (ds_frz 2 (ds_ret (de_tup (da_cons (de_bin op_add_ (do_e (de_bin op_add_ (do_e (de_var 6 (pv 6))) (do_e (de_var 8 (pv 8))))) (do_e (de_var 5 (pv 5)))) (da_cons (de_var 2 (pv 2)) da_nil))))))))))))))))
abbrev s__law_c : Stmt := top 16
theorem sc__law_c : FnScope ["p", "q"] ["p", "q"] (defScope s__law_c) := ⟨rfl, rfl, rfl, by decide +kernel, rfl, by decide +kernel, by decide +kernel⟩
def body__law_c (rec : List PyData → Option PyData) : MS := (sSeq (sIf (bT (e2 (oE (e2 (oE (eVar 0)) (oE (eVar 1)) dMul)) (oE (eC (.int 0))) dEq)) (sRet (eC (.int 0))) sNil) (sSeq (sIf (bT (e2 (oE (e2 (oE (eVar 0)) (oE (eVar 1)) dMul)) (oE (eC (.int 1))) dEq)) (sRet (eC (.int 1))) sNil) (sRet (e2 (oE (e2 (oE (eCall (aCons (e2 (oE (e2 (oE (eVar 0)) (oE (eC (.int 1))) dAdd)) (oE (eC (.int 2))) dDiv) (aCons (e2 (oE (e2 (oE (eVar 1)) (oE (eC (.int 1))) dAdd)) (oE (eC (.int 2))) dDiv) aNil)) rec)) (oE (eCall (aCons (e2 (oE (eVar 0)) (oE (eC (.int 2))) dDiv) (aCons (e2 (oE (eVar 1)) (oE (eC (.int 2))) dDiv) aNil)) rec)) dAdd)) (oE (e2 (oE (e2 (oE (e2 (oE (eVar 0)) (oE (eVar 1)) dAdd)) (oE (eC (.int 1))) dSub)) (oE (eC (.int 2))) dDiv)) dAdd))))
def _law_c_D : Nat → List PyData → Option PyData
  | 0 => fun _ => none
  | n + 1 => runD 2 2 (body__law_c (_law_c_D n))
theorem len__law_c {n : Nat} {ds : List PyData} {d : PyData} (h : _law_c_D n ds = some d) : ds.length = 2 := by cases n with
  | zero => cases h
  | succ n => exact runD_len h
theorem ok__law_c {P : Program} {w : World} {K : PySem.W.Frag} {mg : Str → Option Value} {base : Heap} {f : Addr} {fd : FuncData} (F : Fun K "_law_c" "_law_c" s__law_c f fd) (T : Txt mg) (hmg : mg "_law_c" = some (.ref f)) (hb : Binds K fd ["p", "q"] []) : ∀ n : Nat, FnOk P w K mg base CX0 (0 + n) f fd ["p", "q"] (spD K 2 (_law_c_D n))
  | 0 => fn_none
  | n + 1 => by
    have C__law_c : Cal P w K mg base "_law_c" ["p", "q"] (0 + n) (spD K 2 (_law_c_D n)) := ⟨⟨f, fd, ok__law_c F T hmg hb n, hmg, F.kp, hb⟩⟩
    have nd := sc__law_c.nd
    exact (fn_pure (k := 0 + n) F sc__law_c fun cdv A outer s H E hr => by
      have hu := hr.units
      have hrec : ∀ ds d, (_law_c_D n) ds = some d → ds.length = 2 := fun ds d h => len__law_c h
      exact (dss_cons (ds_if (db_cmp (op_eq_ hu) (do_e (de_bin op_mul_ (do_e (de_var 0 (pv 0))) (do_e (de_var 1 (pv 1))))) (do_e de_int)) (dss_one (ds_ret de_int)) dss_nil) (dss_cons (ds_if (db_cmp (op_eq_ hu) (do_e (de_bin op_mul_ (do_e (de_var 0 (pv 0))) (do_e (de_var 1 (pv 1))))) (do_e de_int)) (dss_one (ds_ret de_int)) dss_nil) (dss_one (ds_ret (de_bin op_add_ (do_e (de_bin op_add_ (do_e (dc_call C__law_c (fun _ _ h => hrec _ _ h) rfl (hr.mono (by first | decide | omega)) rfl (da_cons (de_bin op_div_ (do_e (de_bin op_add_ (do_e (de_var 0 (pv 0))) (do_e de_int))) (do_e de_int)) (da_cons (de_bin op_div_ (do_e (de_bin op_add_ (do_e (de_var 1 (pv 1))) (do_e de_int))) (do_e de_int)) da_nil)))) (do_e (dc_call C__law_c (fun _ _ h => hrec _ _ h) rfl (hr.mono (by first | decide | omega)) rfl (da_cons (de_bin op_div_ (do_e (de_var 0 (pv 0))) (do_e de_int)) (da_cons (de_bin op_div_ (do_e (de_var 1 (pv 1))) (do_e de_int)) da_nil)))))) (do_e (de_bin op_div_ (do_e (de_bin op_sub_ (do_e (de_bin op_add_ (do_e (de_var 0 (pv 0))) (do_e (de_var 1 (pv 1))))) (do_e de_int))) (do_e de_int)))))))))
abbrev s_law : Stmt := top 17
theorem sc_law : FnScope ["script", "pool", "turn", "n", "p", "rows", "more", "row", "network", "wires", "out", "wire"] ["script"] (defScope s_law) := ⟨rfl, rfl, rfl, by decide +kernel, rfl, by decide +kernel, by decide +kernel⟩
def law_f1 : MS := (sSeq (sSet 7 (eCallP 1 (aCons (eVar 3) (aCons (eCallP 1 (aCons (eN (nLst (aCons (eC (.int 3)) (aCons (eC (.int 1000)) aNil)))) aNil) _law_pick_D) aNil)) _law_some_row_D)) (sExpr (eOwn 5 (aCons (e2 (oE (eN (n1 (oE (eSl (oE (eVar 7)) pNo (pSo (eVar 4)))) dSorted))) (oE (eN (n1 (oE (eSl (oE (eVar 7)) (pSo (eVar 4)) pNo)) dSorted))) dAdd) aNil) kAppend)))
def law_l1 : MS := (sFor (iRange dRange1 (aCons (eC (.int 8)) aNil)) (asName 6) law_f1)
def law_f2 : MS := (sSeq (sSet 10 (eCall (aCons (eVar 8) (aCons (eVar 7) aNil)) _law_run_D)) (sIf (bNot (b1 (oE (eCall (aCons (eN (lcD [11] (iSeq (eVar 9)) (asName 11) bYes (e2 (oE (eVar 10)) (oE (eVar 11)) dIdx))) aNil) _law_up_D)) dTru)) (sRet (eC (.bool false))) sNil))
def law_l2 : MS := (sFor (iSeq (eVar 5)) (asName 7) law_f2)
def law_f3 : MS := (sSeq (sExpr (eCallP 1 aNil _law_next_D)) (sSeq (sSet 3 (e2 (oE (eC (.int 1))) (oE (eCallP 1 (aCons (eC (.int 8)) aNil) _law_draw_D)) dAdd)) (sSeq (sSet 4 (eCallP 1 (aCons (e2 (oE (eVar 3)) (oE (eC (.int 1))) dAdd) aNil) _law_draw_D)) (sSeq (sAsg (eCall (aCons (eVar 4) (aCons (e2 (oE (eVar 3)) (oE (eVar 4)) dSub) aNil)) merging_D) (asTup 2 (asCons (asName 8) (asCons (asName 9) asNil)))) (sSeq (sIf (bOr (bNot (b1 (oE (eCall (aCons (eTup (aCons (e2 (oE (eVar 8)) (oE (eC (.int 1))) dIdx) (aCons (eVar 9) aNil))) (aCons (eCall (aCons (eN (nRg1 (eVar 4))) (aCons (eN (nRg2 (eVar 4) (eVar 3))) aNil)) (_law_merger_D 20)) aNil)) (_law_same_D 20))) dTru)) (bT (e2 (oE (e2 (oE (eVar 8)) (oE (eC (.int 0))) dIdx)) (oE (eVar 3)) dNe))) (sRet (eC (.bool false))) sNil) (sSeq (sIf (bOr (bT (e2 (oE (eN (n1 (oE (eVar 9)) dSorted))) (oE (eN (nRg1 (eVar 3)))) dNe)) (bT (e2 (oE (e1 (oE (e2 (oE (eVar 8)) (oE (eC (.int 1))) dIdx)) dLen)) (oE (eCall (aCons (eVar 4) (aCons (e2 (oE (eVar 3)) (oE (eVar 4)) dSub) aNil)) (_law_c_D 20))) dNe))) (sRet (eC (.bool false))) sNil) (sSeq (sSetN 5 (lcD [7] (iSeq (eCall (aCons (eN_ (aCons (eVar 3) (aCons (eC (.int 6)) aNil)) dMin2) aNil) _law_bits_D)) (asName 7) (bAnd (bT (e2 (oE (eVar 3)) (oE (eC (.int 7))) dLt)) (bAnd (b1 (oE (eCall (aCons (eSl (oE (eVar 7)) pNo (pSo (eVar 4))) aNil) _law_up_D)) dTru) (b1 (oE (eCall (aCons (eSl (oE (eVar 7)) (pSo (eVar 4)) pNo) aNil) _law_up_D)) dTru))) (eVar 7))) (sSeq law_l1 (sFrz 5 law_l2)))))))))
def law_l3 : MS := (sFor (iRange dRange1 (aCons (eC (.int 2)) aNil)) (asName 2) law_f3)
def body_law : MS := (sSeq (sSetN 1 (nCall (aCons (eVar 0) aNil) _law_pool_D)) (sSeq law_l3 (sRet (eC (.bool true)))))
def law_D : List PyData → Option PyData := runD 1 12 body_law
theorem len_law {ds : List PyData} {d : PyData} (h : law_D ds = some d) : ds.length = 1 := runD_len h
theorem ok_law {P : Program} {w : World} {K : PySem.W.Frag} {mg : Str → Option Value} {base : Heap} {f : Addr} {fd : FuncData} (F : Fun K "law" "law" s_law f fd) (T : Txt mg) (C__law_pool : Cal P w K mg base "_law_pool" ["script"] 3 (spN K 1 _law_pool_D)) (C__law_next : Cal P w K mg base "_law_next" ["pool"] 3 (spP K 0 _law_next_D)) (C__law_draw : Cal P w K mg base "_law_draw" ["pool", "limit"] 3 (spP K 1 _law_draw_D)) (C_merging : Cal P w K mg base "merging" ["p", "q"] 22 (spD K 2 merging_D)) (C__law_some_row : Cal P w K mg base "_law_some_row" ["pool", "wires", "most"] 4 (spP K 2 _law_some_row_D)) (C__law_run : Cal P w K mg base "_law_run" ["network", "row"] 1 (spD K 2 _law_run_D)) (C__law_same : Cal P w K mg base "_law_same" ["actual", "due"] 21 (spD K 2 (_law_same_D 20))) (C__law_c : Cal P w K mg base "_law_c" ["p", "q"] 21 (spD K 2 (_law_c_D 20))) (C__law_bits : Cal P w K mg base "_law_bits" ["wires"] 1 (spD K 1 _law_bits_D)) (C__law_pick : Cal P w K mg base "_law_pick" ["pool", "options"] 4 (spP K 1 _law_pick_D)) (C__law_up : Cal P w K mg base "_law_up" ["row"] 1 (spD K 1 _law_up_D)) (C__law_merger : Cal P w K mg base "_law_merger" ["one", "other"] 21 (spD K 2 (_law_merger_D 20))) : FnOk P w K mg base CX0 23 f fd ["script"] (spD K 1 law_D) := by
  have nd := sc_law.nd
  exact fn_pure F sc_law fun cdv A outer s H E hr => by
    have hu := hr.units
    exact (dss_cons (ds_setN (i := 1) (ps_set (i := 1) nd rfl (by first | exact Or.inl rfl | exact Or.inr rfl) (dc_callN C__law_pool (fun _ _ h => len__law_pool h) rfl (hr.mono (by decide)) rfl (da_cons (de_var 0 (pv 0)) da_nil)))) (dss_cons (ds_for (ps_for PassesOwn.never rfl (di_range1 rfl T.range (da_cons de_int da_nil)) (dg_name (i := 2) (pg_name (i := 2) nd rfl (by first | exact Or.inl rfl | exact Or.inr rfl))) (dss_cons (ds_expr (dc_callP C__law_next (fun _ _ _ h => len__law_next h) (hr.mono (by decide)) rfl (pv 1) da_nil)) (dss_cons (ds_set (i := 3) (ps_set (i := 3) nd rfl (by first | exact Or.inl rfl | exact Or.inr rfl) (de_bin op_add_ (do_e de_int) (do_e (dc_callP C__law_draw (fun _ _ _ h => len__law_draw h) (hr.mono (by decide)) rfl (pv 1) (da_cons de_int da_nil)))))) (dss_cons (ds_set (i := 4) (ps_set (i := 4) nd rfl (by first | exact Or.inl rfl | exact Or.inr rfl) (dc_callP C__law_draw (fun _ _ _ h => len__law_draw h) (hr.mono (by decide)) rfl (pv 1) (da_cons (de_bin op_add_ (do_e (de_var 3 (pv 3))) (do_e de_int)) da_nil)))) (dss_cons (ds_asg (dc_call C_merging (fun _ _ h => len_merging h) rfl (hr.mono (by decide)) rfl (da_cons (de_var 4 (pv 4)) (da_cons (de_bin op_sub_ (do_e (de_var 3 (pv 3))) (do_e (de_var 4 (pv 4)))) da_nil))) (dg_tup (n := 2) rfl (dgs_cons (dg_name (i := 8) (pg_name (i := 8) nd rfl (by first | exact Or.inl rfl | exact Or.inr rfl))) (dgs_cons (dg_name (i := 9) (pg_name (i := 9) nd rfl (by first | exact Or.inl rfl | exact Or.inr rfl))) dgs_nil)))) (dss_cons (ds_if (PW.pt (dw_or (db_not (db_tru (do_e (dc_call C__law_same (fun _ _ h => len__law_same h) rfl (hr.mono (by decide)) rfl (da_cons (de_tup (da_cons (de_sub ix_ (do_e (de_var 8 (pv 8))) (do_e de_int)) (da_cons (de_var 9 (pv 9)) da_nil))) (da_cons (dc_call C__law_merger (fun _ _ h => len__law_merger h) rfl (hr.mono (by decide)) rfl (da_cons (de_nd (dn_listRange1 rfl rfl T.list rfl T.range (de_var 4 (pv 4)))) (da_cons (de_nd (dn_listRange2 rfl rfl T.list rfl T.range (de_var 4 (pv 4)) (de_var 3 (pv 3)))) da_nil))) da_nil)))))) (dw_or1 (db_cmp (op_ne_ hu) (do_e (de_sub ix_ (do_e (de_var 8 (pv 8))) (do_e de_int))) (do_e (de_var 3 (pv 3))))))) (dss_one (ds_ret de_bl)) dss_nil) (dss_cons (ds_if (PW.pt (dw_or (db_cmp (op_ne_ hu) (do_e (de_nd (dn_call1 (call_sorted_ hu) rfl T.sorted bt_sorted (do_e (de_var 9 (pv 9)))))) (do_e (de_nd (dn_listRange1 rfl rfl T.list rfl T.range (de_var 3 (pv 3)))))) (dw_or1 (db_cmp (op_ne_ hu) (do_e (de_call1 call_len_ rfl T.len bt_len (do_e (de_sub ix_ (do_e (de_var 8 (pv 8))) (do_e de_int))))) (do_e (dc_call C__law_c (fun _ _ h => len__law_c h) rfl (hr.mono (by decide)) rfl (da_cons (de_var 4 (pv 4)) (da_cons (de_bin op_sub_ (do_e (de_var 3 (pv 3))) (do_e (de_var 4 (pv 4)))) da_nil)))))))) (dss_one (ds_ret de_bl)) dss_nil) (dss_cons (ds_setN (i := 5) (ps_setLc_ (i := 5) (own := [("row", 7)]) rfl nd rfl rfl (sw_true rfl rfl rfl (by kernel_rfl)) (di_seq (dc_call C__law_bits (fun _ _ h => len__law_bits h) rfl (hr.mono (by decide)) rfl (da_cons (de_callN (call_min2_ rfl) rfl T.min bt_min (da_cons (de_var 3 (pv 3)) (da_cons de_int da_nil))) da_nil))) (blkOk_by (by kernel_rfl)) (fun _ _ _ _ _ => (dv_name (i := 7) (pg_name (i := 7) nd rfl (by first | exact Or.inl rfl | exact Or.inr rfl)))) (fun _ _ _ _ _ => (dts_one (PW.pt (dw_and (db_cmp (op_lt2_ hu) (do_e (de_var 3 (pv 3))) (do_e de_int)) (dw_and (db_tru (do_e (dc_call C__law_up (fun _ _ h => len__law_up h) rfl (hr.mono (by decide)) rfl (da_cons (de_slice (do_e (de_var 7 (pv 7))) dp_no (dp_so (de_var 4 (pv 4)))) da_nil)))) (dw_and1 (db_tru (do_e (dc_call C__law_up (fun _ _ h => len__law_up h) rfl (hr.mono (by decide)) rfl (da_cons (de_slice (do_e (de_var 7 (pv 7))) (dp_so (de_var 4 (pv 4))) dp_no) da_nil)))))))))) (fun _ _ _ _ _ => (de_var 7 (pv 7))))) (dss_cons (ds_for (ps_for PassesOwn.never rfl (di_range1 rfl T.range (da_cons de_int da_nil)) (dg_name (i := 6) (pg_name (i := 6) nd rfl (by first | exact Or.inl rfl | exact Or.inr rfl))) (dss_cons (ds_set (i := 7) (ps_set (i := 7) nd rfl (by first | exact Or.inl rfl | exact Or.inr rfl) (dc_callP C__law_some_row (fun _ _ _ h => len__law_some_row h) (hr.mono (by decide)) rfl (pv 1) (da_cons (de_var 3 (pv 3)) (da_cons (dc_callP C__law_pick (fun _ _ _ h => len__law_pick h) (hr.mono (by decide)) rfl (pv 1) (da_cons (de_nd (dn_lst (da_cons de_int (da_cons de_int da_nil)))) da_nil)) da_nil))))) (dss_one (ds_expr (de_own (id := "") (i := 5) mo_append (pe_bm PySem.F.plainAttrs_list PySem.F.slot_list_append PySem.F.type_list_append mt_append (pv 5) (da_cons (de_bin op_add_ (do_e (de_nd (dn_call1 (call_sorted_ hu) rfl T.sorted bt_sorted (do_e (de_slice (do_e (de_var 7 (pv 7))) dp_no (dp_so (de_var 4 (pv 4)))))))) (do_e (de_nd (dn_call1 (call_sorted_ hu) rfl T.sorted bt_sorted (do_e (de_slice (do_e (de_var 7 (pv 7))) (dp_so (de_var 4 (pv 4))) dp_no)))))) da_nil)))))))) (dss_one (ds_frz 5 (ds_for (ps_for PassesOwn.never rfl (di_seq (de_var 5 (pv 5))) (dg_name (i := 7) (pg_name (i := 7) nd rfl (by first | exact Or.inl rfl | exact Or.inr rfl))) (dss_cons (ds_set (i := 10) (ps_set (i := 10) nd rfl (by first | exact Or.inl rfl | exact Or.inr rfl) (dc_call C__law_run (fun _ _ h => len__law_run h) rfl (hr.mono (by decide)) rfl (da_cons (de_var 8 (pv 8)) (da_cons (de_var 7 (pv 7)) da_nil))))) (dss_one (ds_if (db_not (db_tru (do_e (dc_call C__law_up (fun _ _ h => len__law_up h) rfl (hr.mono (by decide)) rfl (da_cons (de_nd (dn_lc (own := [("wire", 11)]) rfl nd (di_seq (de_var 9 (pv 9))) (blkOk_by (by kernel_rfl)) (fun _ _ _ _ _ => (dv_name (i := 11) (pg_name (i := 11) nd rfl (by first | exact Or.inl rfl | exact Or.inr rfl)))) (fun _ _ _ _ _ => dts_nil) (fun _ _ _ _ _ => (de_sub ix_ (do_e (de_var 10 (pv 10))) (do_e (de_var 11 (pv 11))))))) da_nil))))) (dss_one (ds_ret de_bl)) dss_nil))))))))))))))))) (dss_one (ds_ret de_bl))))
end K89
namespace K89
open PySem PySem.Spec L2 PD
def sw (c : Nat × Nat) : PyData := .tuple [.int c.1, .int c.2]
def nl (ks : List Nat) : PyData := .list (ks.map fun (k : Nat) => PyData.int k)
def nets (p q : Nat) : List (Nat × Nat) × List Nat := match merging_D [.int p, .int q] with
  | some (.tuple [.tuple [_, .list ns], .list ws]) => (ns.filterMap fun d => match d with
    | .tuple [.int a, .int b] => some (a.toNat, b.toNat)
    | _ => none, ws.filterMap fun d => match d with
    | .int a => some a.toNat
    | _ => none)
  | _ => ([], [])
def cmpT (l : List Int) (c : Nat × Nat) : List Int := (l.set c.1 (if l.getD c.2 0 < l.getD c.1 0 then l.getD c.2 0 else l.getD c.1 0)).set c.2 (if l.getD c.2 0 > l.getD c.1 0 then l.getD c.2 0 else l.getD c.1 0)
def runT (net : List (Nat × Nat)) (l : List Int) : List Int := net.foldl cmpT l
def upT (l : List Int) : Bool := (List.range (l.length - 1)).all fun k => decide (l.getD k 0 ≤ l.getD (k + 1) 0)
def gatT (l : List Int) (ws : List Nat) : List Int := ws.map fun w => l.getD w 0
def bits01 (a m : Nat) : List Int := List.replicate a 0 ++ List.replicate (m - a) 1
def chk (p q : Nat) : Bool := (nets p q).1.all (fun c => decide (c.1 < p + q) && decide (c.2 < p + q) && c.1 != c.2) && (nets p q).2.all (fun w => decide (w < p + q)) && decide ((nets p q).2.Nodup) &&
  (sset ((nets p q).2.map fun (k : Nat) => (k : Int)) == (List.range (p + q)).map fun (k : Nat) => (k : Int)) &&
  (List.range (p + 1)).all (fun a => (List.range (q + 1)).all fun b => upT (gatT (runT (nets p q).1 (bits01 a p ++ bits01 b q)) (nets p q).2)) && decide ((nets p q).1.length ≤ 100) && (nets p q).2.length == p + q
def Facts (p q : Nat) : Prop := merging_D [.int p, .int q] = some (.tuple [.tuple [.int (p + q : Nat), .list ((nets p q).1.map sw)], nl (nets p q).2]) ∧
  _law_merger_D 20 [nl (List.range p), .list ((List.range q).map fun (k : Nat) => PyData.int ((p + k : Nat) : Int))] = some (.tuple [.list ((nets p q).1.map sw), nl (nets p q).2]) ∧ _law_c_D 20 [.int p, .int q] = some (.int (nets p q).1.length) ∧ chk p q = true
theorem facts : ∀ p q : Nat, 1 ≤ p + q → p + q ≤ 8 → Facts p q := by
  intro p q h1 h8
  have hp : p = 0 ∨ p = 1 ∨ p = 2 ∨ p = 3 ∨ p = 4 ∨ p = 5 ∨ p = 6 ∨ p = 7 ∨ p = 8 := by omega
  have hq : q = 0 ∨ q = 1 ∨ q = 2 ∨ q = 3 ∨ q = 4 ∨ q = 5 ∨ q = 6 ∨ q = 7 ∨ q = 8 := by omega
  rcases hp with rfl | rfl | rfl | rfl | rfl | rfl | rfl | rfl | rfl <;> rcases hq with rfl | rfl | rfl | rfl | rfl | rfl | rfl | rfl | rfl <;>
    first
    | (exfalso; omega)
    | exact ⟨by kernel_rfl, by kernel_rfl, by kernel_rfl, by decide +kernel⟩
/-! the threshold: every switch does the same to the rows of 0 and 1 -/
def th (t x : Int) : Int := if t ≤ x then 1 else 0
theorem th_le {t x y : Int} (h : x ≤ y) : th t x ≤ th t y := by unfold th; split <;> split <;> omega
theorem getD_set {l : List Int} {i j : Nat} {v : Int} (hi : i < l.length) : (l.set i v).getD j 0 = if i = j then v else l.getD j 0 := by
  rw [List.getD, List.getD, List.getElem?_set]
  by_cases e : i = j
  · subst e; simp [hi]
  · simp [e]
theorem getD_map {l : List Int} {j : Nat} (t : Int) (hj : j < l.length) : (l.map (th t)).getD j 0 = th t (l.getD j 0) := by
  rw [List.getD, List.getD, List.getElem?_map, List.getElem?_eq_getElem hj]; rfl
theorem cmp_len (l : List Int) (c) : (cmpT l c).length = l.length := by simp [cmpT]
theorem run_len (net l) : (runT net l).length = l.length := by
  induction net generalizing l with
  | nil => rfl
  | cons c net ih => show (runT net (cmpT l c)).length = _; rw [ih, cmp_len]
theorem cmp_th {l : List Int} {c : Nat × Nat} (h1 : c.1 < l.length) (h2 : c.2 < l.length) (t : Int) : cmpT (l.map (th t)) c = (cmpT l c).map (th t) := by
  unfold cmpT
  rw [getD_map t h1, getD_map t h2, List.map_set, List.map_set]
  have e1 : (if th t (l.getD c.2 0) < th t (l.getD c.1 0) then th t (l.getD c.2 0) else th t (l.getD c.1 0)) = th t (if l.getD c.2 0 < l.getD c.1 0 then l.getD c.2 0 else l.getD c.1 0) := by
    unfold th; repeat' split
    all_goals omega
  have e2 : (if th t (l.getD c.2 0) > th t (l.getD c.1 0) then th t (l.getD c.2 0) else th t (l.getD c.1 0)) = th t (if l.getD c.2 0 > l.getD c.1 0 then l.getD c.2 0 else l.getD c.1 0) := by
    unfold th; repeat' split
    all_goals omega
  rw [e1, e2]
theorem run_th {net : List (Nat × Nat)} {l : List Int} (h : ∀ c ∈ net, c.1 < l.length ∧ c.2 < l.length) (t : Int) : runT net (l.map (th t)) = (runT net l).map (th t) := by
  induction net generalizing l with
  | nil => rfl
  | cons c net ih =>
    show runT net (cmpT (l.map (th t)) c) = (runT net (cmpT l c)).map (th t)
    rw [cmp_th (h c (by simp)).1 (h c (by simp)).2, ih]
    intro d hd
    rw [cmp_len]
    exact h d (List.mem_cons_of_mem _ hd)
/-- an ascending row's threshold row -/
theorem th_bits : ∀ (l : List Int) (t : Int), l.Pairwise (· ≤ ·) → ∃ a, a ≤ l.length ∧ l.map (th t) = bits01 a l.length
  | [], t, _ => ⟨0, by simp, rfl⟩
  | x :: xs, t, h => by
    obtain ⟨h1, h2⟩ := List.pairwise_cons.mp h
    obtain ⟨a, ha, e⟩ := th_bits xs t h2
    by_cases c : t ≤ x
    · refine ⟨0, by simp, ?_⟩
      have : ∀ y ∈ x :: xs, th t y = 1 := fun y hy => by
        rcases List.mem_cons.mp hy with rfl | hy
        · simp [th, c]
        · have := h1 y hy; unfold th; rw [if_pos (by omega)]
      rw [show bits01 0 (x :: xs).length = List.replicate (x :: xs).length 1 by simp [bits01]]
      exact List.eq_replicate_iff.mpr ⟨by simp, fun z hz => by obtain ⟨y, hy, rfl⟩ := List.mem_map.mp hz; exact this y hy⟩
    · refine ⟨a + 1, by simpa using ha, ?_⟩
      rw [List.map_cons, e]
      have : th t x = 0 := by unfold th; rw [if_neg c]
      rw [this, bits01, bits01, List.replicate_succ, List.length_cons, show xs.length + 1 - (a + 1) = xs.length - a by omega]
      rfl
theorem chk_parts {p q : Nat} (h : chk p q = true) : (∀ c ∈ (nets p q).1, c.1 < p + q ∧ c.2 < p + q ∧ c.1 ≠ c.2) ∧ (∀ w ∈ (nets p q).2, w < p + q) ∧ (nets p q).2.Nodup ∧ sset ((nets p q).2.map fun (k : Nat) => (k : Int)) = (List.range (p + q)).map (fun (k : Nat) => (k : Int)) ∧
    (∀ a b, a ≤ p → b ≤ q → upT (gatT (runT (nets p q).1 (bits01 a p ++ bits01 b q)) (nets p q).2) = true) ∧ (nets p q).1.length ≤ 100 ∧ (nets p q).2.length = p + q := by
  simp only [chk, Bool.and_eq_true, List.all_eq_true, decide_eq_true_eq, beq_iff_eq, List.mem_range] at h
  obtain ⟨⟨⟨⟨⟨⟨h1, h2⟩, h3⟩, h4⟩, h5⟩, h6⟩, h7⟩ := h
  exact ⟨fun c hc => ⟨(h1 c hc).1.1, (h1 c hc).1.2, by simpa using (h1 c hc).2⟩, h2, h3, h4, fun a b ha hb => h5 a (by omega) b (by omega), h6, h7⟩
/-- behind the network, in the order of the wires, each row of two ascending parts ascends -/
theorem merge_up {p q : Nat} (h : chk p q = true) {l m : List Int} (hl : l.length = p) (hm : m.length = q) (sl : l.Pairwise (· ≤ ·)) (sm : m.Pairwise (· ≤ ·)) : upT (gatT (runT (nets p q).1 (l ++ m)) (nets p q).2) = true := by
  obtain ⟨h1, h2, h3, h4, h5, h6, h7⟩ := chk_parts h
  generalize hnet : (nets p q).1 = net at *
  generalize hws : (nets p q).2 = ws at *
  unfold upT
  rw [List.all_eq_true]
  intro k hk
  rw [decide_eq_true_iff]
  have hk' : k + 1 < ws.length := by rw [List.mem_range] at hk; simp [gatT] at hk; omega
  have hlm : (l ++ m).length = p + q := by simp [hl, hm]
  have g : ∀ (r : List Int) (j : Nat), j < ws.length → (gatT r ws).getD j 0 = r.getD (ws.getD j 0) 0 := by
    intro r j hj
    rw [gatT, List.getD, List.getElem?_map, List.getElem?_eq_getElem hj, List.getD_eq_getElem?_getD (l := ws), List.getElem?_eq_getElem hj]; rfl
  have hw : ∀ j, j < ws.length → ws.getD j 0 < p + q := fun j hj => by
    rw [List.getD_eq_getElem?_getD, List.getElem?_eq_getElem hj]
    exact h2 _ (List.getElem_mem hj)
  refine Int.not_lt.mp fun hlt => ?_
  rw [g _ (k + 1) hk', g _ k (by omega)] at hlt
  -- the threshold at the greater one
  obtain ⟨a, ha, ea⟩ := th_bits l ((runT net (l ++ m)).getD (ws.getD k 0) 0) sl
  obtain ⟨b, hb, eb⟩ := th_bits m ((runT net (l ++ m)).getD (ws.getD k 0) 0) sm
  have hu := h5 a b (by omega) (by omega)
  rw [hl] at ea
  rw [hm] at eb
  rw [← ea, ← eb, ← List.map_append, run_th (fun c hc => by rw [hlm]; exact ⟨(h1 c hc).1, (h1 c hc).2.1⟩)] at hu
  unfold upT at hu
  rw [List.all_eq_true] at hu
  have := hu k (by rw [List.mem_range]; simp [gatT]; omega)
  rw [decide_eq_true_iff, g _ k (by omega), g _ (k + 1) hk'] at this
  have hrl : (runT net (l ++ m)).length = p + q := by rw [run_len, hlm]
  rw [getD_map _ (by rw [hrl]; exact hw k (by omega)), getD_map _ (by rw [hrl]; exact hw (k + 1) hk')] at this
  generalize (runT net (l ++ m)).getD (ws.getD k 0) 0 = x at *
  generalize (runT net (l ++ m)).getD (ws.getD (k + 1) 0) 0 = y at *
  unfold th at this
  rw [if_pos (Int.le_refl _), if_neg (by omega)] at this
  omega
/-! the law's own defs -/
theorem at_il {l : List Int} {i : Nat} (hi : i < l.length) : atI (l.map PyData.int) (i : Int) = some (.int (l.getD i 0)) := by
  rw [atI_nat (by simpa using hi), List.getElem?_map, List.getD, List.getElem?_eq_getElem hi]; rfl
theorem up_ok (l : List Int) (hl : l.length ≤ 1000) : _law_up_D [il l] = some (.bool (upT l)) := by
  have r1 : rgOk 1 = true := by decide
  have r2 : rgOk (l.length : Int) = true := rgOk_nat' (by omega) (by omega)
  have et : ((l.length : Int) - 1).toNat = l.length - 1 := by omega
  simp [_law_up_D, body__law_up]
  rw [lcD_map (fun k : Nat => .int ((k + 1 : Nat) : Int)) (fun k => decide (l.getD (k + 1) 0 < l.getD k 0)) (fun k : Nat => .int ((k + 1 : Nat) : Int)) (List.range (l.length - 1))]
  · simp [upT]
    rw [Bool.eq_iff_iff]
    simp
  · simp [r1, r2, kGd_of, et, rgD_map]
    intro k hk
    omega
  · simp
  · rw [List.length_range]; exact le_size (by omega)
  · intro k hk
    rw [List.mem_range] at hk
    have q1 : atI (l.map PyData.int) ((k + 1 : Nat) : Int) = some (.int (l.getD (k + 1) 0)) := at_il (by omega)
    have q2 : atI (l.map PyData.int) (k : Int) = some (.int (l.getD k 0)) := at_il (by omega)
    have e : ((k + 1 : Nat) : Int) - 1 = (k : Int) := by omega
    generalize ((k + 1 : Nat) : Int) = z at *
    exact ⟨_, by simp; rfl, by simp [q1, q2, e], by simp, by rfl⟩
theorem run_ok {n : Int} {net : List (Nat × Nat)} {l : List Int} (h : ∀ c ∈ net, c.1 < l.length ∧ c.2 < l.length ∧ c.1 ≠ c.2) : _law_run_D [.tuple [.int n, .list (net.map sw)], il l] = some (il (runT net l)) := by
  obtain ⟨ρ', q, hl, x3, x4, x5, x6, rfl⟩ := forGo_st (as := asTup 2 (asCons (asName 3) (asCons (asName 4) asNil))) (body := _law_run_f1) sw cmpT
    (fun r ρ => r.length = l.length ∧ ∃ x3 x4 x5 x6, ρ = [some (.fr (.tuple [.int n, .list (net.map sw)])), some (.fr (il l)), some (.ol (r.map .int)), x3, x4, x5, x6]) net l _ ⟨rfl, none, none, none, none, rfl⟩ (by
      rintro r c ρ hm ⟨hr, x3, x4, x5, x6, rfl⟩
      obtain ⟨i, j⟩ := c
      obtain ⟨h1, h2, h3⟩ := h _ hm
      simp only at h1 h2 h3
      have q1 : atI (r.map PyData.int) (i : Int) = some (.int (r.getD i 0)) := at_il (by omega)
      have q2 : atI (r.map PyData.int) (j : Int) = some (.int (r.getD j 0)) := at_il (by omega)
      have i1 : ixN r.length (i : Int) = some i := ixN_nat (by omega)
      have i2 : ixN r.length (j : Int) = some j := ixN_nat (by omega)
      refine ⟨.nx, [_, _, _, some (.fr (.int i)), some (.fr (.int j)), some (.fr (.int (if r.getD j 0 < r.getD i 0 then r.getD j 0 else r.getD i 0))), some (.fr (.int (if r.getD j 0 > r.getD i 0 then r.getD j 0 else r.getD i 0)))], ?_, .inl rfl, by rw [cmp_len]; exact hr, _, _, _, _, rfl⟩
      unfold cmpT
      simp only
      generalize r.getD i 0 = u at *
      generalize r.getD j 0 = v at *
      simp [sw, _law_run_f1, q1, q2, i1, i2, kGd_of])
  simp [_law_run_D, body__law_run, _law_run_l1, atI, ixN, q]
  rfl
/-! rows of bits -/
def bitsT : Nat → List (List Int)
  | 0 => [[]]
  | n + 1 => (bitsT n).foldl (fun more row => more ++ [row ++ [0], row ++ [1]]) []
theorem bitsT_len : ∀ (n : Nat), ∀ r ∈ bitsT n, r.length = n
  | 0, r, h => by rw [bitsT, List.mem_singleton] at h; subst h; rfl
  | n + 1, r, h => by
    have : ∀ (rows more : List (List Int)), (∀ r ∈ rows, r.length = n) → (∀ r ∈ more, r.length = n + 1) → ∀ r ∈ rows.foldl (fun more row => more ++ [row ++ [0], row ++ [1]]) more, r.length = n + 1 := by
      intro rows
      induction rows with
      | nil => exact fun more _ h => h
      | cons x rows ih =>
        intro more h1 h2
        refine ih _ (fun r hr => h1 r (List.mem_cons_of_mem _ hr)) fun r hr => ?_
        have hx := h1 x (by simp)
        rcases List.mem_append.mp hr with q | q
        · exact h2 r q
        · simp at q
          rcases q with rfl | rfl <;> simp [hx]
    exact this _ _ (bitsT_len n) (fun r h => by cases h) r h
theorem bits_all : (List.range 7).all (fun m => decide ((bitsT m).length ≤ 64)) = true := by decide +kernel
theorem bits_ok {m : Nat} (hm : m ≤ 6) : _law_bits_D [.int m] = some (.list ((bitsT m).map il)) := by
  have : m = 0 ∨ m = 1 ∨ m = 2 ∨ m = 3 ∨ m = 4 ∨ m = 5 ∨ m = 6 := by omega
  rcases this with rfl | rfl | rfl | rfl | rfl | rfl | rfl <;> kernel_rfl
theorem sortI (ns : List Int) (hl : ns.length ≤ 1000) : ∃ ms : List Int, dSorted (il ns) = some (ms.map .int) ∧ ms.length = ns.length ∧ ms.Pairwise (· ≤ ·) := by
  refine ⟨ns.mergeSort fun i j => decide (i ≤ j), ?_, by simp, ?_⟩
  · show (if sortOk (ns.map .int) then some (sortD (ns.map .int)) else none) = _
    rw [if_pos (sortOk_ints hl), sortD, ← List.map_mergeSort (r := fun i j => decide (i ≤ j)) (f := PyData.int) fun a _ b _ => (dataLe_int a b).symm]
  · have p := List.pairwise_mergeSort (le := fun (i j : Int) => decide (i ≤ j)) (fun a b c h1 h2 => by simp at *; omega) (fun a b => by simp; omega) ns
    exact p.imp fun h => by simpa using h
theorem up_pair {l : List Int} (h : upT l = true) : l.Pairwise (· ≤ ·) := by
  rw [upT, List.all_eq_true] at h
  rw [List.pairwise_iff_getElem]
  have step : ∀ k, k + 1 < l.length → l.getD k 0 ≤ l.getD (k + 1) 0 := fun k hk => by
    have := h k (by rw [List.mem_range]; omega)
    simpa using this
  have gen : ∀ d i, i + d < l.length → l.getD i 0 ≤ l.getD (i + d) 0 := by
    intro d
    induction d with
    | zero => intro i _; exact Int.le_refl _
    | succ d ih => intro i hi; exact Int.le_trans (ih i (by omega)) (step (i + d) (by omega))
  intro i j hi hj hij
  have := gen (j - i) i (by omega)
  rw [show i + (j - i) = j by omega] at this
  rw [List.getD_eq_getElem?_getD, List.getD_eq_getElem?_getD, List.getElem?_eq_getElem hi, List.getElem?_eq_getElem hj] at this
  simpa using this
theorem some_ok {ps : List PyData} (hp : Pool ps) {n : Nat} (hn : n ≤ 1000) {m : Int} (h0 : 0 < m) (h1 : m < 2 ^ 62) : ∃ l ps', _law_some_row_D ps [.int n, .int m] = some (il l, ps') ∧ l.length = n ∧ Pool ps' := by
  have hr : rgOk (n : Int) = true := rgOk_nat' (by omega) (by omega)
  have hd : dDiv (.int m) (.int 2) = some (.int (m / 2)) := dDiv_int (by decide)
  obtain ⟨ds, ρ', q, hl, hP, ps', hp', rfl⟩ := lcD_inv (vs := [3]) (it := iRange dRange1 (aCons (eVar 1) aNil)) (as := asName 3) (el := e2 (oE (eCallP 0 (aCons (eVar 2) aNil) _law_draw_D)) (oE (e2 (oE (eVar 2)) (oE (eC (.int 2))) dDiv)) dSub) (fun k : Nat => .int k) (fun d => ∃ i, d = .int i)
    (fun ρ => ∃ ps, Pool ps ∧ ρ = [some (.io ps), some (.fr (.int n)), some (.fr (.int m)), none]) (ρ := [some (.io ps), some (.fr (.int n)), some (.fr (.int m)), none]) (List.range n)
    (by simp [hr, kGd_of, rgD0]; rfl) (by simp) (by rw [List.length_range]; exact le_size hn) ⟨ps, hp, by simp⟩ (by
      rintro k ρ hk ⟨ps, hp, rfl⟩
      obtain ⟨v, ps', e, hp', _, _⟩ := draw_ok hp (n := m) h0 (by omega)
      exact ⟨_, .int (v - m / 2), [some (.io ps'), some (.fr (.int n)), some (.fr (.int m)), some (.fr (.int k))], by simp; rfl, by simp [e, hd], ⟨_, rfl⟩, ps', hp', by simp⟩)
  obtain ⟨l, rfl⟩ := ints_of hP
  refine ⟨l, ps', ?_, by simpa using hl, hp'⟩
  have hb : backR [some (EV.io ps), some (.fr (.int n)), some (.fr (.int m)), none] [some (.io ps'), some (.fr (.int n)), some (.fr (.int m)), none] [3] = [some (.io ps'), some (.fr (.int n)), some (.fr (.int m)), none] := rfl
  rw [hb] at q
  simp [_law_some_row_D, body__law_some_row, q]
def Row2 (p q : Nat) (r : List Int) : Prop := ∃ a b, r = a ++ b ∧ a.length = p ∧ b.length = q ∧ a.Pairwise (· ≤ ·) ∧ b.Pairwise (· ≤ ·)
theorem f1_ok {n p : Nat} (hn : n ≤ 8) (hp : p ≤ n) {ps : List PyData} (hP : Pool ps) {rs : List (List Int)} (hr : rs.length ≤ 1000) {x0 x2 x6 x7 x8 x9 x10 x11 : Option EV} :
    ∃ ps' r x7', Pool ps' ∧ Row2 p (n - p) r ∧ law_f1 [x0, some (.ol ps), x2, some (.fr (.int n)), some (.fr (.int p)), some (.ol (rs.map il)), x6, x7, x8, x9, x10, x11]
      = some (.nx, [x0, some (.ol ps'), x2, some (.fr (.int n)), some (.fr (.int p)), some (.ol ((rs ++ [r]).map il)), x6, fz x7', x8, x9, x10, x11]) := by
  obtain ⟨d, ps1, w1, p1, hd⟩ := pick_ok hP (ds := [.int 3, .int 1000]) (by simp)
  obtain ⟨m, rfl, m0, m1⟩ : ∃ m : Int, d = .int m ∧ 0 < m ∧ m < 2 ^ 62 := by
    simp at hd
    rcases hd with rfl | rfl
    · exact ⟨3, rfl, by decide, by decide⟩
    · exact ⟨1000, rfl, by decide, by decide⟩
  obtain ⟨l, ps2, w2, hl, p2⟩ := some_ok p1 (n := n) (by omega) m0 m1
  obtain ⟨a, a1, a2, a3⟩ := sortI (l.take p) (by simp; omega)
  obtain ⟨b, b1, b2, b3⟩ := sortI (l.drop p) (by simp; omega)
  have c1 := cutD_take (l.map PyData.int) (k := p) (by simp; omega)
  have c2 := cutD_drop (l.map PyData.int) (k := p) (by simp; omega)
  rw [← List.map_take] at c1
  rw [← List.map_drop] at c2
  have ha : a.length = p := by rw [a2, List.length_take]; omega
  have hb : b.length = n - p := by rw [b2, List.length_drop]; omega
  have hs : rs.length < sizeLine := Nat.lt_of_le_of_lt hr (by rw [sizeLine_eq]; decide)
  have hz : a.length + b.length ≤ sizeLine := le_size (by omega)
  refine ⟨ps2, a ++ b, some (il l), p2, ⟨a, b, rfl, ha, hb, a3, b3⟩, ?_⟩
  generalize l.take p = lt at *
  generalize l.drop p = ld at *
  simp [law_f1, le_size, kGd_of, w1, w2, c1, c2, a1, b1, hs, hz, fz_some]
theorem f2_ok {p q : Nat} (hc : chk p q = true) {r : List Int} (hr : Row2 p q r) {x0 x1 x2 x3 x4 x5 x6 x10 : Option EV} {k : Int} (h8 : p + q ≤ 8) :
    ∃ x10', law_f2 [x0, x1, x2, x3, x4, x5, x6, some (.fr (il r)), some (.fr (.tuple [.int k, .list ((nets p q).1.map sw)])), some (.fr (nl (nets p q).2)), x10, none]
      = some (.nx, [x0, x1, x2, x3, x4, x5, x6, some (.fr (il r)), some (.fr (.tuple [.int k, .list ((nets p q).1.map sw)])), some (.fr (nl (nets p q).2)), x10', none]) := by
  obtain ⟨a, b, rfl, ha, hb, sa, sb⟩ := hr
  obtain ⟨h1, h2, h3, h4, h5, h6, h7⟩ := chk_parts hc
  have hu := merge_up hc ha hb sa sb
  have hlm : (a ++ b).length = p + q := by simp [ha, hb]
  have w1 := run_ok (n := k) (net := (nets p q).1) (l := a ++ b) fun c hc => by rw [hlm]; exact h1 c hc
  have w2 := up_ok (gatT (runT (nets p q).1 (a ++ b)) (nets p q).2) (by simp [gatT]; omega)
  rw [hu] at w2
  have hrl : (runT (nets p q).1 (a ++ b)).length = p + q := by rw [run_len, hlm]
  generalize a ++ b = ab at *
  generalize runT (nets p q).1 ab = out at *
  refine ⟨some (.fr (il out)), ?_⟩
  simp [law_f2, w1]
  rw [lcD_all (fun w : Nat => .int w) (fun w : Nat => .int (out.getD w 0)) (nets p q).2]
  · have e : (nets p q).2.map (fun w : Nat => PyData.int (out.getD w 0)) = (gatT out (nets p q).2).map .int := by simp [gatT]
    rw [e]
    simp [w2]
  · simp [nl]
  · simp
  · exact le_size (by omega)
  · intro w hw
    have q1 : atI (out.map PyData.int) (w : Int) = some (.int (out.getD w 0)) := at_il (by rw [hrl]; exact h2 w hw)
    generalize out.getD w 0 = y at *
    exact ⟨_, by simp; rfl, by simp [q1], by rfl⟩
theorem dNe_self {x : PyData} (hp : x.plain = true) (hd : x.depth ≤ 60) : dNe x x = some (.bool false) := by
  have := PySem.SeqAt.eqv_refl_plain x hp
  unfold dNe dEqv
  simp [hp, hd, this]
theorem nice_nl (n : Nat) (ks : List Nat) (h : ks.length ≤ 1000) : nice (n + 2) (nl ks) = true := by
  show nice (n + 2) (.list (ks.map fun (k : Nat) => PyData.int k)) = true
  unfold nice
  simp only [Bool.and_eq_true, decide_eq_true_eq, List.all_eq_true]
  refine ⟨by simp; omega, fun x hx => ?_⟩
  obtain ⟨y, _, rfl⟩ := List.mem_map.mp hx
  rfl
theorem nice_sws (n : Nat) (ks : List (Nat × Nat)) (h : ks.length ≤ 1000) : nice (n + 3) (.list (ks.map sw)) = true := by
  unfold nice
  simp only [Bool.and_eq_true, decide_eq_true_eq, List.all_eq_true]
  refine ⟨by simp; omega, fun x hx => ?_⟩
  obtain ⟨y, _, rfl⟩ := List.mem_map.mp hx
  rfl
theorem nice_pair {n : Nat} {a b : PyData} (ha : nice n a = true) (hb : nice n b = true) : nice (n + 1) (.tuple [a, b]) = true := by
  unfold nice
  simp [ha, hb]
theorem l1_ok {n p : Nat} (hn : n ≤ 8) (hp : p ≤ n) {ps : List PyData} (hP : Pool ps) {rs : List (List Int)} (hr : rs.length ≤ 100) (hR : ∀ r ∈ rs, Row2 p (n - p) r) {x0 x2 x6 x8 x9 x10 x11 : Option EV} {x7 : Option PyData} :
    ∃ (ps' : List PyData) (rs' : List (List Int)) (x6' : Option EV) (x7' : Option PyData), Pool ps' ∧ (∀ r ∈ rs', Row2 p (n - p) r) ∧ law_l1 [x0, some (.ol ps), x2, some (.fr (.int n)), some (.fr (.int p)), some (.ol (rs.map il)), x6, fz x7, x8, x9, x10, x11]
      = some (.nx, [x0, some (.ol ps'), x2, some (.fr (.int n)), some (.fr (.int p)), some (.ol (rs'.map il)), x6', fz x7', x8, x9, x10, x11]) := by
  obtain ⟨ρ', q, ps', rs', x6', x7', hP', hR', hl', rfl⟩ := forGo_rng (as := asName 6) (body := law_f1) 8
    (fun k ρ => ∃ (ps : List PyData) (rs : List (List Int)) (x6 : Option EV) (x7 : Option PyData), Pool ps ∧ (∀ r ∈ rs, Row2 p (n - p) r) ∧ rs.length ≤ 100 + k ∧ ρ = [x0, some (.ol ps), x2, some (.fr (.int n)), some (.fr (.int p)), some (.ol (rs.map il)), x6, fz x7, x8, x9, x10, x11]) ⟨ps, rs, x6, x7, hP, hR, hr, rfl⟩ (by
      rintro k ρ hk ⟨ps, rs, x6, x7, hP, hR, hr, rfl⟩
      obtain ⟨ps', r, x7', hP', h2, h⟩ := f1_ok hn hp hP (rs := rs) (by omega) (x0 := x0) (x2 := x2) (x6 := some (.fr (.int k))) (x7 := fz x7) (x8 := x8) (x9 := x9) (x10 := x10) (x11 := x11)
      refine ⟨.nx, _, ?_, .inl rfl, ps', rs ++ [r], some (.fr (.int k)), x7', hP', fun r' hr' => ?_, by simp; omega, rfl⟩
      · simpa using h
      · rcases List.mem_append.mp hr' with q | q
        · exact hR r' q
        · rw [List.mem_singleton] at q; subst q; exact h2)
  have r8 : rgOk 8 = true := by decide
  exact ⟨ps', rs', x6', x7', hP', hR', by simp [law_l1, kGd_of, r8]; exact q⟩
theorem l2_ok {p q : Nat} (hc : chk p q = true) (h8 : p + q ≤ 8) {rs : List (List Int)} (hR : ∀ r ∈ rs, Row2 p q r) {x0 x1 x2 x3 x4 x6 x10 : Option EV} {x7 : Option PyData} {k : Int} :
    ∃ (x7' : Option PyData) (x10' : Option EV), law_l2 [x0, x1, x2, x3, x4, some (.fr (.list (rs.map il))), x6, fz x7, some (.fr (.tuple [.int k, .list ((nets p q).1.map sw)])), some (.fr (nl (nets p q).2)), x10, none]
      = some (.nx, [x0, x1, x2, x3, x4, some (.fr (.list (rs.map il))), x6, fz x7', some (.fr (.tuple [.int k, .list ((nets p q).1.map sw)])), some (.fr (nl (nets p q).2)), x10', none]) := by
  obtain ⟨ρ', w, x7', x10', rfl⟩ := forGo_lst (as := asName 7) (body := law_f2) il rs
    (fun _ ρ => ∃ (x7 : Option PyData) (x10 : Option EV), ρ = [x0, x1, x2, x3, x4, some (.fr (.list (rs.map il))), x6, fz x7, some (.fr (.tuple [.int k, .list ((nets p q).1.map sw)])), some (.fr (nl (nets p q).2)), x10, none]) ⟨x7, x10, rfl⟩ (by
      rintro j r ρ hj ⟨x7, x10, rfl⟩
      obtain ⟨x10', h⟩ := f2_ok hc (hR r (List.mem_of_getElem? hj)) (x0 := x0) (x1 := x1) (x2 := x2) (x3 := x3) (x4 := x4) (x5 := some (.fr (.list (rs.map il)))) (x6 := x6) (x10 := x10) (k := k) h8
      refine ⟨.nx, _, ?_, .inl rfl, some (il r), x10', rfl⟩
      simpa [fz_some] using h)
  exact ⟨x7', x10', by simp [law_l2]; exact w⟩
theorem f3_ok {s : PyData} {x2 x3 x4 x5 x6 x8 x9 x10 : Option EV} {x7 : Option PyData} {ps : List PyData} (hP : Pool ps) :
    ∃ (ps' : List PyData) (x3' x4' x5' x6' x8' x9' x10' : Option EV) (x7' : Option PyData), Pool ps' ∧ law_f3 [some (.fr s), some (.ol ps), x2, x3, x4, x5, x6, fz x7, x8, x9, x10, none]
      = some (.nx, [some (.fr s), some (.ol ps'), x2, x3', x4', x5', x6', fz x7', x8', x9', x10', none]) := by
  obtain ⟨ps1, w1, p1⟩ := next_ok hP
  obtain ⟨v, ps2, w2, p2, v0, v1⟩ := draw_ok p1 (n := 8) (by omega)
  obtain ⟨n, hn⟩ : ∃ n : Nat, 1 + v = (n : Int) := ⟨(1 + v).toNat, by omega⟩
  have n1 : 1 ≤ n := by omega
  have n8 : n ≤ 8 := by omega
  obtain ⟨u, ps3, w3, p3, u0, u1⟩ := draw_ok p2 (n := (n : Int) + 1) (by omega)
  obtain ⟨p, rfl⟩ := Int.eq_ofNat_of_zero_le u0
  have hp : p ≤ n := by omega
  obtain ⟨q, hq⟩ : ∃ q : Nat, p + q = n := ⟨n - p, by omega⟩
  have eq1 : (n : Int) - p = (q : Int) := by omega
  obtain ⟨g1, g2, g3, hc⟩ := facts p q (by omega) (by omega)
  obtain ⟨h1, h2, h3, h4, h5, h6, h7⟩ := chk_parts hc
  have bp : rgB p = true := by simp [rgB]; omega
  have bn : rgB n = true := by simp [rgB]; omega
  have m1 : _law_merger_D 20 [.list (rgD 0 1 p), .list (rgD p 1 q)] = some (.tuple [.list ((nets p q).1.map sw), nl (nets p q).2]) := by
    rw [← g2, rgD0, rgD_map]
    congr 4
  have et : ((n : Int) - p).toNat = q := by omega
  have sm : _law_same_D 20 [.tuple [.list ((nets p q).1.map sw), nl (nets p q).2], .tuple [.list ((nets p q).1.map sw), nl (nets p q).2]] = some (.bool true) :=
    same_refl 20 _ (nice_pair (nice_sws 16 _ (by omega)) (nice_nl 17 _ (by omega)))
  have ds : dSorted (nl (nets p q).2) = some ((List.range n).map fun (k : Nat) => PyData.int k) := by
    have nd : ((nets p q).2.map fun (k : Nat) => (k : Int)).Nodup := by
      rw [List.nodup_iff_pairwise_ne] at h3 ⊢
      exact List.Pairwise.map _ (fun a b h => by omega) h3
    have := dSorted_ints nd (by simp; omega)
    rw [h4, hq, List.map_map, List.map_map] at this
    exact this
  have dn : dNe (.list ((List.range n).map fun (k : Nat) => PyData.int k)) (.list ((List.range n).map fun (k : Nat) => PyData.int k)) = some (.bool false) := by
    refine dNe_self ?_ ?_
    · show PyData.plainAll _ = true
      exact plainAll_map (fun a => rfl) _
    · have := depthAll_map (f := fun (k : Nat) => PyData.int k) (n := 0) (fun a => Nat.le_refl _) (List.range n)
      simp [PyData.depth]; omega
  rw [hq] at g1
  obtain ⟨m, hm, hm6, hmn⟩ : ∃ m : Nat, (if (6 : Int) < n then (6 : Int) else n) = (m : Int) ∧ m ≤ 6 ∧ (n < 7 → m = n) := by
    by_cases c : (6 : Int) < n
    · exact ⟨6, by rw [if_pos c]; rfl, by omega, fun h => by omega⟩
    · exact ⟨n, by rw [if_neg c], by omega, fun _ => rfl⟩
  let b : List Int → Bool := fun r => decide (n < 7) && (upT (r.take p) && upT (r.drop p))
  have hbits := bits_ok hm6
  have hR : ∀ r ∈ (bitsT m).filter b, Row2 p (n - p) r := fun r hr => by
    obtain ⟨hr1, hr2⟩ := List.mem_filter.mp hr
    simp only [b, Bool.and_eq_true, decide_eq_true_eq] at hr2
    have hl := bitsT_len m r hr1
    have := hmn hr2.1
    exact ⟨r.take p, r.drop p, (List.take_append_drop p r).symm, by rw [List.length_take]; omega, by rw [List.length_drop]; omega, up_pair hr2.2.1, up_pair hr2.2.2⟩
  have hbl : (bitsT m).length ≤ 64 := by
    have := bits_all
    rw [List.all_eq_true] at this
    simpa using this m (List.mem_range.mpr (by omega))
  have hrl : ((bitsT m).filter b).length ≤ 100 := Nat.le_trans (List.length_filter_le _ _) (by omega)
  obtain ⟨ps', rs', x6', x7', p4, hR', w4⟩ := l1_ok n8 hp p3 hrl hR (x0 := some (.fr s)) (x2 := x2) (x6 := x6) (x7 := x7) (x8 := some (.fr (.tuple [.int n, .list ((nets p q).1.map sw)]))) (x9 := some (.fr (nl (nets p q).2))) (x10 := x10) (x11 := none)
  have eq2 : n - p = q := by omega
  rw [eq2] at hR'
  obtain ⟨x7'', x10', w5⟩ := l2_ok hc (by omega) hR' (x0 := some (.fr s)) (x1 := some (.ol ps')) (x2 := x2) (x3 := some (.fr (.int n))) (x4 := some (.fr (.int p))) (x6 := x6') (x7 := x7') (x10 := x10) (k := n)
  refine ⟨ps', some (.fr (.int n)), some (.fr (.int p)), some (.fr (.list (rs'.map il))), x6', some (.fr (.tuple [.int n, .list ((nets p q).1.map sw)])), some (.fr (nl (nets p q).2)), x10', x7'', p4, ?_⟩
  generalize nl (nets p q).2 = W at *
  generalize hN : (nets p q).1.map sw = N at *
  have hNl : N.length = (nets p q).1.length := by rw [← hN]; simp
  rw [rgD0] at m1
  simp [law_f3, w1, w2, hn, w3, eq1, g1, kGd_of, atI, ixN, bp, bn, m1, le_size, sm, ds, rgD0, g3, hNl, dn]
  rw [lcD_map il b il (bitsT m)]
  · simp only [kb_some, setNK_app, seqK_nx]
    simp [w4, w5]
  · have hm' : (if (n : Int) > 6 then (6 : Int) else n) = (m : Int) := hm
    simp [hm, hbits]
  · simp
  · exact le_size (by omega)
  · intro r hr
    have hl := bitsT_len m r hr
    refine ⟨_, by simp; rfl, ?_, by simp, by rfl⟩
    by_cases c7 : n < 7
    · have hmn' := hmn c7
      have c7' : (n : Int) < 7 := by omega
      have c1 := cutD_take (r.map PyData.int) (k := p) (by simp; omega)
      have c2 := cutD_drop (r.map PyData.int) (k := p) (by simp; omega)
      rw [← List.map_take] at c1
      rw [← List.map_drop] at c2
      have u1 := up_ok (r.take p) (by simp; omega)
      have u2 := up_ok (r.drop p) (by simp; omega)
      simp only [b, c7, decide_true, Bool.true_and]
      generalize upT (r.take p) = y1 at *
      generalize upT (r.drop p) = y2 at *
      generalize r.take p = lt at *
      generalize r.drop p = ld at *
      cases y1 <;> simp [c7', c1, c2, u1, u2]
    · have c7' : ¬ (n : Int) < 7 := by omega
      simp [b, c7, c7']
theorem law_true (ns : List Int) (hl : ns.length ≤ 63) : law_D [.list (ns.map .int)] = some (.bool true) := by
  obtain ⟨ps, e, p⟩ := pool_ok ns
  obtain ⟨ρ', q, ps', x2, x3, x4, x5, x6, x7, x8, x9, x10, p', rfl⟩ := forGo_rng (as := asName 2) (body := law_f3) 2 (fun _ ρ => ∃ (ps : List PyData) (x2 x3 x4 x5 x6 : Option EV) (x7 : Option PyData) (x8 x9 x10 : Option EV), Pool ps ∧ ρ = [some (.fr (il ns)), some (.ol ps), x2, x3, x4, x5, x6, fz x7, x8, x9, x10, none])
    (ρ := [some (.fr (il ns)), some (.ol ps), none, none, none, none, none, none, none, none, none, none]) ⟨ps, none, none, none, none, none, none, none, none, none, p, rfl⟩ (by
      rintro k ρ hd ⟨ps, x2, x3, x4, x5, x6, x7, x8, x9, x10, p, rfl⟩
      obtain ⟨ps', y3, y4, y5, y6, y8, y9, y10, y7, p', h⟩ := f3_ok (s := il ns) (x2 := some (.fr (.int k))) (x3 := x3) (x4 := x4) (x5 := x5) (x6 := x6) (x7 := x7) (x8 := x8) (x9 := x9) (x10 := x10) p
      exact ⟨.nx, _, by simpa using h, .inl rfl, ps', some (.fr (.int k)), y3, y4, y5, y6, y7, y8, y9, y10, p', rfl⟩)
  simp [law_D, body_law, e, law_l3, kGd_of, rgOk_nat', q]
end K89
namespace K89
open PySem PySem.Spec L2 PD
theorem all_mk {l : PySem.W.OpenLaw} {w : World} {K : PySem.W.Frag} {h : Heap} {mg : Str → Option Value} {fa f1 f2 f3 f4 f5 f6 f7 f8 f9 f10 f11 f12 f13 f14 f15 f16 : Addr} (X : K.In h) (G : h.Ns mainGlobals mg) (hfa : mg "law" = some (.ref fa))
    {od1 an1 od2 an2 od3 an3 od4 an4 od5 an5 od6 an6 od7 an7 od8 an8 od9 an9 od10 an10 od11 an11 od12 an12 od13 an13 od14 an14 od15 an15 od16 an16 : Option Addr} {sl1 sl2 sl3 sl4 sl5 sl6 sl7 sl8 sl9 sl10 sl11 sl12 sl13 sl14 sl15 sl16 : Array (Option Value)} {oc1 kV1 dc1 pm1 cd1 ct1 oc2 kV2 dc2 pm2 cd2 ct2 oc3 kV3 dc3 pm3 cd3 ct3 oc4 kV4 dc4 pm4 cd4 ct4 oc5 kV5 dc5 pm5 cd5 ct5 oc6 kV6 dc6 pm6 cd6 ct6 oc7 kV7 dc7 pm7 cd7 ct7 oc8 kV8 dc8 pm8 cd8 ct8 oc9 kV9 dc9 pm9 cd9 ct9 oc10 kV10 dc10 pm10 cd10 ct10 oc11 kV11 dc11 pm11 cd11 ct11 oc12 kV12 dc12 pm12 cd12 ct12 oc13 kV13 dc13 pm13 cd13 ct13 oc14 kV14 dc14 pm14 cd14 ct14 oc15 kV15 dc15 pm15 cd15 ct15 oc16 kV16 dc16 pm16 cd16 ct16 : Value}
    (a1 : PySem.W.nsIn K mainGlobals "merger_of" = some (some (.ref f1))) (l1 : K.lookup f1 = some ⟨oc1, od1, .func (PySem.W.fnOf "merger_of" "merger_of" (defArgs s_merger_of) (defBody s_merger_of) (defScope s_merger_of) .none kV1 dc1 pm1 an1 cd1 ct1), sl1⟩) (c1 : PySem.W.codeIn K cd1 "merger_of" = true) (k1 : PySem.W.keepIn K (.ref f1) = true)
    (a2 : PySem.W.nsIn K mainGlobals "merging" = some (some (.ref f2))) (l2 : K.lookup f2 = some ⟨oc2, od2, .func (PySem.W.fnOf "merging" "merging" (defArgs s_merging) (defBody s_merging) (defScope s_merging) .none kV2 dc2 pm2 an2 cd2 ct2), sl2⟩) (c2 : PySem.W.codeIn K cd2 "merging" = true) (k2 : PySem.W.keepIn K (.ref f2) = true)
    (a3 : PySem.W.nsIn K mainGlobals "_law_mixed" = some (some (.ref f3))) (l3 : K.lookup f3 = some ⟨oc3, od3, .func (PySem.W.fnOf "_law_mixed" "_law_mixed" (defArgs s__law_mixed) (defBody s__law_mixed) (defScope s__law_mixed) .none kV3 dc3 pm3 an3 cd3 ct3), sl3⟩) (c3 : PySem.W.codeIn K cd3 "_law_mixed" = true) (k3 : PySem.W.keepIn K (.ref f3) = true)
    (a4 : PySem.W.nsIn K mainGlobals "_law_rest" = some (some (.ref f4))) (l4 : K.lookup f4 = some ⟨oc4, od4, .func (PySem.W.fnOf "_law_rest" "_law_rest" (defArgs s__law_rest) (defBody s__law_rest) (defScope s__law_rest) .none kV4 dc4 pm4 an4 cd4 ct4), sl4⟩) (c4 : PySem.W.codeIn K cd4 "_law_rest" = true) (k4 : PySem.W.keepIn K (.ref f4) = true)
    (a5 : PySem.W.nsIn K mainGlobals "_law_pool" = some (some (.ref f5))) (l5 : K.lookup f5 = some ⟨oc5, od5, .func (PySem.W.fnOf "_law_pool" "_law_pool" (defArgs s__law_pool) (defBody s__law_pool) (defScope s__law_pool) .none kV5 dc5 pm5 an5 cd5 ct5), sl5⟩) (c5 : PySem.W.codeIn K cd5 "_law_pool" = true) (k5 : PySem.W.keepIn K (.ref f5) = true)
    (a6 : PySem.W.nsIn K mainGlobals "_law_next" = some (some (.ref f6))) (l6 : K.lookup f6 = some ⟨oc6, od6, .func (PySem.W.fnOf "_law_next" "_law_next" (defArgs s__law_next) (defBody s__law_next) (defScope s__law_next) .none kV6 dc6 pm6 an6 cd6 ct6), sl6⟩) (c6 : PySem.W.codeIn K cd6 "_law_next" = true) (k6 : PySem.W.keepIn K (.ref f6) = true)
    (a7 : PySem.W.nsIn K mainGlobals "_law_draw" = some (some (.ref f7))) (l7 : K.lookup f7 = some ⟨oc7, od7, .func (PySem.W.fnOf "_law_draw" "_law_draw" (defArgs s__law_draw) (defBody s__law_draw) (defScope s__law_draw) .none kV7 dc7 pm7 an7 cd7 ct7), sl7⟩) (c7 : PySem.W.codeIn K cd7 "_law_draw" = true) (k7 : PySem.W.keepIn K (.ref f7) = true)
    (a8 : PySem.W.nsIn K mainGlobals "_law_same" = some (some (.ref f8))) (l8 : K.lookup f8 = some ⟨oc8, od8, .func (PySem.W.fnOf "_law_same" "_law_same" (defArgs s__law_same) (defBody s__law_same) (defScope s__law_same) .none kV8 dc8 pm8 an8 cd8 ct8), sl8⟩) (c8 : PySem.W.codeIn K cd8 "_law_same" = true) (k8 : PySem.W.keepIn K (.ref f8) = true)
    (a9 : PySem.W.nsIn K mainGlobals "_law_bits" = some (some (.ref f9))) (l9 : K.lookup f9 = some ⟨oc9, od9, .func (PySem.W.fnOf "_law_bits" "_law_bits" (defArgs s__law_bits) (defBody s__law_bits) (defScope s__law_bits) .none kV9 dc9 pm9 an9 cd9 ct9), sl9⟩) (c9 : PySem.W.codeIn K cd9 "_law_bits" = true) (k9 : PySem.W.keepIn K (.ref f9) = true)
    (a10 : PySem.W.nsIn K mainGlobals "_law_up" = some (some (.ref f10))) (l10 : K.lookup f10 = some ⟨oc10, od10, .func (PySem.W.fnOf "_law_up" "_law_up" (defArgs s__law_up) (defBody s__law_up) (defScope s__law_up) .none kV10 dc10 pm10 an10 cd10 ct10), sl10⟩) (c10 : PySem.W.codeIn K cd10 "_law_up" = true) (k10 : PySem.W.keepIn K (.ref f10) = true)
    (a11 : PySem.W.nsIn K mainGlobals "_law_some_row" = some (some (.ref f11))) (l11 : K.lookup f11 = some ⟨oc11, od11, .func (PySem.W.fnOf "_law_some_row" "_law_some_row" (defArgs s__law_some_row) (defBody s__law_some_row) (defScope s__law_some_row) .none kV11 dc11 pm11 an11 cd11 ct11), sl11⟩) (c11 : PySem.W.codeIn K cd11 "_law_some_row" = true) (k11 : PySem.W.keepIn K (.ref f11) = true)
    (a12 : PySem.W.nsIn K mainGlobals "_law_pick" = some (some (.ref f12))) (l12 : K.lookup f12 = some ⟨oc12, od12, .func (PySem.W.fnOf "_law_pick" "_law_pick" (defArgs s__law_pick) (defBody s__law_pick) (defScope s__law_pick) .none kV12 dc12 pm12 an12 cd12 ct12), sl12⟩) (c12 : PySem.W.codeIn K cd12 "_law_pick" = true) (k12 : PySem.W.keepIn K (.ref f12) = true)
    (a13 : PySem.W.nsIn K mainGlobals "_law_run" = some (some (.ref f13))) (l13 : K.lookup f13 = some ⟨oc13, od13, .func (PySem.W.fnOf "_law_run" "_law_run" (defArgs s__law_run) (defBody s__law_run) (defScope s__law_run) .none kV13 dc13 pm13 an13 cd13 ct13), sl13⟩) (c13 : PySem.W.codeIn K cd13 "_law_run" = true) (k13 : PySem.W.keepIn K (.ref f13) = true)
    (a14 : PySem.W.nsIn K mainGlobals "_law_merger" = some (some (.ref f14))) (l14 : K.lookup f14 = some ⟨oc14, od14, .func (PySem.W.fnOf "_law_merger" "_law_merger" (defArgs s__law_merger) (defBody s__law_merger) (defScope s__law_merger) .none kV14 dc14 pm14 an14 cd14 ct14), sl14⟩) (c14 : PySem.W.codeIn K cd14 "_law_merger" = true) (k14 : PySem.W.keepIn K (.ref f14) = true)
    (a15 : PySem.W.nsIn K mainGlobals "_law_c" = some (some (.ref f15))) (l15 : K.lookup f15 = some ⟨oc15, od15, .func (PySem.W.fnOf "_law_c" "_law_c" (defArgs s__law_c) (defBody s__law_c) (defScope s__law_c) .none kV15 dc15 pm15 an15 cd15 ct15), sl15⟩) (c15 : PySem.W.codeIn K cd15 "_law_c" = true) (k15 : PySem.W.keepIn K (.ref f15) = true)
    (a16 : PySem.W.nsIn K mainGlobals "law" = some (some (.ref f16))) (l16 : K.lookup f16 = some ⟨oc16, od16, .func (PySem.W.fnOf "law" "law" (defArgs s_law) (defBody s_law) (defScope s_law) .none kV16 dc16 pm16 an16 cd16 ct16), sl16⟩) (c16 : PySem.W.codeIn K cd16 "law" = true) (k16 : PySem.W.keepIn K (.ref f16) = true)
    (z1 : PySem.W.nsIn K mainGlobals "bool" = some none)
    (z2 : PySem.W.nsIn K mainGlobals "dict" = some none)
    (z3 : PySem.W.nsIn K mainGlobals "enumerate" = some none)
    (z4 : PySem.W.nsIn K mainGlobals "int" = some none)
    (z5 : PySem.W.nsIn K mainGlobals "isinstance" = some none)
    (z6 : PySem.W.nsIn K mainGlobals "len" = some none)
    (z7 : PySem.W.nsIn K mainGlobals "list" = some none)
    (z8 : PySem.W.nsIn K mainGlobals "max" = some none)
    (z9 : PySem.W.nsIn K mainGlobals "min" = some none)
    (z10 : PySem.W.nsIn K mainGlobals "range" = some none)
    (z11 : PySem.W.nsIn K mainGlobals "sorted" = some none)
    (z12 : PySem.W.nsIn K mainGlobals "str" = some none)
    (z13 : PySem.W.nsIn K mainGlobals "tuple" = some none) :
    ∃ fd : FuncData, (∀ (s : Shared) (v : Value), BindsTo s fd ⟨[v], []⟩ [("script", v)]) ∧ ∀ base : Heap, K.In base → base.Ns mainGlobals mg → FnOk l.prog w K mg base CX0 23 fa fd ["script"] (spLaw K) := by
  have e := hfa.symm.trans (PySem.W.mg_of X G a16)
  cases e
  have T : Txt mg := ⟨PySem.W.mg_none_of X G z1, PySem.W.mg_none_of X G z2, PySem.W.mg_none_of X G z3, PySem.W.mg_none_of X G z4, PySem.W.mg_none_of X G z5, PySem.W.mg_none_of X G z6, PySem.W.mg_none_of X G z7, PySem.W.mg_none_of X G z8, PySem.W.mg_none_of X G z9, PySem.W.mg_none_of X G z10, PySem.W.mg_none_of X G z11, PySem.W.mg_none_of X G z12, PySem.W.mg_none_of X G z13⟩
  have F1 := fun_mk (st := s_merger_of) l1 c1 k1
  have b1 := F1.binds (ps := ["one", "other"]) fun _ _ _ _ _ _ us hl => match us, hl with | [_, _], _ => rfl
  have F2 := fun_mk (st := s_merging) l2 c2 k2
  have b2 := F2.binds (ps := ["p", "q"]) fun _ _ _ _ _ _ us hl => match us, hl with | [_, _], _ => rfl
  have F3 := fun_mk (st := s__law_mixed) l3 c3 k3
  have b3 := F3.binds (ps := ["number", "place"]) fun _ _ _ _ _ _ us hl => match us, hl with | [_, _], _ => rfl
  have F4 := fun_mk (st := s__law_rest) l4 c4 k4
  have b4 := F4.binds (ps := ["script", "place", "fills"]) fun _ _ _ _ _ _ us hl => match us, hl with | [_, _, _], _ => rfl
  have F5 := fun_mk (st := s__law_pool) l5 c5 k5
  have b5 := F5.binds (ps := ["script"]) fun _ _ _ _ _ _ us hl => match us, hl with | [_], _ => rfl
  have F6 := fun_mk (st := s__law_next) l6 c6 k6
  have b6 := F6.binds (ps := ["pool"]) fun _ _ _ _ _ _ us hl => match us, hl with | [_], _ => rfl
  have F7 := fun_mk (st := s__law_draw) l7 c7 k7
  have b7 := F7.binds (ps := ["pool", "limit"]) fun _ _ _ _ _ _ us hl => match us, hl with | [_, _], _ => rfl
  have F8 := fun_mk (st := s__law_same) l8 c8 k8
  have b8 := F8.binds (ps := ["actual", "due"]) fun _ _ _ _ _ _ us hl => match us, hl with | [_, _], _ => rfl
  have F9 := fun_mk (st := s__law_bits) l9 c9 k9
  have b9 := F9.binds (ps := ["wires"]) fun _ _ _ _ _ _ us hl => match us, hl with | [_], _ => rfl
  have F10 := fun_mk (st := s__law_up) l10 c10 k10
  have b10 := F10.binds (ps := ["row"]) fun _ _ _ _ _ _ us hl => match us, hl with | [_], _ => rfl
  have F11 := fun_mk (st := s__law_some_row) l11 c11 k11
  have b11 := F11.binds (ps := ["pool", "wires", "most"]) fun _ _ _ _ _ _ us hl => match us, hl with | [_, _, _], _ => rfl
  have F12 := fun_mk (st := s__law_pick) l12 c12 k12
  have b12 := F12.binds (ps := ["pool", "options"]) fun _ _ _ _ _ _ us hl => match us, hl with | [_, _], _ => rfl
  have F13 := fun_mk (st := s__law_run) l13 c13 k13
  have b13 := F13.binds (ps := ["network", "row"]) fun _ _ _ _ _ _ us hl => match us, hl with | [_, _], _ => rfl
  have F14 := fun_mk (st := s__law_merger) l14 c14 k14
  have b14 := F14.binds (ps := ["one", "other"]) fun _ _ _ _ _ _ us hl => match us, hl with | [_, _], _ => rfl
  have F15 := fun_mk (st := s__law_c) l15 c15 k15
  have b15 := F15.binds (ps := ["p", "q"]) fun _ _ _ _ _ _ us hl => match us, hl with | [_, _], _ => rfl
  have F16 := fun_mk (st := s_law) l16 c16 k16
  refine ⟨PySem.W.fnOf "law" "law" (defArgs s_law) (defBody s_law) (defScope s_law) .none kV16 dc16 pm16 an16 cd16 ct16, fun s v => .of_eq rfl, fun base _ _ => ?_⟩
  have C1 : Cal l.prog w K mg base "merger_of" ["one", "other"] 21 (spD K 2 (merger_of_D 20)) := ⟨⟨f1, _, (ok_merger_of F1 T (PySem.W.mg_of X G a1) b1 20).mono (by decide), PySem.W.mg_of X G a1, F1.kp, b1⟩⟩
  have C2 : Cal l.prog w K mg base "merging" ["p", "q"] 22 (spD K 2 merging_D) := ⟨⟨f2, _, ok_merging F2 T C1, PySem.W.mg_of X G a2, F2.kp, b2⟩⟩
  have C3 : Cal l.prog w K mg base "_law_mixed" ["number", "place"] 1 (spD K 2 _law_mixed_D) := ⟨⟨f3, _, ok__law_mixed F3 T, PySem.W.mg_of X G a3, F3.kp, b3⟩⟩
  have C4 : Cal l.prog w K mg base "_law_rest" ["script", "place", "fills"] 2 (spD K 3 _law_rest_D) := ⟨⟨f4, _, ok__law_rest F4 T C3, PySem.W.mg_of X G a4, F4.kp, b4⟩⟩
  have C5 : Cal l.prog w K mg base "_law_pool" ["script"] 3 (spN K 1 _law_pool_D) := ⟨⟨f5, _, ok__law_pool F5 T C4, PySem.W.mg_of X G a5, F5.kp, b5⟩⟩
  have C6 : Cal l.prog w K mg base "_law_next" ["pool"] 3 (spP K 0 _law_next_D) := ⟨⟨f6, _, ok__law_next F6 T C4, PySem.W.mg_of X G a6, F6.kp, b6⟩⟩
  have C7 : Cal l.prog w K mg base "_law_draw" ["pool", "limit"] 3 (spP K 1 _law_draw_D) := ⟨⟨f7, _, ok__law_draw F7 T C4, PySem.W.mg_of X G a7, F7.kp, b7⟩⟩
  have C8 : Cal l.prog w K mg base "_law_same" ["actual", "due"] 21 (spD K 2 (_law_same_D 20)) := ⟨⟨f8, _, (ok__law_same F8 T (PySem.W.mg_of X G a8) b8 20).mono (by decide), PySem.W.mg_of X G a8, F8.kp, b8⟩⟩
  have C9 : Cal l.prog w K mg base "_law_bits" ["wires"] 1 (spD K 1 _law_bits_D) := ⟨⟨f9, _, ok__law_bits F9 T, PySem.W.mg_of X G a9, F9.kp, b9⟩⟩
  have C10 : Cal l.prog w K mg base "_law_up" ["row"] 1 (spD K 1 _law_up_D) := ⟨⟨f10, _, ok__law_up F10 T, PySem.W.mg_of X G a10, F10.kp, b10⟩⟩
  have C11 : Cal l.prog w K mg base "_law_some_row" ["pool", "wires", "most"] 4 (spP K 2 _law_some_row_D) := ⟨⟨f11, _, ok__law_some_row F11 T C7, PySem.W.mg_of X G a11, F11.kp, b11⟩⟩
  have C12 : Cal l.prog w K mg base "_law_pick" ["pool", "options"] 4 (spP K 1 _law_pick_D) := ⟨⟨f12, _, ok__law_pick F12 T C7, PySem.W.mg_of X G a12, F12.kp, b12⟩⟩
  have C13 : Cal l.prog w K mg base "_law_run" ["network", "row"] 1 (spD K 2 _law_run_D) := ⟨⟨f13, _, ok__law_run F13 T, PySem.W.mg_of X G a13, F13.kp, b13⟩⟩
  have C14 : Cal l.prog w K mg base "_law_merger" ["one", "other"] 21 (spD K 2 (_law_merger_D 20)) := ⟨⟨f14, _, (ok__law_merger F14 T (PySem.W.mg_of X G a14) b14 20).mono (by decide), PySem.W.mg_of X G a14, F14.kp, b14⟩⟩
  have C15 : Cal l.prog w K mg base "_law_c" ["p", "q"] 21 (spD K 2 (_law_c_D 20)) := ⟨⟨f15, _, (ok__law_c F15 T (PySem.W.mg_of X G a15) b15 20).mono (by decide), PySem.W.mg_of X G a15, F15.kp, b15⟩⟩
  exact (ok_law F16 T C5 C6 C7 C2 C11 C13 C8 C15 C9 C12 C10 C14).imp (law_imp law_true)
end K89

open PySem PySem.W PyProof.Rows in
set_option maxRecDepth 100000 in
set_option maxHeartbeats 0 in
theorem PySem.Challenge.cw_crosswire_k89_whole_mergers_holds : PySem.Challenge.rw_crosswire_k89_whole_mergers.Holds := by
  w_on; o_law; k_head; (case hw => w_witness2)
  k_fill
  refine PD.walk (k := 23) (l := PySem.Challenge.rw_crosswire_k89_whole_mergers) ⟨rfl, by decide, by decide⟩ rfl rfl (fun w h Y => PySem.W.kIn_of Y) ?F
  case F =>
    intro w mg fa h KX G hmg
    refine' K89.all_mk KX G hmg ?a1 ?l1 ?c1 ?k1 ?a2 ?l2 ?c2 ?k2 ?a3 ?l3 ?c3 ?k3 ?a4 ?l4 ?c4 ?k4 ?a5 ?l5 ?c5 ?k5 ?a6 ?l6 ?c6 ?k6 ?a7 ?l7 ?c7 ?k7 ?a8 ?l8 ?c8 ?k8 ?a9 ?l9 ?c9 ?k9 ?a10 ?l10 ?c10 ?k10 ?a11 ?l11 ?c11 ?k11 ?a12 ?l12 ?c12 ?k12 ?a13 ?l13 ?c13 ?k13 ?a14 ?l14 ?c14 ?k14 ?a15 ?l15 ?c15 ?k15 ?a16 ?l16 ?c16 ?k16 ?z1 ?z2 ?z3 ?z4 ?z5 ?z6 ?z7 ?z8 ?z9 ?z10 ?z11 ?z12 ?z13
    (case a1 => k_is)
    (case l1 => k_is)
    (case c1 => k_is)
    (case k1 => k_is)
    (case a2 => k_is)
    (case l2 => k_is)
    (case c2 => k_is)
    (case k2 => k_is)
    (case a3 => k_is)
    (case l3 => k_is)
    (case c3 => k_is)
    (case k3 => k_is)
    (case a4 => k_is)
    (case l4 => k_is)
    (case c4 => k_is)
    (case k4 => k_is)
    (case a5 => k_is)
    (case l5 => k_is)
    (case c5 => k_is)
    (case k5 => k_is)
    (case a6 => k_is)
    (case l6 => k_is)
    (case c6 => k_is)
    (case k6 => k_is)
    (case a7 => k_is)
    (case l7 => k_is)
    (case c7 => k_is)
    (case k7 => k_is)
    (case a8 => k_is)
    (case l8 => k_is)
    (case c8 => k_is)
    (case k8 => k_is)
    (case a9 => k_is)
    (case l9 => k_is)
    (case c9 => k_is)
    (case k9 => k_is)
    (case a10 => k_is)
    (case l10 => k_is)
    (case c10 => k_is)
    (case k10 => k_is)
    (case a11 => k_is)
    (case l11 => k_is)
    (case c11 => k_is)
    (case k11 => k_is)
    (case a12 => k_is)
    (case l12 => k_is)
    (case c12 => k_is)
    (case k12 => k_is)
    (case a13 => k_is)
    (case l13 => k_is)
    (case c13 => k_is)
    (case k13 => k_is)
    (case a14 => k_is)
    (case l14 => k_is)
    (case c14 => k_is)
    (case k14 => k_is)
    (case a15 => k_is)
    (case l15 => k_is)
    (case c15 => k_is)
    (case k15 => k_is)
    (case a16 => k_is)
    (case l16 => k_is)
    (case c16 => k_is)
    (case k16 => k_is)
    (case z1 => k_is)
    (case z2 => k_is)
    (case z3 => k_is)
    (case z4 => k_is)
    (case z5 => k_is)
    (case z6 => k_is)
    (case z7 => k_is)
    (case z8 => k_is)
    (case z9 => k_is)
    (case z10 => k_is)
    (case z11 => k_is)
    (case z12 => k_is)
    (case z13 => k_is)
